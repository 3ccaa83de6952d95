import PyProof.Rows.All
import Wide.All
import OpenK.AllK
import Wide.FinOn
import HandS.ForMost
import HandS.Walk
import HandS.Zip
import HandS.Lambda
import HandS.TupAny
import HandS.IsInst
import HandS.Deep
import KE.GoesMore
import KE.KTupSum
import HandS.TupLen
import HandS.Conv
import HandS.TupMul
import KE.DataFind
import KE.KSortTupG
import HandS.SortInts
import HandS.More
import HandS.ForExc
import HandS.ExcInit
import HandS.ExcIs
import HandS.ExcField
import HandS.Text
import PySem.Challenge.RW_codehouse_k33_written_and_read
set_option Elab.async false
set_option linter.all false
set_option maxRecDepth 100000
namespace CB
open PySem PySem.Spec PyProof.Rows L2

/-! a lambda, as an object of the heap -/
abbrev lamFn (dv : Value) (name qual : Str) (params : Arguments) (body : Expr) (scope : Scope) (cl : List (Str × Addr)) (pm cdv ct : Value) : FuncData :=
  { name, qualname := qual, params, body := .expr body, scope, globals := mainGlobals, closure := cl, defaults := dv, kwdefaults := .none, doc := .none, pyModule := pm, annotations := none, code := cdv, closureTuple := ct, builtins := builtinsNs }
abbrev lamObj (dv : Value) (name qual : Str) (params : Arguments) (body : Expr) (scope : Scope) (clos : List (Str × Addr)) (pm : Value) (c' : Addr) (ctv : Value) : Obj :=
  { cls := .type "function", data := .func (lamFn dv name qual params body scope clos pm (.ref c') ctv) }
def FunO (dvv : Value) (q : Str) (params : Arguments) (body : Expr) (scope : Scope) (cl : List (Str × Addr)) (f c' : Addr) : HO :=
  .ext fun h => ∃ pm ctv, h.get? f = some (lamObj dvv "<lambda>" q params body scope cl pm c' ctv)
/-- which lambda it is: j its number, d whether it has a default (0) -/
structure Lam where
  j : Nat
  d : Bool
  params : Arguments
  body : Expr
  scope : Scope
  cl : List (Str × Addr)
  q : Str
def LamAt (l : Lam) (H : Hp) (f : Addr) : Prop := ∃ c' T, H f = some (FunO (if l.d then .ref T else .none) l.q l.params l.body l.scope l.cl f c') ∧ H c' = some (LamX.CodeO c' l.q) ∧ (l.d = true → H T = some (.tup [.int 0]))
theorem LamAt.kept {l : Lam} {H H' : Hp} {f : Addr} (he : ∀ b φ, H b = some (.ext φ) → H' b = some (.ext φ)) (ht : ∀ b xs, H b = some (.tup xs) → H' b = some (.tup xs)) (h : LamAt l H f) : LamAt l H' f := by
  obtain ⟨c', T, h1, h2, h3⟩ := h
  exact ⟨c', T, he _ _ h1, he _ _ h2, fun z => ht _ _ (h3 z)⟩

/-! data -/
inductive D where
  | non | bl (b : Bool) | int (i : Int) | str (s : Str)
  | tup (xs : List D) | lst (xs : List D) | fro (xs : List D)
  | dK (ks : List Key) (vs : List D) | dT (ks : List (List Key)) (vs : List D)
  | val (v : V)
  | fdk (xs : List D)
  | fdv (xs : List D)
  | lam (l : Lam)

def kD : Key → D
  | .inl i => .int i
  | .inr s => .str s
/-- the keys of a dict, as they come -/
def KeysOf : HO → List D → Prop
  | .dK kvs, xs => xs = kvs.map fun kv => kD kv.1
  | .dT kvs, xs => xs = kvs.map fun kv => .tup (kv.1.map kD)
  | _, _ => False
mutual
def D.imm : D → Bool
  | .lst _ => false
  | .dK _ _ => false
  | .dT _ _ => false
  | .fdk _ => false
  | .fdv _ => false
  | .tup xs => immL xs
  | .fro xs => immL xs
  | .non => true
  | .bl _ => true
  | .int _ => true
  | .str _ => true
  | .val _ => true
  | .lam _ => true
def immL : List D → Bool
  | [] => true
  | x :: xs => x.imm && immL xs
end

def Frz (K : PySem.W.Frag) (H : Hp) (a : Addr) (vs : List V) : Prop :=
  (∃ o, H a = some (.frz o (.lst vs))) ∨
    ∃ (o : Obj) (its : Array Value) (n : Nat), K.lookup a = some o ∧ o.cls = .type "list" ∧ o.dict = none ∧ o.data = .seq its n ∧ its.size ≤ sizeLine ∧ Vals vs its.toList
theorem Frz.sq {K : PySem.W.Frag} {H : Hp} {a : Addr} {vs : List V} (h : Frz K H a vs) : SqL K H a vs := by
  rcases h with ⟨o, h⟩ | h
  · exact .inl (.inr ⟨o, h⟩)
  · exact .inr h
def Trk (H : Hp) (a : Addr) (o : HO) : Prop := H a = some o ∨ ∃ b, H a = some (.frz b o)

mutual
def Rep (K : PySem.W.Frag) (A : Addr → Prop) (H : Hp) : D → V → Prop
  | .non, v => v = .non
  | .bl b, v => v = .bl b
  | .int i, v => v = .int i
  | .str s, v => v = .str s
  | .val x, v => v = x
  | .tup ds, v => ∃ a vs, v = .ref a ∧ H a = some (.tup vs) ∧ RepL K A H ds vs
  | .lst ds, v => ∃ a vs, v = .ref a ∧ ¬ A a ∧ H a = some (.lst vs) ∧ RepL K A H ds vs
  | .fro ds, v => ∃ a vs, v = .ref a ∧ Frz K H a vs ∧ RepL K A H ds vs
  | .dK ks ds, v => ∃ a kvs, v = .ref a ∧ ¬ A a ∧ H a = some (.dK kvs) ∧ kvs.map Prod.fst = ks ∧ RepL K A H ds (kvs.map Prod.snd)
  | .dT ks ds, v => ∃ a kvs, v = .ref a ∧ ¬ A a ∧ H a = some (.dT kvs) ∧ kvs.map Prod.fst = ks ∧ RepL K A H ds (kvs.map Prod.snd)
  | .fdk xs, v => ∃ a o u, v = .ref a ∧ H a = some (.frz o u) ∧ KeysOf u xs
  | .fdv ds, v => ∃ a o kvs, v = .ref a ∧ H a = some (.frz o (.dT kvs)) ∧ RepL K A H ds (kvs.map Prod.snd)
  | .lam l, v => ∃ a, v = .ref a ∧ LamAt l H a
def RepL (K : PySem.W.Frag) (A : Addr → Prop) (H : Hp) : List D → List V → Prop
  | [], vs => vs = []
  | d :: ds, vs => ∃ v r, vs = v :: r ∧ Rep K A H d v ∧ RepL K A H ds r
end

/-- what is not in A is kept; tuples and frozen things always -/
structure Kp (A : Addr → Prop) (H H' : Hp) : Prop where
  keep : ∀ b o, H b = some o → ¬ A b → (nt : ∀ ps, o ≠ HO.tbl ps := by intro ps z; cases z) → H' b = some o
  tup : ∀ b xs, H b = some (.tup xs) → H' b = some (.tup xs)
  frz : ∀ b o u, H b = some (.frz o u) → H' b = some (.frz o u)
  dom : ∀ b, H b ≠ none → H' b ≠ none
  ext : ∀ b φ, H b = some (.ext φ) → H' b = some (.ext φ)

theorem Kp.refl {A : Addr → Prop} {H : Hp} : Kp A H H := ⟨fun _ _ h _ _ => h, fun _ _ h => h, fun _ _ _ h => h, fun _ h => h, fun _ _ h => h⟩
theorem Kp.trans {A : Addr → Prop} {H H1 H2 : Hp} (a : Kp A H H1) (b : Kp A H1 H2) : Kp A H H2 :=
  ⟨fun c o h n t => b.keep c o (a.keep c o h n t) n t, fun c xs h => b.tup c xs (a.tup c xs h), fun c o u h => b.frz c o u (a.frz c o u h), fun c h => b.dom c (a.dom c h), fun c φ h => b.ext c φ (a.ext c φ h)⟩
theorem Kp.mono {A B : Addr → Prop} {H H1 : Hp} (a : Kp A H H1) (h : ∀ x, A x → B x) : Kp B H H1 :=
  ⟨fun c o e n t => a.keep c o e (fun z => n (h c z)) t, a.tup, a.frz, a.dom, a.ext⟩
theorem Kp.of_same {A : Addr → Prop} {H H' : Hp} (s : Same H H') : Kp A H H' :=
  ⟨fun b o h _ _ => s b o h, fun b xs h => s b _ h, fun b o u h => s b _ h, fun b h => by
    cases q : H b with
    | none => exact absurd q h
    | some o => rw [s b o q]; simp, fun b φ h => s b _ h⟩
theorem same_upd {H : Hp} {p : Addr} {o : HO} (h : H p = none) : Same H (upd H p o) := fun b x e => by
  rw [upd_ne (ne_of_none e h)]
  exact e
/-- a list or dict in A is written -/
theorem Kp.write {A : Addr → Prop} {H : Hp} {p : Addr} {o u : HO} (hA : A p) (hp : H p = some u) (ht : ∀ xs, u ≠ .tup xs) (hf : ∀ b w, u ≠ .frz b w) (hx : ∀ φ, u ≠ .ext φ := by intro φ z; cases z) : Kp A H (upd H p o) := by
  refine ⟨fun b w e n _ => ?_, fun b xs e => ?_, fun b w z e => ?_, fun b e => ?_, fun b φ e => ?_⟩
  · rw [upd_ne (fun z => n (by rw [z]; exact hA))]; exact e
  · rw [upd_ne (fun z => by rw [z, hp] at e; exact ht xs (Option.some.inj e))]; exact e
  · rw [upd_ne (fun y => by rw [y, hp] at e; exact hf w z (Option.some.inj e))]; exact e
  · by_cases z : b = p
    · rw [z, upd_same]; simp
    · rw [upd_ne z]; exact e
  · rw [upd_ne (fun z => by rw [z, hp] at e; exact hx φ (Option.some.inj e))]; exact e

section
variable {K : PySem.W.Frag} {A B : Addr → Prop} {H H' : Hp}
theorem Kp.sqt (k : Kp A H H') {a : Addr} {vs : List V} (h : SqT K H a vs) : SqT K H' a vs := by
  rcases h with (h | ⟨o, h⟩) | h
  · exact .inl (.inl (k.tup _ _ h))
  · exact .inl (.inr ⟨o, k.frz _ _ _ h⟩)
  · exact .inr h
theorem Kp.trk (k : Kp A H H') {a : Addr} {o : HO} (n : ¬ A a) (t : ∀ ps, o ≠ HO.tbl ps) (h : Trk H a o) : Trk H' a o := by
  rcases h with h | ⟨b, h⟩
  · exact .inl (k.keep _ _ h n t)
  · exact .inr ⟨b, k.frz _ _ _ h⟩
theorem Kp.fz (k : Kp A H H') {a : Addr} {vs : List V} (h : Frz K H a vs) : Frz K H' a vs := by
  rcases h with ⟨o, h⟩ | h
  · exact .inl ⟨o, k.frz _ _ _ h⟩
  · exact .inr h

mutual
theorem Rep.kp (k : Kp A H H') : ∀ {d : D} {v : V}, Rep K A H d v → Rep K A H' d v
  | .non, _, h => h
  | .bl _, _, h => h
  | .int _, _, h => h
  | .str _, _, h => h
  | .val _, _, h => h
  | .tup ds, v, h => by
    unfold Rep at h ⊢
    obtain ⟨a, vs, e, s, r⟩ := h
    exact ⟨a, vs, e, k.tup _ _ s, RepL.kp k r⟩
  | .lst ds, v, h => by
    unfold Rep at h ⊢
    obtain ⟨a, vs, e, n, s, r⟩ := h
    exact ⟨a, vs, e, n, k.keep _ _ s n, RepL.kp k r⟩
  | .fro ds, v, h => by
    unfold Rep at h ⊢
    obtain ⟨a, vs, e, s, r⟩ := h
    exact ⟨a, vs, e, k.fz s, RepL.kp k r⟩
  | .dK ks ds, v, h => by
    unfold Rep at h ⊢
    obtain ⟨a, vs, e, n, s, q, r⟩ := h
    exact ⟨a, vs, e, n, k.keep _ _ s n, q, RepL.kp k r⟩
  | .dT ks ds, v, h => by
    unfold Rep at h ⊢
    obtain ⟨a, vs, e, n, s, q, r⟩ := h
    exact ⟨a, vs, e, n, k.keep _ _ s n, q, RepL.kp k r⟩
  | .fdk xs, v, h => by
    unfold Rep at h ⊢
    obtain ⟨a, o, u, e, s, q⟩ := h
    exact ⟨a, o, u, e, k.frz _ _ _ s, q⟩
  | .fdv ds, v, h => by
    unfold Rep at h ⊢
    obtain ⟨a, o, kvs, e, s, r⟩ := h
    exact ⟨a, o, kvs, e, k.frz _ _ _ s, RepL.kp k r⟩
  | .lam l, v, h => by
    unfold Rep at h ⊢
    obtain ⟨a, e, q⟩ := h
    exact ⟨a, e, q.kept k.ext k.tup⟩
theorem RepL.kp (k : Kp A H H') : ∀ {ds : List D} {vs : List V}, RepL K A H ds vs → RepL K A H' ds vs
  | [], _, h => h
  | d :: ds, vs, h => by
    unfold RepL at h ⊢
    obtain ⟨v, r, e, h1, h2⟩ := h
    exact ⟨v, r, e, Rep.kp k h1, RepL.kp k h2⟩
end
mutual
theorem Rep.av (q : ∀ a, B a → A a) : ∀ {d : D} {v : V}, Rep K A H d v → Rep K B H d v
  | .non, _, h => h
  | .bl _, _, h => h
  | .int _, _, h => h
  | .str _, _, h => h
  | .val _, _, h => h
  | .tup ds, v, h => by
    unfold Rep at h ⊢
    obtain ⟨a, vs, e, s, r⟩ := h
    exact ⟨a, vs, e, s, RepL.av q r⟩
  | .lst ds, v, h => by
    unfold Rep at h ⊢
    obtain ⟨a, vs, e, n, s, r⟩ := h
    exact ⟨a, vs, e, fun z => n (q a z), s, RepL.av q r⟩
  | .fro ds, v, h => by
    unfold Rep at h ⊢
    obtain ⟨a, vs, e, s, r⟩ := h
    exact ⟨a, vs, e, s, RepL.av q r⟩
  | .dK ks ds, v, h => by
    unfold Rep at h ⊢
    obtain ⟨a, vs, e, n, s, z, r⟩ := h
    exact ⟨a, vs, e, fun z => n (q a z), s, z, RepL.av q r⟩
  | .dT ks ds, v, h => by
    unfold Rep at h ⊢
    obtain ⟨a, vs, e, n, s, z, r⟩ := h
    exact ⟨a, vs, e, fun z => n (q a z), s, z, RepL.av q r⟩
  | .fdk xs, v, h => by unfold Rep at h ⊢; exact h
  | .fdv ds, v, h => by
    unfold Rep at h ⊢
    obtain ⟨a, o, kvs, e, s, r⟩ := h
    exact ⟨a, o, kvs, e, s, RepL.av q r⟩
  | .lam l, v, h => by unfold Rep at h ⊢; exact h
theorem RepL.av (q : ∀ a, B a → A a) : ∀ {ds : List D} {vs : List V}, RepL K A H ds vs → RepL K B H ds vs
  | [], _, h => h
  | d :: ds, vs, h => by
    unfold RepL at h ⊢
    obtain ⟨v, r, e, h1, h2⟩ := h
    exact ⟨v, r, e, Rep.av q h1, RepL.av q h2⟩
end
mutual
theorem Rep.im : ∀ {d : D} {v : V}, d.imm = true → Rep K A H d v → Rep K B H d v
  | .non, _, _, h => h
  | .bl _, _, _, h => h
  | .int _, _, _, h => h
  | .str _, _, _, h => h
  | .val _, _, _, h => h
  | .tup ds, v, i, h => by
    unfold Rep at h ⊢
    obtain ⟨a, vs, e, s, r⟩ := h
    exact ⟨a, vs, e, s, RepL.im (by simpa [D.imm] using i) r⟩
  | .lst ds, v, i, h => by simp [D.imm] at i
  | .fro ds, v, i, h => by
    unfold Rep at h ⊢
    obtain ⟨a, vs, e, s, r⟩ := h
    exact ⟨a, vs, e, s, RepL.im (by simpa [D.imm] using i) r⟩
  | .dK ks ds, v, i, h => by simp [D.imm] at i
  | .dT ks ds, v, i, h => by simp [D.imm] at i
  | .fdk ks, v, i, h => by simp [D.imm] at i
  | .fdv ks, v, i, h => by simp [D.imm] at i
  | .lam l, v, i, h => by unfold Rep at h ⊢; exact h
theorem RepL.im : ∀ {ds : List D} {vs : List V}, immL ds = true → RepL K A H ds vs → RepL K B H ds vs
  | [], _, _, h => h
  | d :: ds, vs, i, h => by
    unfold RepL at h ⊢
    obtain ⟨v, r, e, h1, h2⟩ := h
    simp [immL] at i
    exact ⟨v, r, e, Rep.im i.1 h1, RepL.im i.2 h2⟩
end
mutual
theorem Rep.move {P' : Addr → Prop} (k : Kp A H H') (q : ∀ a, H a ≠ none → P' a → A a) : ∀ {d : D} {v : V}, Rep K A H d v → Rep K P' H' d v
  | .non, _, h => h
  | .bl _, _, h => h
  | .int _, _, h => h
  | .str _, _, h => h
  | .val _, _, h => h
  | .tup ds, v, h => by
    unfold Rep at h ⊢
    obtain ⟨a, vs, e, s, r⟩ := h
    exact ⟨a, vs, e, k.tup _ _ s, RepL.move k q r⟩
  | .lst ds, v, h => by
    unfold Rep at h ⊢
    obtain ⟨a, vs, e, n, s, r⟩ := h
    exact ⟨a, vs, e, fun z => n (q a (by rw [s]; simp) z), k.keep _ _ s n, RepL.move k q r⟩
  | .fro ds, v, h => by
    unfold Rep at h ⊢
    obtain ⟨a, vs, e, s, r⟩ := h
    exact ⟨a, vs, e, k.fz s, RepL.move k q r⟩
  | .dK ks ds, v, h => by
    unfold Rep at h ⊢
    obtain ⟨a, vs, e, n, s, z, r⟩ := h
    exact ⟨a, vs, e, fun z => n (q a (by rw [s]; simp) z), k.keep _ _ s n, z, RepL.move k q r⟩
  | .dT ks ds, v, h => by
    unfold Rep at h ⊢
    obtain ⟨a, vs, e, n, s, z, r⟩ := h
    exact ⟨a, vs, e, fun z => n (q a (by rw [s]; simp) z), k.keep _ _ s n, z, RepL.move k q r⟩
  | .fdk xs, v, h => by
    unfold Rep at h ⊢
    obtain ⟨a, o, u, e, s, q⟩ := h
    exact ⟨a, o, u, e, k.frz _ _ _ s, q⟩
  | .fdv ds, v, h => by
    unfold Rep at h ⊢
    obtain ⟨a, o, kvs, e, s, r⟩ := h
    exact ⟨a, o, kvs, e, k.frz _ _ _ s, RepL.move k q r⟩
  | .lam l, v, h => by
    unfold Rep at h ⊢
    obtain ⟨a, e, q⟩ := h
    exact ⟨a, e, q.kept k.ext k.tup⟩
theorem RepL.move {P' : Addr → Prop} (k : Kp A H H') (q : ∀ a, H a ≠ none → P' a → A a) : ∀ {ds : List D} {vs : List V}, RepL K A H ds vs → RepL K P' H' ds vs
  | [], _, h => h
  | d :: ds, vs, h => by
    unfold RepL at h ⊢
    obtain ⟨v, r, e, h1, h2⟩ := h
    exact ⟨v, r, e, Rep.move k q h1, RepL.move k q h2⟩
end
theorem RepL.len : ∀ {ds : List D} {vs : List V}, RepL K A H ds vs → vs.length = ds.length
  | [], vs, h => by unfold RepL at h; subst h; rfl
  | d :: ds, vs, h => by
    unfold RepL at h
    obtain ⟨v, r, rfl, _, h2⟩ := h
    simp [RepL.len h2]
theorem RepL.get : ∀ {ds : List D} {vs : List V} {i : Nat} {d : D}, RepL K A H ds vs → ds[i]? = some d → ∃ v, vs[i]? = some v ∧ Rep K A H d v
  | [], _, _, _, _, e => by simp at e
  | d :: ds, vs, 0, x, h, e => by
    unfold RepL at h
    obtain ⟨v, r, rfl, h1, h2⟩ := h
    simp at e; subst e
    exact ⟨v, by simp, h1⟩
  | d :: ds, vs, i + 1, x, h, e => by
    unfold RepL at h
    obtain ⟨v, r, rfl, h1, h2⟩ := h
    obtain ⟨v', e', q⟩ := RepL.get (i := i) (d := x) h2 (by simpa using e)
    exact ⟨v', by simpa using e', q⟩
theorem RepL.append : ∀ {ds es : List D} {vs us : List V}, RepL K A H ds vs → RepL K A H es us → RepL K A H (ds ++ es) (vs ++ us)
  | [], _, vs, _, h, g => by unfold RepL at h; subst h; exact g
  | d :: ds, es, vs, us, h, g => by
    unfold RepL at h
    obtain ⟨v, r, rfl, h1, h2⟩ := h
    show RepL K A H (d :: (ds ++ es)) (v :: (r ++ us))
    unfold RepL
    exact ⟨v, _, rfl, h1, RepL.append h2 g⟩
theorem RepL.one {d : D} {v : V} (h : Rep K A H d v) : RepL K A H [d] [v] := by
  unfold RepL
  exact ⟨v, [], rfl, h, by unfold RepL; rfl⟩
theorem RepL.nil : RepL K A H [] [] := by unfold RepL; rfl
theorem RepL.cons {d : D} {v : V} {ds : List D} {vs : List V} (h : Rep K A H d v) (g : RepL K A H ds vs) : RepL K A H (d :: ds) (v :: vs) := by
  unfold RepL
  exact ⟨v, vs, rfl, h, g⟩
theorem RepL.uncons {d : D} {ds : List D} {vs : List V} (h : RepL K A H (d :: ds) vs) : ∃ v r, vs = v :: r ∧ Rep K A H d v ∧ RepL K A H ds r := by
  unfold RepL at h
  exact h
theorem RepL.take : ∀ {ds : List D} {vs : List V} (n : Nat), RepL K A H ds vs → RepL K A H (ds.take n) (vs.take n)
  | [], vs, n, h => by unfold RepL at h; subst h; simp [RepL.nil]
  | d :: ds, vs, 0, h => by simp [RepL.nil]
  | d :: ds, vs, n + 1, h => by
    obtain ⟨v, r, rfl, h1, h2⟩ := h.uncons
    simpa using RepL.cons h1 (RepL.take n h2)
theorem RepL.drop : ∀ {ds : List D} {vs : List V} (n : Nat), RepL K A H ds vs → RepL K A H (ds.drop n) (vs.drop n)
  | [], vs, n, h => by unfold RepL at h; subst h; simp [RepL.nil]
  | d :: ds, vs, 0, h => by simpa using h
  | d :: ds, vs, n + 1, h => by
    obtain ⟨v, r, rfl, h1, h2⟩ := h.uncons
    simpa using RepL.drop n h2
theorem RepL.set : ∀ {ds : List D} {vs : List V} (n : Nat) {d : D} {v : V}, RepL K A H ds vs → Rep K A H d v → RepL K A H (ds.set n d) (vs.set n v)
  | [], vs, n, _, _, h, _ => by unfold RepL at h; subst h; simp [RepL.nil]
  | d :: ds, vs, 0, _, _, h, g => by
    obtain ⟨v, r, rfl, h1, h2⟩ := h.uncons
    simpa using RepL.cons g h2
  | d :: ds, vs, n + 1, _, _, h, g => by
    obtain ⟨v, r, rfl, h1, h2⟩ := h.uncons
    simpa using RepL.cons h1 (RepL.set n h2 g)
theorem RepL.rep (n : Nat) {d : D} {v : V} (h : Rep K A H d v) : RepL K A H (List.replicate n d) (List.replicate n v) := by
  induction n with
  | zero => exact RepL.nil
  | succ n ih => simpa [List.replicate_succ] using RepL.cons h ih
theorem RepL.of_get : ∀ {ds : List D} {vs : List V}, vs.length = ds.length → (∀ (i : Nat) (d : D) (v : V), ds[i]? = some d → vs[i]? = some v → Rep K A H d v) → RepL K A H ds vs
  | [], [], _, _ => RepL.nil
  | [], _ :: _, e, _ => by simp at e
  | _ :: _, [], e, _ => by simp at e
  | d :: ds, v :: vs, e, h => RepL.cons (h 0 d v (by simp) (by simp)) (RepL.of_get (by simpa using e) fun i x y h1 h2 => h (i + 1) x y (by simpa using h1) (by simpa using h2))
theorem RepL.ints : ∀ {is : List Int} {vs : List V}, RepL K A H (is.map D.int) vs ↔ vs = is.map V.int
  | [], vs => by simp [RepL]
  | i :: is, vs => by
    simp only [List.map_cons]
    constructor
    · intro h
      obtain ⟨v, r, rfl, h1, h2⟩ := h.uncons
      unfold Rep at h1
      rw [h1, RepL.ints.mp h2]
    · rintro rfl
      exact RepL.cons (by unfold Rep; rfl) (RepL.ints.mpr rfl)
end

/-! the store: objects that are changed by whoever has them -/
inductive SO where
  | lst (xs : List D)
  | ins (C dx : Addr) (ks : List Str) (vs : List D)
  | tbl (q : Str)
  | xd (fs : List (Str × V))
abbrev Store := Addr → Option SO
def updS (S : Store) (a : Addr) (o : SO) : Store := fun b => if b = a then some o else S b
def dS (S : Store) : Addr → Prop := fun a => S a ≠ none
def dH (H : Hp) : Addr → Prop := fun a => H a ≠ none
def SOk (K : PySem.W.Frag) (H : Hp) (a : Addr) : SO → Prop
  | .lst xs => immL xs = true ∧ ∃ vs, H a = some (.lst vs) ∧ RepL K (fun _ => False) H xs vs
  | .ins c dx ks ds => immL ds = true ∧ ∃ fs, H a = some (.ins c dx fs) ∧ fs.map Prod.fst = ks ∧ RepL K (fun _ => False) H ds (fs.map Prod.snd)
  | .tbl q => LamX.TabS H a q
  | .xd fs => H a = some (.xd fs)
def StOk (K : PySem.W.Frag) (S : Store) (H : Hp) : Prop := ∀ a o, S a = some o → SOk K H a o

/-- what an expression (or a call) may do -/
structure Evo (K : PySem.W.Frag) (S : Store) (H : Hp) (S' : Store) (H' : Hp) : Prop where
  kp : Kp (dS S) H H'
  dom : ∀ a, S' a = none ↔ S a = none
  st : StOk K S H → StOk K S' H'
section
variable {K : PySem.W.Frag} {S S1 S2 : Store} {H H1 H2 : Hp}
theorem dS_of {S S1 : Store} (h : ∀ a, S1 a = none ↔ S a = none) : ∀ a, dS S1 a ↔ dS S a := fun a => not_congr (h a)
theorem Evo.refl : Evo K S H S H := ⟨Kp.refl, fun _ => Iff.rfl, fun h => h⟩
theorem Evo.trans (a : Evo K S H S1 H1) (b : Evo K S1 H1 S2 H2) : Evo K S H S2 H2 :=
  ⟨a.kp.trans (b.kp.mono fun x h => (dS_of a.dom x).mp h), fun x => (b.dom x).trans (a.dom x), fun h => b.st (a.st h)⟩
theorem SOk.kp {A : Addr → Prop} {a : Addr} {o : SO} (k : Kp A H H1) (e : ∀ u, H a = some u → H1 a = some u) (h : SOk K H a o) : SOk K H1 a o := by
  cases o with
  | lst xs => obtain ⟨i, vs, h1, h2⟩ := h; exact ⟨i, vs, e _ h1, RepL.im i (RepL.kp k (RepL.im i h2))⟩
  | ins c dx ks ds => obtain ⟨i, vs, h1, h2, h3⟩ := h; exact ⟨i, vs, e _ h1, h2, RepL.im i (RepL.kp k (RepL.im i h3))⟩
  | xd fs => exact e _ h
  | tbl q =>
    obtain ⟨ps, h1, h2, h3⟩ := h
    exact ⟨ps, e _ h1, h2, fun pos cv hc => let ⟨c, e1, e2⟩ := h3 pos cv hc; ⟨c, e1, k.ext _ _ e2⟩⟩
theorem Evo.of_same (s : Same H H1) : Evo K S H S H1 :=
  ⟨Kp.of_same s, fun _ => Iff.rfl, fun h a o e => (h a o e).kp (Kp.of_same (A := fun _ => False) s) fun u q => s a u q⟩
theorem Evo.alloc {p : Addr} {o : HO} (h : H p = none) : Evo K S H S (upd H p o) := Evo.of_same (same_upd h)
end

/-! slots -/
inductive Sl where
  | no
  | ro (d : D)
  | own (d : D)
abbrev En := List Sl
/-- a list or dict of one's own at p -/
def Top (K : PySem.W.Frag) (A : Addr → Prop) (H : Hp) (p : Addr) : D → Prop
  | .lst xs => ∃ vs, H p = some (.lst vs) ∧ RepL K A H xs vs
  | .dK ks ds => ∃ kvs, H p = some (.dK kvs) ∧ kvs.map Prod.fst = ks ∧ RepL K A H ds (kvs.map Prod.snd)
  | .dT ks ds => ∃ kvs, H p = some (.dT kvs) ∧ kvs.map Prod.fst = ks ∧ RepL K A H ds (kvs.map Prod.snd)
  | _ => False
theorem Top.kp {K : PySem.W.Frag} {A : Addr → Prop} {H H1 : Hp} {p : Addr} {d : D} (k : Kp A H H1) (e : ∀ u, H p = some u → (∀ ps, u ≠ HO.tbl ps) → H1 p = some u) (h : Top K A H p d) : Top K A H1 p d := by
  cases d with
  | lst xs => obtain ⟨vs, h1, h2⟩ := h; exact ⟨vs, e _ h1 (by intro ps z; cases z), RepL.kp k h2⟩
  | dK ks ds => obtain ⟨vs, h1, h2, h3⟩ := h; exact ⟨vs, e _ h1 (by intro ps z; cases z), h2, RepL.kp k h3⟩
  | dT ks ds => obtain ⟨vs, h1, h2, h3⟩ := h; exact ⟨vs, e _ h1 (by intro ps z; cases z), h2, RepL.kp k h3⟩
  | _ => exact h.elim
theorem Top.av {K : PySem.W.Frag} {A B : Addr → Prop} {H : Hp} {p : Addr} {d : D} (q : ∀ a, B a → A a) (h : Top K A H p d) : Top K B H p d := by
  cases d with
  | lst xs => obtain ⟨vs, h1, h2⟩ := h; exact ⟨vs, h1, RepL.av q h2⟩
  | dK ks ds => obtain ⟨vs, h1, h2, h3⟩ := h; exact ⟨vs, h1, h2, RepL.av q h3⟩
  | dT ks ds => obtain ⟨vs, h1, h2, h3⟩ := h; exact ⟨vs, h1, h2, RepL.av q h3⟩
  | _ => exact h.elim
theorem Top.move {K : PySem.W.Frag} {A P' : Addr → Prop} {H H1 : Hp} {p : Addr} {d : D} (k : Kp A H H1) (q : ∀ a, H a ≠ none → P' a → A a) (e : ∀ u, H p = some u → (∀ ps, u ≠ HO.tbl ps) → H1 p = some u) (h : Top K A H p d) : Top K P' H1 p d := by
  cases d with
  | lst xs => obtain ⟨vs, h1, h2⟩ := h; exact ⟨vs, e _ h1 (by intro ps z; cases z), RepL.move k q h2⟩
  | dK ks ds => obtain ⟨vs, h1, h2, h3⟩ := h; exact ⟨vs, e _ h1 (by intro ps z; cases z), h2, RepL.move k q h3⟩
  | dT ks ds => obtain ⟨vs, h1, h2, h3⟩ := h; exact ⟨vs, e _ h1 (by intro ps z; cases z), h2, RepL.move k q h3⟩
  | _ => exact h.elim
theorem Top.rep {K : PySem.W.Frag} {A : Addr → Prop} {H : Hp} {p : Addr} {d : D} (n : ¬ A p) (h : Top K A H p d) : Rep K A H d (.ref p) := by
  cases d with
  | lst xs => obtain ⟨vs, h1, h2⟩ := h; unfold Rep; exact ⟨p, vs, rfl, n, h1, h2⟩
  | dK ks ds => obtain ⟨vs, h1, h2, h3⟩ := h; unfold Rep; exact ⟨p, vs, rfl, n, h1, h2, h3⟩
  | dT ks ds => obtain ⟨vs, h1, h2, h3⟩ := h; unfold Rep; exact ⟨p, vs, rfl, n, h1, h2, h3⟩
  | _ => exact h.elim
def isC : D → Bool
  | .lst _ => true
  | .dK _ _ => true
  | .dT _ _ => true
  | _ => false
/-- a list or dict that is new -/
def FT (K : PySem.W.Frag) (B : Addr → Prop) (H H' : Hp) (d : D) (v : V) : Prop := isC d = true → ∃ p, v = .ref p ∧ H p = none ∧ Top K B H' p d
theorem Rep.top {K : PySem.W.Frag} {A : Addr → Prop} {H : Hp} {d : D} {v : V} (i : isC d = true) (h : Rep K A H d v) : ∃ p, v = .ref p ∧ ¬ A p ∧ Top K A H p d := by
  cases d with
  | lst xs => unfold Rep at h; obtain ⟨a, vs, e, n, s, r⟩ := h; exact ⟨a, e, n, vs, s, r⟩
  | dK ks ds => unfold Rep at h; obtain ⟨a, vs, e, n, s, r⟩ := h; exact ⟨a, e, n, vs, s, r⟩
  | dT ks ds => unfold Rep at h; obtain ⟨a, vs, e, n, s, r⟩ := h; exact ⟨a, e, n, vs, s, r⟩
  | _ => cases i
theorem Top.there {K : PySem.W.Frag} {A : Addr → Prop} {H : Hp} {p : Addr} {d : D} (h : Top K A H p d) : ∃ u, H p = some u ∧ (∀ xs, u ≠ .tup xs) ∧ (∀ b w, u ≠ .frz b w) ∧ ∀ φ, u ≠ .ext φ := by
  cases d with
  | lst xs => obtain ⟨vs, h1, h2⟩ := h; exact ⟨_, h1, (fun _ z => by cases z), (fun _ _ z => by cases z), fun _ z => by cases z⟩
  | dK ks ds => obtain ⟨vs, h1, h2, h3⟩ := h; exact ⟨_, h1, (fun _ z => by cases z), (fun _ _ z => by cases z), fun _ z => by cases z⟩
  | dT ks ds => obtain ⟨vs, h1, h2, h3⟩ := h; exact ⟨_, h1, (fun _ z => by cases z), (fun _ _ z => by cases z), fun _ z => by cases z⟩
  | _ => exact h.elim

structure Rel (K : PySem.W.Frag) (S0 : Store) (H0 : Hp) (P : Addr → Prop) (S : Store) (ρ : En) (σ : L2.St) (H : Hp) : Prop where
  len : σ.length = ρ.length
  ro : ∀ (i : Nat) (d : D), ρ[i]? = some (.ro d) → ∃ v, σ[i]? = some (some v) ∧ Rep K P H d v
  own : ∀ (i : Nat) (d : D), ρ[i]? = some (.own d) → ∃ p, σ[i]? = some (some (.ref p)) ∧ P p ∧ H0 p = none ∧ S p = none ∧ Top K (fun a => P a ∨ H0 a ≠ none) H p d
  inj : ∀ (i j : Nat) (d e : D) (p : Addr), ρ[i]? = some (.own d) → ρ[j]? = some (.own e) → σ[i]? = some (some (.ref p)) → σ[j]? = some (some (.ref p)) → i = j
  pS : ∀ a, S a ≠ none → P a
  pH : ∀ a, P a → H a ≠ none
  s0 : ∀ a, S a ≠ none → H0 a ≠ none
  st : StOk K S H
  evo : Evo K S0 H0 S H
section
variable {K : PySem.W.Frag} {S0 : Store} {H0 : Hp} {P : Addr → Prop} {S S' : Store} {ρ : En} {σ : L2.St} {H H' : Hp}
theorem Rel.kpP (R : Rel K S0 H0 P S ρ σ H) (e : Evo K S H S' H') : Kp P H H' := e.kp.mono fun a h => R.pS a h
theorem Rel.step (R : Rel K S0 H0 P S ρ σ H) (e : Evo K S H S' H') : Rel K S0 H0 P S' ρ σ H' where
  len := R.len
  ro := fun i d h => by
    obtain ⟨v, h1, h2⟩ := R.ro i d h
    exact ⟨v, h1, Rep.kp (R.kpP e) h2⟩
  own := fun i d h => by
    obtain ⟨p, h1, h2, h3, h4, h5⟩ := R.own i d h
    refine ⟨p, h1, h2, h3, (e.dom p).mpr h4, h5.kp (e.kp.mono fun a z => .inl (R.pS a z)) fun u q t => e.kp.keep p u q (fun z => z h4) t⟩
  inj := R.inj
  pS := fun a h => R.pS a fun z => h ((e.dom a).mpr z)
  pH := fun a h => e.kp.dom a (R.pH a h)
  s0 := fun a h => R.s0 a fun z => h ((e.dom a).mpr z)
  st := e.st R.st
  evo := R.evo.trans e
theorem Rel.dom0 (R : Rel K S0 H0 P S ρ σ H) : ∀ a, H0 a ≠ none → H a ≠ none := R.evo.kp.dom
end

/-! outcomes -/
inductive Out (α : Type) where
  | ok (a : α) (S : Store)
  | ex (e : D) (S : Store)
  | no
abbrev F (α : Type) := En → Store → Out α
inductive Lvl where
  | any | mu | top | h0 | fr
def RepAt (K : PySem.W.Frag) (P : Addr → Prop) (S : Store) (H0 H H' : Hp) (d : D) (v : V) : Lvl → Prop
  | .any => Rep K (dS S) H' d v
  | .mu => Rep K P H' d v
  | .h0 => Rep K (dH H0) H' d v
  | .fr => Rep K (dH H) H' d v
  | .top => Rep K (dS S) H' d v ∧ FT K (dS S) H H' d v
abbrev Wx := D → Hp → Prop
def OutE (l : Lvl) (K : PySem.W.Frag) (W : Wx) (P : Addr → Prop) (S : Store) (H0 H : Hp) (Q : VK) : Out D → Prop
  | .ok d S' => ∀ H' v, Evo K S H S' H' → RepAt K P S H0 H H' d v l → Q v H'
  | .ex e S' => ∀ H', Evo K S H S' H' → W e H'
  | .no => False
/-- an expression that does as f says -/
def tE (W : Wx) (l : Lvl) (K : PySem.W.Frag) (f : F D) : TE := fun σ H Q => ∃ S0 H0 P S ρ, Rel K S0 H0 P S ρ σ H ∧ OutE l K W P S H0 H Q (f ρ S)
theorem PE.imp {X : Cx} {e : Expr} {t t' : TE} (h : PE X e t) (i : ∀ σ H Q, t' σ H Q → t σ H Q) : PE X e t' := ⟨fun pins s σ H Q I q => h.run pins s σ H Q I (i σ H Q q)⟩
theorem PT.imp {X : Cx} {e : Expr} {t t' : TT} (h : PT X e t) (i : ∀ σ H Q, t' σ H Q → t σ H Q) : PT X e t' := ⟨fun pins s σ H Q I q => h.run pins s σ H Q I (i σ H Q q)⟩
theorem PA.imp {X : Cx} {e : List Expr} {t t' : TA} (h : PA X e t) (i : ∀ σ H Q, t' σ H Q → t σ H Q) : PA X e t' := ⟨fun po pins s σ H Q I q => h.run po pins s σ H Q I (i σ H Q q)⟩
theorem PS.imp {X : Cx} {e : Stmt} {t t' : TS} (h : PS X e t) (i : ∀ D σ H, t' D σ H → t D σ H) : PS X e t' := ⟨fun pins s σ H Q I q => h.run pins s σ H Q I (i Q σ H q)⟩
theorem PSs.imp {X : Cx} {e : List Stmt} {t t' : TS} (h : PSs X e t) (i : ∀ D σ H, t' D σ H → t D σ H) : PSs X e t' := ⟨fun pins s σ H Q I q => h.run pins s σ H Q I (i Q σ H q)⟩
theorem PI.imp {X : Cx} {tg e : Expr} {t t' : TI} (h : PI X tg e t) (i : ∀ σ H R, t' σ H R → t σ H R) : PI X tg e t' := ⟨fun pins s σ H Q I q => h.run pins s σ H Q I (i σ H Q q)⟩
end CB
set_option Elab.async false
set_option linter.all false
set_option maxRecDepth 100000
namespace CB
open PySem PySem.Spec PyProof.Rows L2

abbrev Lvl.sub : Lvl → Lvl
  | .top => .any
  | l => l
def avo (P : Addr → Prop) (S : Store) (H0 H : Hp) : Lvl → Addr → Prop
  | .any => dS S
  | .mu => P
  | .h0 => dH H0
  | .fr => dH H
  | .top => dS S
section
variable {K : PySem.W.Frag} {W : Wx} {S0 : Store} {H0 : Hp} {P : Addr → Prop} {S S1 : Store} {ρ : En} {σ : L2.St} {H H1 H2 : Hp} {l : Lvl} {d : D} {v : V} {Q : VK}
theorem RepAt.rep (h : RepAt K P S H0 H H1 d v l) : Rep K (avo P S H0 H l) H1 d v := by
  cases l with
  | top => exact h.1
  | _ => exact h
theorem RepAt.of (h : Rep K (avo P S H0 H l) H1 d v) (t : l = .top → FT K (dS S) H H1 d v) : RepAt K P S H0 H H1 d v l := by
  cases l with
  | top => exact ⟨h, t rfl⟩
  | _ => exact h
theorem RepAt.sub (h : RepAt K P S H0 H H1 d v l.sub) : Rep K (avo P S H0 H l) H1 d v := by
  cases l <;> exact h
theorem av_pS (R : Rel K S0 H0 P S ρ σ H) : ∀ a, dS S a → avo P S H0 H l a := fun a h => by
  cases l with
  | any => exact h
  | mu => exact R.pS a h
  | h0 => exact R.s0 a h
  | fr => exact R.pH a (R.pS a h)
  | top => exact h
theorem av_dom (R : Rel K S0 H0 P S ρ σ H) : ∀ a, avo P S H0 H l a → H a ≠ none := fun a h => by
  cases l with
  | any => exact R.pH a (R.pS a h)
  | mu => exact R.pH a h
  | h0 => exact R.dom0 a h
  | fr => exact h
  | top => exact R.pH a (R.pS a h)
theorem av_step (e : Evo K S H S1 H1) : ∀ a, avo P S H0 H l a → avo P S1 H0 H1 l a := fun a h => by
  cases l with
  | any => exact fun z => h ((e.dom a).mp z)
  | mu => exact h
  | h0 => exact h
  | fr => exact e.kp.dom a h
  | top => exact fun z => h ((e.dom a).mp z)
/-- what came of a first part stands behind a second -/
theorem Rep.later (R : Rel K S0 H0 P S ρ σ H) (e : Evo K S H S1 H1) {S2 : Store} (e2 : Evo K S1 H1 S2 H2) (h : Rep K (avo P S H0 H l) H1 d v) : Rep K (avo P S H0 H l) H2 d v :=
  Rep.kp (e2.kp.mono fun a z => av_pS (l := l) R a ((dS_of e.dom a).mp z)) h
theorem RepL.later (R : Rel K S0 H0 P S ρ σ H) (e : Evo K S H S1 H1) {S2 : Store} (e2 : Evo K S1 H1 S2 H2) {ds : List D} {vs : List V} (h : RepL K (avo P S H0 H l) H1 ds vs) : RepL K (avo P S H0 H l) H2 ds vs :=
  RepL.kp (e2.kp.mono fun a z => av_pS (l := l) R a ((dS_of e.dom a).mp z)) h
theorem Rep.dsS (e : Evo K S H S1 H1) {B : Hp} (h : Rep K (dS S1) B d v) : Rep K (dS S) B d v := Rep.av (fun a z => (dS_of e.dom a).mpr z) h

def Out.bind {α β : Type} (o : Out α) (f : α → Store → Out β) : Out β := match o with
  | .ok a S => f a S
  | .ex e S => .ex e S
  | .no => .no
@[simp] theorem Out.bind_ok {α β : Type} (a : α) (S : Store) (f : α → Store → Out β) : (Out.ok a S).bind f = f a S := rfl
@[simp] theorem Out.bind_ex {α β : Type} (e : D) (S : Store) (f : α → Store → Out β) : (Out.ex e S : Out α).bind f = .ex e S := rfl
@[simp] theorem Out.bind_no {α β : Type} (f : α → Store → Out β) : (Out.no : Out α).bind f = .no := rfl
def ofOpt {α : Type} (o : Option α) (S : Store) : Out α := match o with
  | some a => .ok a S
  | none => .no
@[simp] theorem ofOpt_some {α : Type} (a : α) (S : Store) : ofOpt (some a) S = .ok a S := rfl
@[simp] theorem ofOpt_none {α : Type} (S : Store) : ofOpt (none : Option α) S = .no := rfl

/-- the frame for a compound: first part, then what follows -/
theorem tE_seq {fa : F D} {k : D → Store → Out D} {R : V → Hp → Prop} {l' : Lvl} (Rl : Rel K S0 H0 P S ρ σ H) (h : OutE l' K W P S H0 H Q ((fa ρ S).bind k))
    (hk : ∀ d S1 H1 v, fa ρ S = .ok d S1 → Evo K S H S1 H1 → RepAt K P S H0 H H1 d v l → OutE l' K W P S H0 H Q (k d S1) → R v H1) : tE W l K fa σ H R := by
  refine ⟨S0, H0, P, S, ρ, Rl, ?_⟩
  cases e : fa ρ S with
  | ok d S1 =>
    rw [e] at h
    exact fun H1 v E r => hk d S1 H1 v e E r h
  | ex x S1 =>
    rw [e] at h
    exact h
  | no =>
    rw [e] at h
    exact h
theorem tE_end {fa : F D} {R : V → Hp → Prop} (Rl : Rel K S0 H0 P S ρ σ H) (h : OutE l K W P S H0 H R (fa ρ S)) : tE W l K fa σ H R := ⟨S0, H0, P, S, ρ, Rl, h⟩
theorem OutE.weak {o : Out D} {Q Q' : VK} (E : Evo K S H S1 H1) (hQ : ∀ H2 v S2 d, Evo K S1 H1 S2 H2 → RepAt K P S1 H0 H1 H2 d v l → o = .ok d S2 → Q' v H2)
    (hx : ∀ e S2, o = .ex e S2 → ∀ H2, Evo K S1 H1 S2 H2 → W e H2) (hn : o ≠ .no) : OutE l K W P S1 H0 H1 Q' o := by
  cases o with
  | ok d S2 => exact fun H2 v e r => hQ H2 v S2 d e r rfl
  | ex e S2 => exact hx e S2 rfl
  | no => exact hn rfl
end

section
variable {X : Cx} {W : Wx} {l : Lvl} {pos : Pos}

/-! constants, names -/
def fC (d : D) : F D := fun _ S => .ok d S
theorem ev_int {i : Int} {j} : PE X (.Constant (.int i) j pos) (tE W l X.K (fC (.int i))) :=
  PE.imp pe_int fun σ H Q ⟨S0, H0, P, S, ρ, R, h⟩ => h H _ .refl (.of (by unfold Rep; rfl) fun _ e => by cases e)
theorem ev_bl {i : Bool} {j} : PE X (.Constant (.bool i) j pos) (tE W l X.K (fC (.bl i))) :=
  PE.imp pe_bl fun σ H Q ⟨S0, H0, P, S, ρ, R, h⟩ => h H _ .refl (.of (by unfold Rep; rfl) fun _ e => by cases e)
theorem ev_non {j} : PE X (.Constant .none j pos) (tE W l X.K (fC .non)) :=
  PE.imp pe_non fun σ H Q ⟨S0, H0, P, S, ρ, R, h⟩ => h H _ .refl (.of (by unfold Rep; rfl) fun _ e => by cases e)
theorem ev_str {i : Str} {j} : PE X (.Constant (.str i) j pos) (tE W l X.K (fC (.str i))) :=
  PE.imp pe_str fun σ H Q ⟨S0, H0, P, S, ρ, R, h⟩ => h H _ .refl (.of (by unfold Rep; rfl) fun _ e => by cases e)
/-- a module's constant by its value -/
theorem ev_glob {x : Str} {d : D} {v : V} {u : Value} (hg : Gl X x) (hm : X.mg x = some u) (r : RelV v u) (hd : d.imm = true) (q : ∀ A H, Rep X.K A H d v) (hdd : (x == ("__debug__" : Str)) = false := by decide) : PE X (.Name x pos) (tE W l X.K (fC d)) :=
  PE.imp (pe_glob hg hm r hdd) fun σ H Q ⟨S0, H0, P, S, ρ, R, h⟩ => h H _ .refl (.of (q _ _) fun _ e => by cases d <;> simp [D.imm, isC] at hd e)

def fVar (i : Nat) : F D := fun ρ S => match ρ[i]? with
  | some (.ro d) => .ok d S
  | _ => .no
def fVarO (i : Nat) : F D := fun ρ S => match ρ[i]? with
  | some (.own d) => .ok d S
  | _ => .no
theorem ev_var (i : Nat) {x : Str} (hN : X.N[i]? = some x := by rfl) (hv : Vis X.env.scope x := by first | exact Or.inl rfl | exact Or.inr (Or.inl rfl) | exact Or.inr (Or.inr rfl)) (hd : (x == ("__debug__" : Str)) = false := by decide)
    (hcd : (x == ("__classdict__" : Str)) = false := by decide) : PE X (.Name x pos) (tE W .mu X.K (fVar i)) := by
  refine PE.imp (pe_var hN hv hd hcd) fun σ H Q ⟨S0, H0, P, S, ρ, R, h⟩ => ?_
  unfold fVar at h
  split at h
  · rename_i d e
    obtain ⟨v, h1, h2⟩ := R.ro i d e
    exact ⟨v, h1, h H v .refl h2⟩
  · exact h.elim
theorem ev_varO (i : Nat) {x : Str} (hN : X.N[i]? = some x := by rfl) (hv : Vis X.env.scope x := by first | exact Or.inl rfl | exact Or.inr (Or.inl rfl) | exact Or.inr (Or.inr rfl)) (hd : (x == ("__debug__" : Str)) = false := by decide)
    (hcd : (x == ("__classdict__" : Str)) = false := by decide) (hl : l = .any ∨ l = .h0 := by first | exact .inl rfl | exact .inr rfl) : PE X (.Name x pos) (tE W l X.K (fVarO i)) := by
  refine PE.imp (pe_var hN hv hd hcd) fun σ H Q ⟨S0, H0, P, S, ρ, R, h⟩ => ?_
  unfold fVarO at h
  split at h
  · rename_i d e
    obtain ⟨p, h1, h2, h3, h4, h5⟩ := R.own i d e
    refine ⟨.ref p, h1, h H _ .refl ?_⟩
    rcases hl with rfl | rfl
    · exact Top.rep (fun z => z h4) (h5.av fun a z => .inl (R.pS a z))
    · exact Top.rep (fun z => z h3) (h5.av fun a z => .inr z)
  · exact h.elim

/-! levels -/
def fImm (f : F D) : F D := fun ρ S => (f ρ S).bind fun d S => if d.imm then .ok d S else .no
def topImm : D → Bool
  | .lst xs => immL xs
  | .dK _ xs => immL xs
  | .dT _ xs => immL xs
  | d => d.imm
theorem Top.im {K : PySem.W.Frag} {A B : Addr → Prop} {H : Hp} {p : Addr} {d : D} (i : topImm d = true) (h : Top K A H p d) : Top K B H p d := by
  cases d with
  | lst xs => obtain ⟨vs, h1, h2⟩ := h; exact ⟨vs, h1, RepL.im i h2⟩
  | dK ks ds => obtain ⟨vs, h1, h2, h3⟩ := h; exact ⟨vs, h1, h2, RepL.im i h3⟩
  | dT ks ds => obtain ⟨vs, h1, h2, h3⟩ := h; exact ⟨vs, h1, h2, RepL.im i h3⟩
  | _ => exact h.elim
def fImm1 (f : F D) : F D := fun ρ S => (f ρ S).bind fun d S => if topImm d then .ok d S else .no
theorem ev_imm {e : Expr} {f : F D} (h : PE X e (tE W .any X.K f)) : PE X e (tE W l X.K (fImm f)) := by
  refine PE.imp h fun σ H Q ⟨S0, H0, P, S, ρ, R, q⟩ => ?_
  refine tE_seq R q fun d S1 H1 v _ E r q => ?_
  split at q
  · rename_i i
    exact q H1 v E (.of (Rep.im i r) fun _ e => by cases d <;> simp [D.imm, isC] at i e)
  · exact q.elim
theorem ev_imm1 {e : Expr} {f : F D} (h : PE X e (tE W .top X.K f)) : PE X e (tE W .fr X.K (fImm1 f)) := by
  refine PE.imp h fun σ H Q ⟨S0, H0, P, S, ρ, R, q⟩ => ?_
  refine tE_seq R q fun d S1 H1 v _ E r q => ?_
  split at q
  · rename_i i
    refine q H1 v E ?_
    by_cases ic : isC d = true
    · obtain ⟨p, h1, h2, h3⟩ := r.2 ic
      subst h1
      exact Top.rep (fun z => z h2) (Top.im i h3)
    · have i2 : d.imm = true := by cases d <;> simp_all [topImm, isC]
      exact Rep.im i2 r.1
  · exact q.elim
theorem ev_lv {l l' : Lvl} {e : Expr} {f : F D} (h : PE X e (tE W l X.K f)) (hl : (l = .fr ∧ l' ≠ .top) ∨ (l' = .any) := by first | exact .inr rfl | exact .inl ⟨rfl, by intro h; cases h⟩) : PE X e (tE W l' X.K f) := by
  refine PE.imp h fun σ H Q ⟨S0, H0, P, S, ρ, R, q⟩ => ⟨S0, H0, P, S, ρ, R, ?_⟩
  cases e : f ρ S with
  | ok d S1 =>
    rw [e] at q
    refine fun H1 v E r => q H1 v E ?_
    rcases hl with ⟨rfl, hn⟩ | rfl
    · cases l' with
      | top => exact absurd rfl hn
      | any => exact Rep.av (fun a z => R.pH a (R.pS a z)) r
      | mu => exact Rep.av (fun a z => R.pH a z) r
      | h0 => exact Rep.av (fun a z => R.dom0 a z) r
      | fr => exact r
    · exact Rep.av (fun a z => av_pS (l := l) R a z) r.rep
  | ex x S1 => rw [e] at q; exact q
  | no => rw [e] at q; exact q
/-- a new thing is new at its top -/
theorem ev_frtop {e : Expr} {f : F D} (h : PE X e (tE W .fr X.K f)) : PE X e (tE W .top X.K f) := by
  refine PE.imp h fun σ H Q ⟨S0, H0, P, S, ρ, R, q⟩ => ⟨S0, H0, P, S, ρ, R, ?_⟩
  cases e : f ρ S with
  | ok d S1 =>
    rw [e] at q
    refine fun H1 v E r => q H1 v E ⟨Rep.av (fun a z => R.pH a (R.pS a z)) r, fun ic => ?_⟩
    obtain ⟨p, h1, h2, h3⟩ := Rep.top ic (show Rep X.K (dH H) H1 d v from r)
    exact ⟨p, h1, Classical.byContradiction h2, h3.av (fun a z => R.pH a (R.pS a z))⟩
  | ex x S1 => rw [e] at q; exact q
  | no => rw [e] at q; exact q

/-! two values -/
/-- a primitive of two values, by data; t: a list that it gives is new -/
def G2 (K : PySem.W.Frag) (t : Bool) (r : R2) (g : D → D → Option D) : Prop :=
  ∀ (A : Addr → Prop) (x y : V) (dx dy d : D) (H : Hp) (Q : VK), (∀ a, A a → H a ≠ none) → Rep K A H dx x → Rep K A H dy y → g dx dy = some d →
    (∀ H' v, Same H H' → Rep K A H' d v → (t = true → FT K A H H' d v) → Q v H') → r x y H Q
theorem G2.or {K : PySem.W.Frag} {t : Bool} {r r' : R2} {g g' : D → D → Option D} (h : G2 K t r g) (h' : G2 K t r' g') : G2 K t (fun x y H Q => r x y H Q ∨ r' x y H Q) (fun a b => (g a b).or (g' a b)) := by
  intro A x y dx dy d H Q hA hx hy e q
  have e : (g dx dy).or (g' dx dy) = some d := e
  cases e1 : g dx dy with
  | some z =>
    rw [e1] at e
    exact .inl (h A x y dx dy d H Q hA hx hy (e1.trans e) q)
  | none =>
    rw [e1] at e
    exact .inr (h' A x y dx dy d H Q hA hx hy e q)
def fBin (g : D → D → Option D) (fa fb : F D) : F D := fun ρ S => (fa ρ S).bind fun x S => (fb ρ S).bind fun y S => ofOpt (g x y) S
theorem tE_bin {t : Bool} {r : R2} {g : D → D → Option D} {fa fb : F D} {σ : L2.St} {H : Hp} {Q : VK} (hg : G2 X.K t r g) (hl : l = .top → t = true)
    (h : tE W l X.K (fBin g fa fb) σ H Q) : tOp r (tE W l.sub X.K fa) (tE W l.sub X.K fb) σ H Q := by
  obtain ⟨S0, H0, P, S, ρ, R, q⟩ := h
  refine tE_seq R q fun d S1 H1 v _ E r1 q => ?_
  have R1 := R.step E
  have q' : OutE l X.K W P S1 H0 H1 (fun v H' => True) ((fb ρ S1).bind fun y S => ofOpt (g d y) S) ∨ True := .inr trivial
  refine ⟨S0, H0, P, S1, ρ, R1, ?_⟩
  cases e : fb ρ S1 with
  | ok d2 S2 =>
    rw [e] at q
    intro H2 v2 E2 r2
    have x1 : Rep X.K (avo P S H0 H l) H1 d v := RepAt.sub r1
    have x2 : Rep X.K (avo P S1 H0 H1 l) H2 d2 v2 := RepAt.sub r2
    have q : OutE l X.K W P S H0 H Q (ofOpt (g d d2) S2) := q
    cases eg : g d d2 with
    | none => rw [eg] at q; exact q.elim
    | some z =>
      rw [eg] at q
      have EE := E.trans E2
      refine hg (avo P S H0 H l) v v2 d d2 z H2 Q (fun a ha => EE.kp.dom a (av_dom R a ha)) (x1.later R E E2) (Rep.av (fun a => av_step E a) x2) eg fun H3 v3 s3 r3 ft => ?_
      refine q H3 v3 (EE.trans (.of_same s3)) (.of r3 fun et ic => ?_)
      obtain ⟨p, h1, h2, h3⟩ := ft (hl et) ic
      subst et
      exact ⟨p, h1, Classical.byContradiction fun z => EE.kp.dom p z h2, h3⟩
  | ex x S2 =>
    rw [e] at q
    exact fun H2 E2 => q H2 (E.trans E2)
  | no =>
    rw [e] at q
    exact q
theorem ev_bin {a b : Expr} {op : Operator} {t : Bool} {r : R2} {g : D → D → Option D} {fa fb : F D} (ho : OpR X (binaryOp op) r) (hg : G2 X.K t r g) (ha : PE X a (tE W l.sub X.K fa)) (hb : PE X b (tE W l.sub X.K fb)) (hl : l = .top → t = true := by first | exact fun _ => rfl | (intro h; cases h)) :
    PE X (.BinOp a op b pos) (tE W l X.K (fBin g fa fb)) := PE.imp (pe_op ho ha hb) fun _ _ _ h => tE_bin hg hl h
theorem ev_cmp {a b : Expr} {op : CmpOp} {r : R2} {g : D → D → Option D} {fa fb : F D} (ho : OpR X (compareOp op) r) (hg : G2 X.K true r g) (ha : PE X a (tE W .any X.K fa)) (hb : PE X b (tE W .any X.K fb)) (hm : behindInMarks op b = false) :
    PE X (.Compare a [op] [b] pos) (tE W .any X.K (fBin g fa fb)) := PE.imp (pe_cmpR ho ha hb hm) fun _ _ _ h => tE_bin (l := .any) hg (by intro h; cases h) h
/-- what gives an int, a bool, a text: any level -/
def flat1 : D → Bool
  | .non => true
  | .bl _ => true
  | .int _ => true
  | .str _ => true
  | _ => false
theorem Rep.flat {K : PySem.W.Frag} {A B : Addr → Prop} {H H' : Hp} : ∀ {d : D} {v : V}, flat1 d = true → Rep K A H d v → Rep K B H' d v := fun {d v} h r => by
  cases d <;> simp [flat1] at h <;> simpa [Rep] using r
theorem ev_flat {e : Expr} {f : F D} (hf : ∀ ρ S d S1, f ρ S = .ok d S1 → flat1 d = true) (h : PE X e (tE W .any X.K f)) : PE X e (tE W l X.K f) := by
  refine PE.imp h fun σ H Q ⟨S0, H0, P, S, ρ, R, q⟩ => ⟨S0, H0, P, S, ρ, R, ?_⟩
  cases e : f ρ S with
  | ok d S1 =>
    rw [e] at q
    have i := hf ρ S d S1 e
    exact fun H1 v E r => q H1 v E (.of (Rep.flat i r) fun _ ic => by cases d <;> simp [flat1, isC] at i ic)
  | ex x S1 => rw [e] at q; exact q
  | no => rw [e] at q; exact q
theorem flat_bin {g : D → D → Option D} {fa fb : F D} (hg : ∀ x y d, g x y = some d → flat1 d = true) : ∀ ρ S d S1, fBin g fa fb ρ S = .ok d S1 → flat1 d = true := by
  intro ρ S d S1 h
  unfold fBin at h
  cases e : fa ρ S with
  | ok x S2 =>
    rw [e, Out.bind_ok] at h
    cases e2 : fb ρ S2 with
    | ok y S3 =>
      rw [e2, Out.bind_ok] at h
      cases e3 : g x y with
      | some z => rw [e3] at h; cases h; exact hg _ _ _ e3
      | none => rw [e3] at h; cases h
    | ex _ _ => rw [e2] at h; cases h
    | no => rw [e2] at h; cases h
  | ex _ _ => rw [e] at h; cases h
  | no => rw [e] at h; cases h
end
end CB
set_option Elab.async false
set_option linter.all false
set_option maxRecDepth 100000
namespace CB
open PySem PySem.Spec PyProof.Rows L2

/-! primitives of two values -/
section
variable {K : PySem.W.Frag}
theorem rI {A : Addr → Prop} {H : Hp} {i : Int} {v : V} : Rep K A H (.int i) v ↔ v = .int i := by unfold Rep; exact Iff.rfl
theorem rB {A : Addr → Prop} {H : Hp} {i : Bool} {v : V} : Rep K A H (.bl i) v ↔ v = .bl i := by unfold Rep; exact Iff.rfl
theorem rS {A : Addr → Prop} {H : Hp} {i : Str} {v : V} : Rep K A H (.str i) v ↔ v = .str i := by unfold Rep; exact Iff.rfl
theorem rN {A : Addr → Prop} {H : Hp} {v : V} : Rep K A H .non v ↔ v = .non := by unfold Rep; exact Iff.rfl
theorem rT {A : Addr → Prop} {H : Hp} {xs : List D} {v : V} : Rep K A H (.tup xs) v ↔ ∃ a vs, v = .ref a ∧ H a = some (.tup vs) ∧ RepL K A H xs vs := by
  constructor
  · intro h; unfold Rep at h; exact h
  · intro h; unfold Rep; exact h
theorem rL {A : Addr → Prop} {H : Hp} {xs : List D} {v : V} : Rep K A H (.lst xs) v ↔ ∃ a vs, v = .ref a ∧ ¬ A a ∧ H a = some (.lst vs) ∧ RepL K A H xs vs := by
  constructor
  · intro h; unfold Rep at h; exact h
  · intro h; unfold Rep; exact h
theorem rF {A : Addr → Prop} {H : Hp} {xs : List D} {v : V} : Rep K A H (.fro xs) v ↔ ∃ a vs, v = .ref a ∧ Frz K H a vs ∧ RepL K A H xs vs := by
  constructor
  · intro h; unfold Rep at h; exact h
  · intro h; unfold Rep; exact h
theorem noFT {B : Addr → Prop} {H H' : Hp} {d : D} {v : V} (h : isC d = false := by rfl) : FT K B H H' d v := fun e => by rw [h] at e; cases e
/-- an answer that is no object -/
theorem G2.flat {t : Bool} {r : R2} {g : D → D → Option D} (h : ∀ A x y dx dy d H (Q : VK), Rep K A H dx x → Rep K A H dy y → g dx dy = some d → flat1 d = true ∧ ((∀ v, Rep K A H d v → Q v H) → r x y H Q)) : G2 K t r g := by
  intro A x y dx dy d H Q hA hx hy e q
  obtain ⟨f, h⟩ := h A x y dx dy d H Q hx hy e
  exact h fun v rv => q H v (Same.refl H) rv fun _ => noFT (by cases d <;> simp [flat1, isC] at f ⊢)

def gII (f : Int → Int → Option D) : D → D → Option D
  | .int i, .int j => f i j
  | _, _ => none
theorem g2I {t : Bool} {C : Int → Int → Prop} {g : Int → Int → V} {f : Int → Int → Option D} (h : ∀ i j d, f i j = some d → flat1 d = true ∧ C i j ∧ ∀ A H, Rep K A H d (g i j)) : G2 K t (L2.rI C g) (gII f) := by
  refine G2.flat fun A x y dx dy d H Q hx hy e => ?_
  cases dx <;> cases dy <;> simp only [gII, reduceCtorEq] at e
  rename_i i j
  obtain ⟨h1, h2, h3⟩ := h i j d e
  exact ⟨h1, fun q => ⟨i, j, CB.rI.mp hx, CB.rI.mp hy, h2, q _ (h3 A H)⟩⟩
theorem g2I0 {t : Bool} {g : Int → Int → V} {f : Int → Int → Option D} (h : ∀ i j d, f i j = some d → flat1 d = true ∧ ∀ A H, Rep K A H d (g i j)) : G2 K t (L2.rI0 g) (gII f) := by
  refine G2.flat fun A x y dx dy d H Q hx hy e => ?_
  cases dx <;> cases dy <;> simp only [gII, reduceCtorEq] at e
  rename_i i j
  obtain ⟨h1, h3⟩ := h i j d e
  exact ⟨h1, fun q => ⟨i, j, CB.rI.mp hx, CB.rI.mp hy, q _ (h3 A H)⟩⟩
def gAddI := gII fun i j => some (.int (i + j))
def gSub := gII fun i j => some (.int (i - j))
def okMul (i j : Int) : Bool := decide (i.natAbs < 2 ^ 64) || decide (j.natAbs < 2 ^ 64)
def gMulI := gII fun i j => if okMul i j then some (.int (i * j)) else none
def gDiv := gII fun i j => if 0 < j ∧ j < 1073741824 then some (.int (i / j)) else none
def gMod := gII fun i j => if 0 < j then some (.int (i % j)) else none
def okPow (i j : Int) : Bool := decide (0 ≤ j ∧ j ≤ 1000000 ∧ i.natAbs < 2 ^ 64)
def gPow := gII fun i j => if okPow i j then some (.int (i ^ j.toNat)) else none
def gLt := gII fun i j => some (.bl (decide (i < j)))
def gLe := gII fun i j => some (.bl (decide (i ≤ j)))
def gGt := gII fun i j => some (.bl (decide (j < i)))
def gGe := gII fun i j => some (.bl (decide (j ≤ i)))
theorem g2_addI {t} : G2 K t (L2.rI0 fun i j => .int (i + j)) gAddI := g2I0 fun i j d e => by cases e; exact ⟨rfl, fun _ _ => CB.rI.mpr rfl⟩
theorem g2_sub {t} : G2 K t (L2.rI0 fun i j => .int (i - j)) gSub := g2I0 fun i j d e => by cases e; exact ⟨rfl, fun _ _ => CB.rI.mpr rfl⟩
theorem g2_mulI {t} : G2 K t (L2.rI CMul fun i j => .int (i * j)) gMulI := g2I fun i j d e => by
  split at e
  · rename_i h
    cases e
    refine ⟨rfl, ?_, fun _ _ => CB.rI.mpr rfl⟩
    simp only [okMul, Bool.or_eq_true, decide_eq_true_eq] at h
    unfold CMul
    omega
  · cases e
theorem g2_div {t} : G2 K t (L2.rI CDiv fun i j => .int (i / j)) gDiv := g2I fun i j d e => by
  split at e
  · rename_i h; cases e; exact ⟨rfl, h, fun _ _ => CB.rI.mpr rfl⟩
  · cases e
theorem g2_mod {t} : G2 K t (L2.rI (fun _ j => 0 < j) fun i j => .int (i % j)) gMod := g2I fun i j d e => by
  split at e
  · rename_i h; cases e; exact ⟨rfl, h, fun _ _ => CB.rI.mpr rfl⟩
  · cases e
theorem g2_pow {t} : G2 K t (L2.rI CPow fun i j => .int (i ^ j.toNat)) gPow := g2I fun i j d e => by
  split at e
  · rename_i h; cases e; exact ⟨rfl, (by simp only [okPow, decide_eq_true_eq] at h; exact h), fun _ _ => CB.rI.mpr rfl⟩
  · cases e
theorem g2_lt {t} : G2 K t (L2.rI0 fun i j => .bl (decide (i < j))) gLt := g2I0 fun i j d e => by cases e; exact ⟨rfl, fun _ _ => rB.mpr rfl⟩
theorem g2_le {t} : G2 K t (L2.rI0 fun i j => .bl (decide (i ≤ j))) gLe := g2I0 fun i j d e => by cases e; exact ⟨rfl, fun _ _ => rB.mpr rfl⟩
theorem g2_gt {t} : G2 K t (L2.rI0 fun i j => .bl (decide (j < i))) gGt := g2I0 fun i j d e => by cases e; exact ⟨rfl, fun _ _ => rB.mpr rfl⟩
theorem g2_ge {t} : G2 K t (L2.rI0 fun i j => .bl (decide (j ≤ i))) gGe := g2I0 fun i j d e => by cases e; exact ⟨rfl, fun _ _ => rB.mpr rfl⟩

/-! + -/
def okLen (n : Nat) : Bool := decide (n ≤ 16777216)
theorem okLen_line {n : Nat} (h : okLen n = true) : n ≤ sizeLine := by rw [sizeLine_eq]; simpa [okLen] using h
def gAddS : D → D → Option D
  | .str a, .str b => if okLen (a.length + b.length) then some (.str (a ++ b)) else none
  | _, _ => none
theorem g2_addS {t} : G2 K t (fun x y H Q => ∃ i j, x = .str i ∧ y = .str j ∧ i.length + j.length ≤ sizeLine ∧ Q (.str (i ++ j)) H) gAddS := by
  refine G2.flat fun A x y dx dy d H Q hx hy e => ?_
  cases dx <;> cases dy <;> simp only [gAddS, reduceCtorEq] at e
  rename_i i j
  split at e
  · rename_i h
    cases e
    exact ⟨rfl, fun q => ⟨i, j, rS.mp hx, rS.mp hy, okLen_line h, q _ (rS.mpr rfl)⟩⟩
  · cases e
theorem newT {A : Addr → Prop} {H : Hp} {p : Addr} {xs : List D} {vs : List V} (hp : H p = none) (h : RepL K A H xs vs) : Rep K A (upd H p (.tup vs)) (.tup xs) (.ref p) :=
  rT.mpr ⟨p, vs, rfl, upd_same, RepL.kp (Kp.of_same (same_upd hp)) h⟩
theorem newL {A : Addr → Prop} {H : Hp} {p : Addr} {xs : List D} {vs : List V} (hA : ∀ a, A a → H a ≠ none) (hp : H p = none) (h : RepL K A H xs vs) : Rep K A (upd H p (.lst vs)) (.lst xs) (.ref p) :=
  rL.mpr ⟨p, vs, rfl, fun z => hA p z hp, upd_same, RepL.kp (Kp.of_same (same_upd hp)) h⟩
theorem newFT {A : Addr → Prop} {H : Hp} {p : Addr} {xs : List D} {vs : List V} (hp : H p = none) (h : RepL K A H xs vs) : FT K A H (upd H p (.lst vs)) (.lst xs) (.ref p) := fun _ =>
  ⟨p, rfl, hp, vs, upd_same, RepL.kp (Kp.of_same (same_upd hp)) h⟩
def gAddT : D → D → Option D
  | .tup a, .tup b => if okLen (a.length + b.length) then some (.tup (a ++ b)) else none
  | _, _ => none
theorem g2_addT {t} : G2 K t (rCatA K) gAddT := by
  intro A x y dx dy d H Q hA hx hy e q
  cases dx <;> cases dy <;> simp only [gAddT, reduceCtorEq] at e
  rename_i xs ys
  split at e
  · rename_i hz
    cases e
    obtain ⟨a, vs, rfl, h1, h2⟩ := rT.mp hx
    obtain ⟨b, us, rfl, h3, h4⟩ := rT.mp hy
    refine ⟨a, b, vs, us, rfl, rfl, .of h1, .of h3, by rw [h2.len, h4.len]; exact okLen_line hz, fun z => ?_, fun _ z => ?_, fun _ _ p hp => ?_⟩
    · subst z
      have : xs = [] := List.eq_nil_of_length_eq_zero (by have := h2.len; simpa using this.symm)
      subst this
      exact q H _ (Same.refl H) (by simpa using hy) fun _ => noFT
    · subst z
      have : ys = [] := List.eq_nil_of_length_eq_zero (by have := h4.len; simpa using this.symm)
      subst this
      exact q H _ (Same.refl H) (by simpa using hx) fun _ => noFT
    · exact q _ _ (same_upd hp) (newT hp (h2.append h4)) fun _ => noFT
  · cases e
def gAddL : D → D → Option D
  | .lst a, .lst b => if okLen (a.length + b.length) then some (.lst (a ++ b)) else none
  | _, _ => none
theorem g2_addL {t} : G2 K t rCat gAddL := by
  intro A x y dx dy d H Q hA hx hy e q
  cases dx <;> cases dy <;> simp only [gAddL, reduceCtorEq] at e
  rename_i xs ys
  split at e
  · rename_i hz
    cases e
    obtain ⟨a, vs, rfl, _, h1, h2⟩ := rL.mp hx
    obtain ⟨b, us, rfl, _, h3, h4⟩ := rL.mp hy
    refine ⟨a, b, vs, us, rfl, rfl, h1, h3, by rw [h2.len, h4.len]; exact okLen_line hz, fun p hp => ?_⟩
    exact q _ _ (same_upd hp) (newL hA hp (h2.append h4)) fun _ => newFT hp (h2.append h4)
  · cases e
/-! a + b, of ints, texts, tuples, lists -/
def gAdd : D → D → Option D := fun a b => (gAddI a b).or ((gAddT a b).or ((gAddL a b).or (gAddS a b)))
def rAdd4 (K : PySem.W.Frag) : R2 := fun x y H Q => (L2.rI0 fun i j => .int (i + j)) x y H Q ∨ rCatA K x y H Q ∨ rCat x y H Q ∨ ∃ i j, x = .str i ∧ y = .str j ∧ i.length + j.length ≤ sizeLine ∧ Q (.str (i ++ j)) H
theorem g2_add {t} : G2 K t (rAdd4 K) gAdd := g2_addI.or (g2_addT.or (g2_addL.or g2_addS))
def gRepL : D → D → Option D
  | .lst a, .int k => if okLen (a.length * k.toNat) ∧ -(2 ^ 63) ≤ k ∧ k < 2 ^ 63 then some (.lst (List.replicate k.toNat a).flatten) else none
  | _, _ => none
theorem RepL.repl {A : Addr → Prop} {H : Hp} {ds : List D} {vs : List V} (h : RepL K A H ds vs) : ∀ n : Nat, RepL K A H (List.replicate n ds).flatten (List.replicate n vs).flatten
  | 0 => by simp [RepL.nil]
  | n + 1 => by simpa [List.replicate_succ] using h.append (RepL.repl h n)
theorem g2_repL {t} : G2 K t rRep gRepL := by
  intro A x y dx dy d H Q hA hx hy e q
  cases dx <;> cases dy <;> simp only [gRepL, reduceCtorEq] at e
  rename_i xs k
  split at e
  · rename_i hz
    cases e
    obtain ⟨a, vs, rfl, _, h1, h2⟩ := rL.mp hx
    refine ⟨a, k, vs, rfl, CB.rI.mp hy, h1, hz.2.1, hz.2.2, by rw [h2.len]; exact okLen_line hz.1, fun p hp => ?_⟩
    exact q _ _ (same_upd hp) (newL hA hp (h2.repl _)) fun _ => newFT hp (h2.repl _)
  · cases e

/-! data as PyData -/
mutual
def D.py : D → PyData
  | .non => .none
  | .bl b => .bool b
  | .int i => .int i
  | .str s => .str s
  | .tup xs => .tuple (pyL xs)
  | .lst xs => .list (pyL xs)
  | .fro xs => .list (pyL xs)
  | .dK _ _ => .dict []
  | .dT _ _ => .dict []
  | .val _ => .dict []
  | .fdk _ => .dict []
  | .fdv _ => .dict []
  | .lam _ => .dict []
def pyL : List D → List PyData
  | [] => []
  | x :: xs => x.py :: pyL xs
end
mutual
theorem dp_of {A : Addr → Prop} {H : Hp} : ∀ {d : D} {v : V}, d.py.canLay0 = true → Rep K A H d v → Dp K H v d.py
  | .non, v, _, h => by rw [rN.mp h]; exact .non
  | .bl b, v, _, h => by rw [rB.mp h]; exact .bl b
  | .int b, v, _, h => by rw [CB.rI.mp h]; exact .int b
  | .str b, v, _, h => by rw [rS.mp h]; exact .str b
  | .tup xs, v, c, h => by
    obtain ⟨a, vs, rfl, h1, h2⟩ := rT.mp h
    exact .tup (.of h1) (dpL_of (by simpa [D.py, PyData.canLay0] using c) h2)
  | .lst xs, v, c, h => by
    obtain ⟨a, vs, rfl, _, h1, h2⟩ := rL.mp h
    exact .lst (.of h1) (dpL_of (by simpa [D.py, PyData.canLay0] using c) h2)
  | .fro xs, v, c, h => by
    obtain ⟨a, vs, rfl, h1, h2⟩ := rF.mp h
    exact .lst h1.sq (dpL_of (by simpa [D.py, PyData.canLay0] using c) h2)
  | .dK _ _, v, c, h => by simp [D.py, PyData.canLay0] at c
  | .dT _ _, v, c, h => by simp [D.py, PyData.canLay0] at c
  | .val _, v, c, h => by simp [D.py, PyData.canLay0] at c
  | .fdk _, v, c, h => by simp [D.py, PyData.canLay0] at c
  | .fdv _, v, c, h => by simp [D.py, PyData.canLay0] at c
  | .lam _, v, c, h => by simp [D.py, PyData.canLay0] at c
theorem dpL_of {A : Addr → Prop} {H : Hp} : ∀ {ds : List D} {vs : List V}, PyData.canLayAll0 (pyL ds) = true → RepL K A H ds vs → DpAll K H vs (pyL ds)
  | [], vs, _, h => by unfold RepL at h; subst h; exact .nil
  | d :: ds, vs, c, h => by
    obtain ⟨v, r, rfl, h1, h2⟩ := h.uncons
    simp only [pyL, PyData.canLayAll0, Bool.and_eq_true] at c
    exact .cons (dp_of c.1 h1) (dpL_of c.2 h2)
end
def gEq (a b : D) : Option D := if SeqAt.shaped a.py && SeqAt.shaped b.py then some (.bl (PyData.eqv a.py b.py)) else none
def gNe (a b : D) : Option D := if SeqAt.shaped a.py && SeqAt.shaped b.py then some (.bl (!PyData.eqv a.py b.py)) else none
theorem g2_eq {t} : G2 K t (rEqD K) gEq := by
  refine G2.flat fun A x y dx dy d H Q hx hy e => ?_
  unfold gEq at e
  split at e
  · rename_i h
    cases e
    simp only [Bool.and_eq_true] at h
    exact ⟨rfl, fun q => ⟨_, _, dp_of (SeqAt.canLay_of_shaped h.1) hx, dp_of (SeqAt.canLay_of_shaped h.2) hy, h.1, h.2, q _ (rB.mpr rfl)⟩⟩
  · cases e
theorem g2_ne {t} : G2 K t (rNeD K) gNe := by
  refine G2.flat fun A x y dx dy d H Q hx hy e => ?_
  unfold gNe at e
  split at e
  · rename_i h
    cases e
    simp only [Bool.and_eq_true] at h
    exact ⟨rfl, fun q => ⟨_, _, dp_of (SeqAt.canLay_of_shaped h.1) hx, dp_of (SeqAt.canLay_of_shaped h.2) hy, h.1, h.2, q _ (rB.mpr rfl)⟩⟩
  · cases e
def gIsN (a b : D) : Option D := match b with
  | .non => match a with
    | .non => some (.bl true)
    | .val _ => none
    | _ => some (.bl false)
  | _ => none
def gNotN (a b : D) : Option D := match b with
  | .non => match a with
    | .non => some (.bl false)
    | .val _ => none
    | _ => some (.bl true)
  | _ => none
theorem rep_non {A : Addr → Prop} {H : Hp} {d : D} {v : V} (h : Rep K A H d v) (n : d ≠ .non) (n2 : ∀ w, d ≠ .val w) : v ≠ .non := by
  cases d with
  | non => exact absurd rfl n
  | bl b => rw [rB.mp h]; intro z; cases z
  | int b => rw [CB.rI.mp h]; intro z; cases z
  | str b => rw [rS.mp h]; intro z; cases z
  | tup xs => obtain ⟨a, vs, rfl, _⟩ := rT.mp h; intro z; cases z
  | lst xs => obtain ⟨a, vs, rfl, _⟩ := rL.mp h; intro z; cases z
  | fro xs => obtain ⟨a, vs, rfl, _⟩ := rF.mp h; intro z; cases z
  | dK ks ds => unfold Rep at h; obtain ⟨a, vs, rfl, _⟩ := h; intro z; cases z
  | dT ks ds => unfold Rep at h; obtain ⟨a, vs, rfl, _⟩ := h; intro z; cases z
  | val w => exact absurd rfl (n2 w)
  | fdk xs => unfold Rep at h; obtain ⟨a, o, u, rfl, _⟩ := h; intro z; cases z
  | fdv xs => unfold Rep at h; obtain ⟨a, o, u, rfl, _⟩ := h; intro z; cases z
  | lam l => unfold Rep at h; obtain ⟨a, rfl, _⟩ := h; intro z; cases z
theorem g2_isN {t} : G2 K t (fun x y H Q => y = .non ∧ Q (.bl (decide (x = .non))) H) gIsN := by
  refine G2.flat fun A x y dx dy d H Q hx hy e => ?_
  cases dy <;> simp only [gIsN, reduceCtorEq] at e
  split at e
  · cases e; rw [rN.mp hx, rN.mp hy]; exact ⟨rfl, fun q => ⟨rfl, q _ (rB.mpr rfl)⟩⟩
  · cases e
  · rename_i n1 n2
    cases e
    have := rep_non hx n1 n2
    rw [rN.mp hy]
    exact ⟨rfl, fun q => ⟨rfl, by rw [decide_eq_false this]; exact q _ (rB.mpr rfl)⟩⟩
theorem g2_notN {t} : G2 K t (fun x y H Q => y = .non ∧ Q (.bl (!decide (x = .non))) H) gNotN := by
  refine G2.flat fun A x y dx dy d H Q hx hy e => ?_
  cases dy <;> simp only [gNotN, reduceCtorEq] at e
  split at e
  · cases e; rw [rN.mp hx, rN.mp hy]; exact ⟨rfl, fun q => ⟨rfl, q _ (rB.mpr rfl)⟩⟩
  · cases e
  · rename_i n1 n2
    cases e
    have := rep_non hx n1 n2
    rw [rN.mp hy]
    exact ⟨rfl, fun q => ⟨rfl, by rw [decide_eq_false this]; exact q _ (rB.mpr rfl)⟩⟩
/-! in a list -/
theorem any_py (d : D) : ∀ xs : List D, ((pyL xs).any fun z => PyData.eqv z d.py) = xs.any fun z => PyData.eqv z.py d.py
  | [] => rfl
  | x :: xs => by simp [pyL, any_py d xs]
def isL : D → Option (List D)
  | .lst xs => some xs
  | .fro xs => some xs
  | _ => none
def gIn (a b : D) : Option D := match isL b with
  | some xs => if SeqAt.shaped a.py && SeqAt.shaped b.py then some (.bl (xs.any fun z => PyData.eqv z.py a.py)) else none
  | none => none
def gNotIn (a b : D) : Option D := match isL b with
  | some xs => if SeqAt.shaped a.py && SeqAt.shaped b.py then some (.bl (!xs.any fun z => PyData.eqv z.py a.py)) else none
  | none => none
theorem isL_py {d : D} {xs : List D} (h : isL d = some xs) : d.py = .list (pyL xs) := by
  cases d <;> simp [isL] at h <;> (subst h; simp [D.py])
theorem g2_in {t} : G2 K t (rInD K) gIn := by
  refine G2.flat fun A x y dx dy d H Q hx hy e => ?_
  unfold gIn at e
  split at e
  · rename_i xs ex
    split at e
    · rename_i h
      cases e
      simp only [Bool.and_eq_true] at h
      have py := isL_py ex
      refine ⟨rfl, fun q => ⟨dx.py, pyL xs, dp_of (SeqAt.canLay_of_shaped h.1) hx, py ▸ dp_of (SeqAt.canLay_of_shaped h.2) hy, h.1, py ▸ h.2, ?_⟩⟩
      rw [any_py]
      exact q _ (rB.mpr rfl)
    · cases e
  · cases e
theorem g2_notIn {t} : G2 K t (rNotInD K) gNotIn := by
  refine G2.flat fun A x y dx dy d H Q hx hy e => ?_
  unfold gNotIn at e
  split at e
  · rename_i xs ex
    split at e
    · rename_i h
      cases e
      simp only [Bool.and_eq_true] at h
      have py := isL_py ex
      refine ⟨rfl, fun q => ⟨dx.py, pyL xs, dp_of (SeqAt.canLay_of_shaped h.1) hx, py ▸ dp_of (SeqAt.canLay_of_shaped h.2) hy, h.1, py ▸ h.2, ?_⟩⟩
      rw [any_py]
      exact q _ (rB.mpr rfl)
    · cases e
  · cases e
/-! x[i] -/
def gIx (a b : D) : Option D := match a, b with
  | .tup xs, .int i => atI xs i
  | .lst xs, .int i => atI xs i
  | .fro xs, .int i => atI xs i
  | .str z, .int i => if okLen z.length then (atI z.cps.toList i).map fun c => .str ⟨#[c]⟩ else none
  | _, _ => none
theorem RepL.at {A : Addr → Prop} {H : Hp} {ds : List D} {vs : List V} {i : Int} {d : D} (h : RepL K A H ds vs) (e : atI ds i = some d) : ∃ v, atI vs i = some v ∧ Rep K A H d v := by
  unfold atI at e ⊢
  rw [h.len]
  cases q : ixN ds.length i with
  | none => rw [q] at e; cases e
  | some j =>
    rw [q] at e
    obtain ⟨v, h1, h2⟩ := h.get (i := j) (d := d) e
    exact ⟨v, h1, h2⟩
theorem g2_ix : G2 K false (rIx K) gIx := by
  intro A x y dx dy d H Q hA hx hy e q
  have fin : ∀ {v : V}, Rep K A H d v → Q v H := fun {v} rv => q H v (Same.refl H) rv (by intro h; cases h)
  cases dx <;> cases dy <;> simp only [gIx, reduceCtorEq] at e
  · rename_i z i
    split at e
    · rename_i hz
      cases q1 : atI z.cps.toList i with
      | none => rw [q1] at e; cases e
      | some c =>
        rw [q1] at e
        cases e
        exact .inr (.inr ⟨z, i, c, rS.mp hx, CB.rI.mp hy, okLen_line hz, q1, fin (rS.mpr rfl)⟩)
    · cases e
  · rename_i xs i
    obtain ⟨a, vs, rfl, h1, h2⟩ := rT.mp hx
    obtain ⟨v, h3, h4⟩ := h2.at e
    exact .inr (.inl ⟨a, vs, i, v, rfl, CB.rI.mp hy, .of h1, h3, fin h4⟩)
  · rename_i xs i
    obtain ⟨a, vs, rfl, _, h1, h2⟩ := rL.mp hx
    obtain ⟨v, h3, h4⟩ := h2.at e
    exact .inl ⟨a, vs, i, v, rfl, CB.rI.mp hy, .of h1, h3, fin h4⟩
  · rename_i xs i
    obtain ⟨a, vs, rfl, h1, h2⟩ := rF.mp hx
    obtain ⟨v, h3, h4⟩ := h2.at e
    exact .inl ⟨a, vs, i, v, rfl, CB.rI.mp hy, h1.sq, h3, fin h4⟩
end
end CB
set_option Elab.async false
set_option linter.all false
set_option maxRecDepth 100000
namespace CB
open PySem PySem.Spec PyProof.Rows L2

section
variable {X : Cx} {W : Wx} {l : Lvl} {pos : Pos}

/-! argument lists -/
def OutA (l : Lvl) (K : PySem.W.Frag) (W : Wx) (P : Addr → Prop) (S : Store) (H0 H : Hp) (Q : List V → Hp → Prop) : Out (List D) → Prop
  | .ok ds S' => ∀ H' vs, Evo K S H S' H' → RepL K (avo P S H0 H l) H' ds vs → Q vs H'
  | .ex e S' => ∀ H', Evo K S H S' H' → W e H'
  | .no => False
def tA (W : Wx) (l : Lvl) (K : PySem.W.Frag) (f : F (List D)) : TA := fun σ H Q => ∃ S0 H0 P S ρ, Rel K S0 H0 P S ρ σ H ∧ OutA l K W P S H0 H Q (f ρ S)
def fNil : F (List D) := fun _ S => .ok [] S
def fCons (f : F D) (g : F (List D)) : F (List D) := fun ρ S => (f ρ S).bind fun d S => (g ρ S).bind fun ds S => .ok (d :: ds) S
theorem ea_nil : PA X [] (tA W l X.K fNil) := PA.imp pa_nil fun σ H Q ⟨S0, H0, P, S, ρ, R, h⟩ => h H [] .refl .nil
theorem ea_cons {e : Expr} {es : List Expr} {f : F D} {g : F (List D)} (ha : PE X e (tE W l.sub X.K f)) (hr : PA X es (tA W l X.K g)) (hs : starEach (e :: es) X.env = (false, eval e X.env) :: starEach es X.env := by rfl) : PA X (e :: es) (tA W l X.K (fCons f g)) := by
  refine PA.imp (pa_cons ha hr hs) fun σ H Q ⟨S0, H0, P, S, ρ, R, q⟩ => ?_
  refine ⟨S0, H0, P, S, ρ, R, ?_⟩
  unfold fCons at q
  cases e1 : f ρ S with
  | ok d S1 =>
    rw [e1, Out.bind_ok] at q
    intro H1 v E r1
    have R1 := R.step E
    refine ⟨S0, H0, P, S1, ρ, R1, ?_⟩
    cases e2 : g ρ S1 with
    | ok ds S2 =>
      rw [e2, Out.bind_ok] at q
      intro H2 vs E2 r2
      exact q H2 (v :: vs) (E.trans E2) (.cons ((RepAt.sub r1).later R E E2) (RepL.av (fun a => av_step E a) r2))
    | ex x S2 =>
      rw [e2] at q
      exact fun H2 E2 => q H2 (E.trans E2)
    | no => rw [e2] at q; exact q
  | ex x S1 => rw [e1] at q; exact q
  | no => rw [e1] at q; exact q

/-! built-ins, by values -/
def GN (K : PySem.W.Frag) (t : Bool) (r : List V → Hp → VK → Prop) (g : List D → Option D) : Prop :=
  ∀ (A : Addr → Prop) (vs : List V) (ds : List D) (d : D) (H : Hp) (Q : VK), (∀ a, A a → H a ≠ none) → RepL K A H ds vs → g ds = some d →
    (∀ H' v, Same H H' → Rep K A H' d v → (t = true → FT K A H H' d v) → Q v H') → r vs H Q
theorem GN.or {K : PySem.W.Frag} {t : Bool} {r r' : List V → Hp → VK → Prop} {g g' : List D → Option D} (h : GN K t r g) (h' : GN K t r' g') : GN K t (fun vs H Q => r vs H Q ∨ r' vs H Q) (fun a => (g a).or (g' a)) := by
  intro A vs ds d H Q hA hx e q
  have e : (g ds).or (g' ds) = some d := e
  cases e1 : g ds with
  | some z =>
    rw [e1] at e
    exact .inl (h A vs ds d H Q hA hx (e1.trans e) q)
  | none =>
    rw [e1] at e
    exact .inr (h' A vs ds d H Q hA hx e q)
def fApp (g : List D → Option D) (f : F (List D)) : F D := fun ρ S => (f ρ S).bind fun ds S => ofOpt (g ds) S
theorem tE_app {t : Bool} {r : List V → Hp → VK → Prop} {g : List D → Option D} {f : F (List D)} {σ : L2.St} {H : Hp} {Q : VK} (hg : GN X.K t r g) (hl : l = .top → t = true)
    (h : tE W l X.K (fApp g f) σ H Q) : tCB r (tA W l X.K f) σ H Q := by
  obtain ⟨S0, H0, P, S, ρ, R, q⟩ := h
  refine ⟨S0, H0, P, S, ρ, R, ?_⟩
  unfold fApp at q
  cases e1 : f ρ S with
  | ok ds S1 =>
    rw [e1, Out.bind_ok] at q
    intro H1 vs E r1
    cases e2 : g ds with
    | none => rw [e2] at q; exact q.elim
    | some d =>
      rw [e2, ofOpt_some] at q
      refine hg (avo P S H0 H l) vs ds d H1 Q (fun a ha => E.kp.dom a (av_dom R a ha)) r1 e2 fun H3 v3 s3 r3 ft => ?_
      refine q H3 v3 (E.trans (.of_same s3)) (.of r3 fun et ic => ?_)
      obtain ⟨p, h1, h2, h3⟩ := ft (hl et) ic
      subst et
      exact ⟨p, h1, Classical.byContradiction fun z => E.kp.dom p z h2, h3⟩
  | ex x S1 => rw [e1] at q; exact q
  | no => rw [e1] at q; exact q
theorem ev_callB {x : Str} {p : Pos} {id : String} {r : List V → Hp → VK → Prop} {t : Bool} {g : List D → Option D} {e : Expr} {es : List Expr} {f : F (List D)} (hc : CallR X (.builtin id) r) (hg : GN X.K t r g) (hgl : Gl X x) (hm : X.mg x = none) (hv : bootBuiltins x = some (.builtin id))
    (ha : PA X (e :: es) (tA W l X.K f)) (hl : l = .top → t = true := by first | exact fun _ => rfl | (intro h; cases h)) (hn : x ≠ "__name__" := by decide) (hdb : (x == ("__debug__" : Str)) = false := by decide)
    (he : starEach (e :: es) X.env = (false, eval e X.env) :: starEach es X.env := by rfl) (hpl : (backTo pos (starEach es X.env)).any (·.1) = false := by rfl) : PE X (.Call (.Name x p) (e :: es) [] pos) (tE W l X.K (fApp g f)) :=
  PE.imp (pe_callB hc hgl hm hv ha hn hdb he hpl) fun _ _ _ h => tE_app hg hl h
theorem ev_callTy {x : Str} {p : Pos} {T : String} {r : List V → Hp → VK → Prop} {t : Bool} {g : List D → Option D} {e : Expr} {es : List Expr} {f : F (List D)} (hc : CallR X (.type T) r) (hg : GN X.K t r g) (hgl : Gl X x) (hm : X.mg x = none) (hv : bootBuiltins x = some (.type T))
    (ha : PA X (e :: es) (tA W l X.K f)) (hl : l = .top → t = true := by first | exact fun _ => rfl | (intro h; cases h)) (hn : x ≠ "__name__" := by decide) (hdb : (x == ("__debug__" : Str)) = false := by decide)
    (he : starEach (e :: es) X.env = (false, eval e X.env) :: starEach es X.env := by rfl) (hpl : (backTo pos (starEach es X.env)).any (·.1) = false := by rfl) : PE X (.Call (.Name x p) (e :: es) [] pos) (tE W l X.K (fApp g f)) :=
  PE.imp (pe_callTy hc hgl hm hv ha hn hdb he hpl) fun _ _ _ h => tE_app hg hl h
theorem flat_app {g : List D → Option D} {f : F (List D)} (hg : ∀ x d, g x = some d → flat1 d = true) : ∀ ρ S d S1, fApp g f ρ S = .ok d S1 → flat1 d = true := by
  intro ρ S d S1 h
  unfold fApp at h
  cases e : f ρ S with
  | ok x S2 =>
    rw [e, Out.bind_ok] at h
    cases e3 : g x with
    | some z => rw [e3] at h; cases h; exact hg _ _ e3
    | none => rw [e3] at h; cases h
  | ex _ _ => rw [e] at h; cases h
  | no => rw [e] at h; cases h

/-! displays -/
def fTup (f : F (List D)) : F D := fun ρ S => (f ρ S).bind fun ds S => if okLen ds.length then .ok (.tup ds) S else .no
def fLst (f : F (List D)) : F D := fun ρ S => (f ρ S).bind fun ds S => if okLen ds.length then .ok (.lst ds) S else .no
theorem ev_tup {es : List Expr} {f : F (List D)} {x1} (h : PA X es (tA W l X.K f)) : PE X (.Tuple es x1 pos) (tE W l X.K (fTup f)) := by
  refine PE.imp (pe_tup h) fun σ H Q ⟨S0, H0, P, S, ρ, R, q⟩ => ?_
  refine ⟨S0, H0, P, S, ρ, R, ?_⟩
  unfold fTup at q
  cases e1 : f ρ S with
  | ok ds S1 =>
    rw [e1, Out.bind_ok] at q
    intro H1 vs E r1
    split at q
    · rename_i hz
      refine ⟨by rw [r1.len]; exact okLen_line hz, fun p hp => ?_⟩
      exact q _ _ (E.trans (.alloc hp)) (.of (newT hp r1) fun _ => noFT)
    · exact q.elim
  | ex x S1 => rw [e1] at q; exact q
  | no => rw [e1] at q; exact q
theorem ev_lst {es : List Expr} {f : F (List D)} (h : PA X es (tA W l X.K f)) : PE X (.List es pos) (tE W l X.K (fLst f)) := by
  refine PE.imp (pe_lst h) fun σ H Q ⟨S0, H0, P, S, ρ, R, q⟩ => ?_
  refine ⟨S0, H0, P, S, ρ, R, ?_⟩
  unfold fLst at q
  cases e1 : f ρ S with
  | ok ds S1 =>
    rw [e1, Out.bind_ok] at q
    intro H1 vs E r1
    split at q
    · rename_i hz
      refine ⟨by rw [r1.len]; exact okLen_line hz, fun p hp => ?_⟩
      refine q _ _ (E.trans (.alloc hp)) (.of (newL (fun a ha => E.kp.dom a (av_dom R a ha)) hp r1) fun et => ?_)
      subst et
      intro _
      exact ⟨p, rfl, Classical.byContradiction fun z => E.kp.dom p z hp, vs, upd_same, RepL.kp (Kp.of_same (same_upd hp)) r1⟩
    · exact q.elim
  | ex x S1 => rw [e1] at q; exact q
  | no => rw [e1] at q; exact q

/-! x[i], x[a:b] -/
theorem ev_ix {a b : Expr} {fa fb : F D} (ha : PE X a (tE W l.sub X.K fa)) (hb : PE X b (tE W l.sub X.K fb)) (hs : PlainIx b := by intro _ _; rfl) (hl : l ≠ .top := by intro h; cases h) : PE X (.Subscript a b pos) (tE W l X.K (fBin gIx fa fb)) :=
  PE.imp (pe_ix ix_seq ha hb hs) fun _ _ _ h => tE_bin g2_ix (fun z => (hl z).elim) h
def OutO (K : PySem.W.Frag) (W : Wx) (S : Store) (H : Hp) (Q : Option Int → Hp → Prop) : Out (Option Int) → Prop
  | .ok i S' => ∀ H', Evo K S H S' H' → Q i H'
  | .ex e S' => ∀ H', Evo K S H S' H' → W e H'
  | .no => False
def tO (W : Wx) (K : PySem.W.Frag) (f : F (Option Int)) : TO := fun σ H Q => ∃ S0 H0 P S ρ, Rel K S0 H0 P S ρ σ H ∧ OutO K W S H Q (f ρ S)
def fNoPart : F (Option Int) := fun _ S => .ok none S
def fPart (f : F D) : F (Option Int) := fun ρ S => (f ρ S).bind fun d S => match d with
  | .int i => .ok (some i) S
  | _ => .no
theorem PO.imp {X : Cx} {e : Option Expr} {t t' : TO} (h : PO X e t) (i : ∀ σ H Q, t' σ H Q → t σ H Q) : PO X e t' := ⟨fun pins s σ H Q I q => h.run pins s σ H Q I (i σ H Q q)⟩
theorem eo_none : PO X none (tO W X.K fNoPart) := PO.imp po_none fun σ H Q ⟨S0, H0, P, S, ρ, R, q⟩ => q H .refl
theorem eo_some {e : Expr} {f : F D} (h : PE X e (tE W .any X.K f)) : PO X (some e) (tO W X.K (fPart f)) := PO.imp (po_some h) fun σ H Q ⟨S0, H0, P, S, ρ, R, q⟩ => by
  refine ⟨S0, H0, P, S, ρ, R, ?_⟩
  unfold fPart at q
  cases e1 : f ρ S with
  | ok d S1 =>
    rw [e1, Out.bind_ok] at q
    intro H1 v E r1
    cases d with
    | int i => exact ⟨i, CB.rI.mp r1.rep, q H1 E⟩
    | _ => exact q.elim
  | ex x S1 => rw [e1] at q; exact q
  | no => rw [e1] at q; exact q
def gSl (x : D) (lo hi : Option Int) : Option D := match x with
  | .tup xs => some (.tup ((xs.drop (HT.sIx xs.length 0 lo)).take (HT.sIx xs.length xs.length hi - HT.sIx xs.length 0 lo)))
  | .lst xs => some (.lst ((xs.drop (HT.sIx xs.length 0 lo)).take (HT.sIx xs.length xs.length hi - HT.sIx xs.length 0 lo)))
  | _ => none
def fSl (fa : F D) (fl fh : F (Option Int)) : F D := fun ρ S => (fa ρ S).bind fun x S => (fl ρ S).bind fun lo S => (fh ρ S).bind fun hi S => ofOpt (gSl x lo hi) S
theorem sIx_le' (n : Nat) (o : Option Int) : HT.sIx n 0 o ≤ n := HT.sIx_le n 0 (Nat.zero_le _) o
theorem ev_slice {a : Expr} {lo hi : Option Expr} {p2 : Pos} {fa : F D} {fl fh : F (Option Int)} (ha : PE X a (tE W l.sub X.K fa)) (hl : PO X lo (tO W X.K fl)) (hh : PO X hi (tO W X.K fh)) : PE X (.Subscript a (.Slice lo hi none p2) pos) (tE W l X.K (fSl fa fl fh)) := by
  refine PE.imp (pe_slice (SlR.or sl_tupA sl_list) ha hl hh) fun σ H Q ⟨S0, H0, P, S, ρ, R, q⟩ => ?_
  refine ⟨S0, H0, P, S, ρ, R, ?_⟩
  unfold fSl at q
  cases e1 : fa ρ S with
  | ok d S1 =>
    rw [e1, Out.bind_ok] at q
    intro H1 v E1 r1
    have R1 := R.step E1
    refine ⟨S0, H0, P, S1, ρ, R1, ?_⟩
    cases e2 : fl ρ S1 with
    | ok lo S2 =>
      rw [e2, Out.bind_ok] at q
      intro H2 E2
      have R2 := R1.step E2
      refine ⟨S0, H0, P, S2, ρ, R2, ?_⟩
      cases e3 : fh ρ S2 with
      | ok hi S3 =>
        rw [e3, Out.bind_ok] at q
        intro H3 E3
        have EE := (E1.trans E2).trans E3
        have rr := (RepAt.sub r1).later R E1 (E2.trans E3)
        cases d with
        | tup xs =>
          obtain ⟨a, vs, rfl, h1, h2⟩ := rT.mp rr
          refine .inl ⟨a, vs, rfl, .of h1, fun w => ?_, fun _ p hp => ?_⟩
          · rw [h2.len] at w
            refine q H3 _ EE (.of (rT.mpr ⟨a, vs, rfl, h1, ?_⟩) fun _ => noFT)
            rw [w.1, w.2]
            simpa using h2
          · refine q _ _ (EE.trans (.alloc hp)) (.of (newT hp ?_) fun _ => noFT)
            unfold cutV
            rw [h2.len]
            exact (h2.drop _).take _
        | lst xs =>
          obtain ⟨a, vs, rfl, _, h1, h2⟩ := rL.mp rr
          refine .inr ⟨a, vs, rfl, .of h1, fun p hp => ?_⟩
          have h5 : RepL X.K (avo P S H0 H l) H3 ((xs.drop (HT.sIx xs.length 0 lo)).take (HT.sIx xs.length xs.length hi - HT.sIx xs.length 0 lo)) (cutV vs lo hi) := by
            unfold cutV
            rw [h2.len]
            exact (h2.drop _).take _
          refine q _ _ (EE.trans (.alloc hp)) (.of (newL (fun a ha => EE.kp.dom a (av_dom R a ha)) hp h5) fun et => ?_)
          subst et
          intro _
          exact ⟨p, rfl, Classical.byContradiction fun z => EE.kp.dom p z hp, _, upd_same, RepL.kp (Kp.of_same (same_upd hp)) h5⟩
        | _ => exact q.elim
      | ex x S3 => rw [e3] at q; exact fun H3 E3 => q H3 ((E1.trans E2).trans E3)
      | no => rw [e3] at q; exact q
    | ex x S2 => rw [e2] at q; exact fun H2 E2 => q H2 (E1.trans E2)
    | no => rw [e2] at q; exact q
  | ex x S1 => rw [e1] at q; exact q
  | no => rw [e1] at q; exact q

/-! tests -/
def OutT (K : PySem.W.Frag) (W : Wx) (S : Store) (H : Hp) (Q : Bool → Hp → Prop) : Out Bool → Prop
  | .ok b S' => ∀ H', Evo K S H S' H' → Q b H'
  | .ex e S' => ∀ H', Evo K S H S' H' → W e H'
  | .no => False
def tT (W : Wx) (K : PySem.W.Frag) (f : F Bool) : TT := fun σ H Q => ∃ S0 H0 P S ρ, Rel K S0 H0 P S ρ σ H ∧ OutT K W S H Q (f ρ S)
def fB (f : F D) : F Bool := fun ρ S => (f ρ S).bind fun d S => match d with
  | .bl b => .ok b S
  | _ => .no
theorem tT_of {f : F D} {σ : L2.St} {H : Hp} {Q : Bool → Hp → Prop} (h : tT W X.K (fB f) σ H Q) : tE W .any X.K f σ H fun x H' => ∃ k, x = .bl k ∧ Q k H' := by
  obtain ⟨S0, H0, P, S, ρ, R, q⟩ := h
  refine ⟨S0, H0, P, S, ρ, R, ?_⟩
  unfold fB at q
  cases e1 : f ρ S with
  | ok d S1 =>
    rw [e1, Out.bind_ok] at q
    intro H1 v E r1
    cases d with
    | bl b => exact ⟨b, rB.mp r1.rep, q H1 E⟩
    | _ => exact q.elim
  | ex x S1 => rw [e1] at q; exact q
  | no => rw [e1] at q; exact q
theorem et_val {e : Expr} {f : F D} (h : PE X e (tE W .any X.K f)) (he : ∀ whole, isTrue e X.env whole = (do let v ← whole; standAt e.pos; holding [v] (truthy v)) := by intro _; rfl) : PT X e (tT W X.K (fB f)) :=
  PT.imp (pt_val h he) fun _ _ _ h => tT_of h
theorem et_cmp {a b : Expr} {op : CmpOp} {r : R2} {g : D → D → Option D} {fa fb : F D} (ho : OpR X (compareOp op) r) (hg : G2 X.K true r g) (ha : PE X a (tE W .any X.K fa)) (hb : PE X b (tE W .any X.K fb)) (hm : behindInMarks op b = false) :
    PT X (.Compare a [op] [b] pos) (tT W X.K (fB (fBin g fa fb))) := PT.imp (pt_cmpR ho ha hb hm) fun _ _ _ h => tE_bin (l := .any) hg (by intro h; cases h) (tT_of h)
def fNot (f : F Bool) : F Bool := fun ρ S => (f ρ S).bind fun b S => .ok (!b) S
def fAnd (f g : F Bool) : F Bool := fun ρ S => (f ρ S).bind fun b S => if b then g ρ S else .ok false S
def fOr (f g : F Bool) : F Bool := fun ρ S => (f ρ S).bind fun b S => if b then .ok true S else g ρ S
theorem tT_seq {f : F Bool} {k : Bool → Store → Out Bool} {σ : L2.St} {H : Hp} {Q R : Bool → Hp → Prop} {S0 H0 P S ρ} (Rl : Rel X.K S0 H0 P S ρ σ H) (h : OutT X.K W S H Q ((f ρ S).bind k))
    (hk : ∀ b S1 H1, Evo X.K S H S1 H1 → OutT X.K W S H Q (k b S1) → R b H1) : tT W X.K f σ H R := by
  refine ⟨S0, H0, P, S, ρ, Rl, ?_⟩
  cases e : f ρ S with
  | ok d S1 => rw [e] at h; exact fun H1 E => hk d S1 H1 E h
  | ex x S1 => rw [e] at h; exact h
  | no => rw [e] at h; exact h
theorem OutT.step {S S1 : Store} {H H1 : Hp} {Q : Bool → Hp → Prop} {o : Out Bool} (E : Evo X.K S H S1 H1) (h : OutT X.K W S H Q o) : OutT X.K W S1 H1 Q o := by
  cases o with
  | ok b S2 => exact fun H2 E2 => h H2 (E.trans E2)
  | ex e S2 => exact fun H2 E2 => h H2 (E.trans E2)
  | no => exact h
theorem et_not {a : Expr} {f : F Bool} (h : PT X a (tT W X.K f)) : PT X (.UnaryOp .Not a pos) (tT W X.K (fNot f)) :=
  PT.imp (pt_not h) fun σ H Q ⟨S0, H0, P, S, ρ, R, q⟩ => tT_seq R q fun b S1 H1 E q => q H1 E
theorem ew_and1 {a : Expr} {f : F Bool} (h : PT X a (tT W X.K f)) : PW X (.BoolOp .And [a] pos) (tT W X.K f) := pw_and1 h
theorem ew_or1 {a : Expr} {f : F Bool} (h : PT X a (tT W X.K f)) : PW X (.BoolOp .Or [a] pos) (tT W X.K f) := pw_or1 h
theorem PW.imp {e : Expr} {t t' : TT} (h : PW X e t) (i : ∀ σ H Q, t' σ H Q → t σ H Q) : PW X e t' := ⟨fun wh pins s σ H Q I q => h.run wh pins s σ H Q I (i σ H Q q)⟩
theorem ew_and {a b : Expr} {rest : List Expr} {f g : F Bool} (h : PT X a (tT W X.K f)) (h2 : PW X (.BoolOp .And (b :: rest) pos) (tT W X.K g)) : PW X (.BoolOp .And (a :: b :: rest) pos) (tT W X.K (fAnd f g)) :=
  PW.imp (pw_and h h2) fun σ H Q ⟨S0, H0, P, S, ρ, R, q⟩ => tT_seq R q fun b S1 H1 E q => by
    cases b with
    | true => exact iteT ⟨S0, H0, P, S1, ρ, R.step E, q.step E⟩
    | false => exact iteF (q H1 E)
theorem ew_or {a b : Expr} {rest : List Expr} {f g : F Bool} (h : PT X a (tT W X.K f)) (h2 : PW X (.BoolOp .Or (b :: rest) pos) (tT W X.K g)) : PW X (.BoolOp .Or (a :: b :: rest) pos) (tT W X.K (fOr f g)) :=
  PW.imp (pw_or h h2) fun σ H Q ⟨S0, H0, P, S, ρ, R, q⟩ => tT_seq R q fun b S1 H1 E q => by
    cases b with
    | true => exact iteT (q H1 E)
    | false => exact iteF ⟨S0, H0, P, S1, ρ, R.step E, q.step E⟩

/-! .. as values -/
def fOfB (f : F Bool) : F D := fun ρ S => (f ρ S).bind fun b S => .ok (.bl b) S
theorem OutE.step {P : Addr → Prop} {S S1 : Store} {H0 H H1 : Hp} {ρ : En} {σ : L2.St} {S0 : Store} {Q : VK} {o : Out D} (R : Rel X.K S0 H0 P S ρ σ H) (E : Evo X.K S H S1 H1) (h : OutE l X.K W P S H0 H Q o) : OutE l X.K W P S1 H0 H1 Q o := by
  cases o with
  | ok d S2 =>
    refine fun H2 v E2 r => h H2 v (E.trans E2) (.of (Rep.av (fun a => av_step E a) r.rep) fun et => ?_)
    subst et
    intro ic
    obtain ⟨p, h1, h2, h3⟩ := r.2 ic
    exact ⟨p, h1, Classical.byContradiction fun z => E.kp.dom p z h2, h3.av (fun a z => (dS_of E.dom a).mpr z)⟩
  | ex e S2 => exact fun H2 E2 => h H2 (E.trans E2)
  | no => exact h
theorem tE_T {f : F D} {k : Bool → Store → Out D} {σ : L2.St} {H : Hp} {Q : VK} {S0 H0 P S ρ} {R : V → Hp → Prop} (Rl : Rel X.K S0 H0 P S ρ σ H) (h : OutE l X.K W P S H0 H Q ((fB f ρ S).bind k))
    (hk : ∀ b S1 H1, Evo X.K S H S1 H1 → OutE l X.K W P S H0 H Q (k b S1) → R (.bl b) H1) : tE W .any X.K f σ H R := by
  refine ⟨S0, H0, P, S, ρ, Rl, ?_⟩
  unfold fB at h
  cases e1 : f ρ S with
  | ok d S1 =>
    rw [e1, Out.bind_ok] at h
    intro H1 v E r1
    cases d with
    | bl b => rw [rB.mp r1.rep]; exact hk b S1 H1 E h
    | _ => exact h.elim
  | ex x S1 => rw [e1] at h; exact h
  | no => rw [e1] at h; exact h
def fAndV (f g : F D) : F D := fun ρ S => (fB f ρ S).bind fun b S => if b then g ρ S else .ok (.bl false) S
def fOrV (f g : F D) : F D := fun ρ S => (fB f ρ S).bind fun b S => if b then .ok (.bl true) S else g ρ S
def fNotV (f : F D) : F D := fun ρ S => (fB f ρ S).bind fun b S => .ok (.bl (!b)) S
theorem RepAt.bl {K : PySem.W.Frag} {P : Addr → Prop} {S : Store} {H0 H H' : Hp} {b : Bool} : RepAt K P S H0 H H' (.bl b) (.bl b) l := .of (rB.mpr rfl) fun _ => noFT
theorem ev_one {op} {a : Expr} {f : F D} (h : PE X a (tE W l X.K f)) : PE X (.BoolOp op [a] pos) (tE W l X.K f) := pe_one h
theorem ev_and {a b : Expr} {rest : List Expr} {f g : F D} (h : PE X a (tE W .any X.K f)) (h2 : PE X (.BoolOp .And (b :: rest) pos) (tE W l X.K g)) : PE X (.BoolOp .And (a :: b :: rest) pos) (tE W l X.K (fAndV f g)) :=
  PE.imp (pe_and h h2) fun σ H Q ⟨S0, H0, P, S, ρ, R, q⟩ => tE_T R q fun b S1 H1 E q => ⟨b, rfl, by
    cases b with
    | true => exact iteT ⟨S0, H0, P, S1, ρ, R.step E, q.step R E⟩
    | false => exact iteF (q H1 _ E .bl)⟩
theorem ev_or {a b : Expr} {rest : List Expr} {f g : F D} (h : PE X a (tE W .any X.K f)) (h2 : PE X (.BoolOp .Or (b :: rest) pos) (tE W l X.K g)) : PE X (.BoolOp .Or (a :: b :: rest) pos) (tE W l X.K (fOrV f g)) :=
  PE.imp (pe_or h h2) fun σ H Q ⟨S0, H0, P, S, ρ, R, q⟩ => tE_T R q fun b S1 H1 E q => ⟨b, rfl, by
    cases b with
    | true => exact iteT (q H1 _ E .bl)
    | false => exact iteF ⟨S0, H0, P, S1, ρ, R.step E, q.step R E⟩⟩
theorem ev_not {a : Expr} {f : F D} (h : PE X a (tE W .any X.K f)) : PE X (.UnaryOp .Not a pos) (tE W l X.K (fNotV f)) :=
  PE.imp (pe_not h) fun σ H Q ⟨S0, H0, P, S, ρ, R, q⟩ => tE_T R q fun b S1 H1 E q => ⟨b, rfl, q H1 _ E .bl⟩
def fIf (t : F Bool) (f g : F D) : F D := fun ρ S => (t ρ S).bind fun b S => if b then f ρ S else g ρ S
theorem ev_if {c a b : Expr} {t : F Bool} {f g : F D} (hc : PT X c (tT W X.K t)) (ha : PE X a (tE W l X.K f)) (hb : PE X b (tE W l X.K g)) : PE X (.IfExp c a b pos) (tE W l X.K (fIf t f g)) :=
  PE.imp (pe_ifExp hc ha hb) fun σ H Q ⟨S0, H0, P, S, ρ, R, q⟩ => ⟨S0, H0, P, S, ρ, R, by
    unfold fIf at q
    cases e : t ρ S with
    | ok d S1 =>
      rw [e, Out.bind_ok] at q
      intro H1 E
      cases d with
      | true => exact iteT ⟨S0, H0, P, S1, ρ, R.step E, OutE.step R E q⟩
      | false => exact iteF ⟨S0, H0, P, S1, ρ, R.step E, OutE.step R E q⟩
    | ex x S1 => rw [e] at q; exact q
    | no => rw [e] at q; exact q⟩
/-! a < b < c -/
def fChain (g g' : D → D → Option D) (fa fb fc : F D) : F D := fun ρ S => (fa ρ S).bind fun x S => (fb ρ S).bind fun y S => match g x y with
  | some (.bl true) => (fc ρ S).bind fun z S => ofOpt (g' y z) S
  | some (.bl false) => .ok (.bl false) S
  | _ => .no
theorem chain_read {r r' : R2} {g g' : D → D → Option D} {fa fb fc : F D} {σ : L2.St} {H : Hp} {Q : VK} (hg : G2 X.K true r g) (hg' : G2 X.K true r' g') (h : tE W .any X.K (fChain g g' fa fb fc) σ H Q) : tChain r r' (tE W .any X.K fa) (tE W .any X.K fb) (tE W .any X.K fc) σ H Q := by
  obtain ⟨S0, H0, P, S, ρ, R, q⟩ := h
  unfold fChain at q
  refine tE_seq R q fun x S1 H1 vx _ E1 r1 q => ?_
  have R1 := R.step E1
  have q := OutE.step R E1 q
  refine tE_seq R1 q fun y S2 H2 vy _ E2 r2 q => ?_
  have R2 := R1.step E2
  have q := OutE.step R1 E2 q
  have x1 : Rep X.K (dS S2) H2 x vx := Rep.av (fun a z => (dS_of (E1.trans E2).dom a).mp z) (RepAt.rep (l := .any) r1 |>.later (l := .any) R E1 E2)
  have y1 : Rep X.K (dS S2) H2 y vy := Rep.av (fun a z => (dS_of E2.dom a).mp z) (RepAt.rep (l := .any) r2)
  have hA : ∀ a, dS S2 a → H2 a ≠ none := fun a z => R2.pH a (R2.pS a z)
  split at q
  · rename_i e
    refine hg _ _ _ _ _ _ H2 _ hA x1 y1 e fun H3 v3 s3 r3 _ => ?_
    rw [rB.mp r3]
    have E3 : Evo X.K S2 H2 S2 H3 := .of_same s3
    refine ⟨true, rfl, iteT ?_⟩
    have R3 := R2.step E3
    refine tE_seq R3 (OutE.step R2 E3 q) fun z S4 H4 vz _ E4 r4 q => ?_
    cases ez : g' y z with
    | none => rw [ez] at q; exact q.elim
    | some d =>
      rw [ez, ofOpt_some] at q
      have R4 := R3.step E4
      refine hg' _ _ _ _ _ _ H4 _ (fun a (w : dS S4 a) => R4.pH a (R4.pS a w)) (Rep.av (fun a z => (dS_of E4.dom a).mp z) (Rep.kp E4.kp (Rep.kp E3.kp y1))) (Rep.av (fun a z => (dS_of E4.dom a).mp z) (RepAt.rep (l := .any) r4)) ez fun H5 v5 s5 r5 _ => ?_
      exact q H5 v5 (E4.trans (.of_same s5)) (Rep.av (fun a z => (dS_of E4.dom a).mpr z) r5)
  · rename_i e
    refine hg _ _ _ _ _ _ H2 _ hA x1 y1 e fun H3 v3 s3 r3 _ => ?_
    rw [rB.mp r3]
    exact ⟨false, rfl, iteF (q H3 _ (.of_same s3) RepAt.bl)⟩
  · exact q.elim
theorem ev_chain {a b c : Expr} {op op' : CmpOp} {r r' : R2} {g g' : D → D → Option D} {fa fb fc : F D} (ho : OpR X (compareOp op) r) (hg : G2 X.K true r g) (ho' : OpR X (compareOp op') r') (hg' : G2 X.K true r' g') (ha : PE X a (tE W .any X.K fa)) (hb : PE X b (tE W .any X.K fb)) (hc : PE X c (tE W .any X.K fc))
    (h1 : lastMarks [op, op'] [b, c] = false := by with_unfolding_all rfl) :
    PE X (.Compare a [op, op'] [b, c] pos) (tE W .any X.K (fChain g g' fa fb fc)) := PE.imp (pe_chain ho ho' ha hb hc h1) fun σ H Q h => chain_read hg hg' h
theorem et_chain {a b c : Expr} {op op' : CmpOp} {r r' : R2} {g g' : D → D → Option D} {fa fb fc : F D} (ho : OpR X (compareOp op) r) (hg : G2 X.K true r g) (ho' : OpR X (compareOp op') r') (hg' : G2 X.K true r' g') (ha : PE X a (tE W .any X.K fa)) (hb : PE X b (tE W .any X.K fb)) (hc : PE X c (tE W .any X.K fc))
    (h1 : lastMarks [op, op'] [b, c] = false := by with_unfolding_all rfl) : PT X (.Compare a [op, op'] [b, c] pos) (tT W X.K (fB (fChain g g' fa fb fc))) :=
  PT.imp (pt_chain ho ho' ha hb hc h1) fun σ H Q h => chain_read hg hg' (tT_of h)
end
end CB
set_option Elab.async false
set_option linter.all false
set_option maxRecDepth 100000
namespace CB
open PySem PySem.Spec PyProof.Rows L2

/-! slots changed -/
def wipeE (ρ : En) : List Nat → En
  | [] => ρ
  | v :: vs => (wipeE ρ vs).set v .no
section
variable {K : PySem.W.Frag} {S0 : Store} {H0 : Hp} {P P' : Addr → Prop} {S : Store} {ρ : En} {σ : L2.St} {H H1 H2 : Hp}
theorem get_set {α : Type} {xs : List α} {i j : Nat} {a b : α} (h : (xs.set i a)[j]? = some b) : (i = j ∧ a = b) ∨ (i ≠ j ∧ xs[j]? = some b) := by
  by_cases e : i = j
  · subst e
    by_cases hl : i < xs.length
    · rw [List.getElem?_set_self hl] at h; exact .inl ⟨rfl, Option.some.inj h⟩
    · rw [List.getElem?_eq_none (by simpa using hl)] at h; cases h
  · rw [List.getElem?_set_ne e] at h; exact .inr ⟨e, h⟩
theorem set_at {α : Type} {xs : List α} {i : Nat} {a : α} (h : i < xs.length) : (xs.set i a)[i]? = some a := List.getElem?_set_self h
theorem lt_of_get {α : Type} {xs : List α} {i : Nat} {a : α} (h : xs[i]? = some a) : i < xs.length := (List.getElem?_eq_some_iff.mp h).1
/-- a slot gets a thing that is not one's own -/
theorem Rel.setRo (R : Rel K S0 H0 P S ρ σ H) (i : Nat) {d : D} {v : V} (r : Rep K P H d v) : Rel K S0 H0 P S (ρ.set i (.ro d)) (σ.set i (some v)) H where
  len := by simpa using R.len
  ro := fun j d' h => by
    rcases get_set h with ⟨rfl, e⟩ | ⟨ne, h⟩
    · cases e
      refine ⟨v, set_at ?_, r⟩
      rw [R.len]; simpa using lt_of_get h
    · obtain ⟨w, h1, h2⟩ := R.ro j d' h
      exact ⟨w, by rw [List.getElem?_set_ne ne]; exact h1, h2⟩
  own := fun j d' h => by
    rcases get_set h with ⟨rfl, e⟩ | ⟨ne, h⟩
    · cases e
    · obtain ⟨p, h1, h2⟩ := R.own j d' h
      exact ⟨p, by rw [List.getElem?_set_ne ne]; exact h1, h2⟩
  inj := fun j k d e p h1 h2 h3 h4 => by
    rcases get_set h1 with ⟨rfl, e⟩ | ⟨ne, h1⟩
    · cases e
    · rcases get_set h2 with ⟨rfl, e⟩ | ⟨ne2, h2⟩
      · cases e
      · rw [List.getElem?_set_ne ne] at h3
        rw [List.getElem?_set_ne ne2] at h4
        exact R.inj j k d e p h1 h2 h3 h4
  pS := R.pS
  pH := R.pH
  s0 := R.s0
  st := R.st
  evo := R.evo
theorem Rel.setNo (R : Rel K S0 H0 P S ρ σ H) (i : Nat) (o : Option V) : Rel K S0 H0 P S (ρ.set i .no) (σ.set i o) H where
  len := by simpa using R.len
  ro := fun j d' h => by
    rcases get_set h with ⟨rfl, e⟩ | ⟨ne, h⟩
    · cases e
    · obtain ⟨w, h1, h2⟩ := R.ro j d' h
      exact ⟨w, by rw [List.getElem?_set_ne ne]; exact h1, h2⟩
  own := fun j d' h => by
    rcases get_set h with ⟨rfl, e⟩ | ⟨ne, h⟩
    · cases e
    · obtain ⟨p, h1, h2⟩ := R.own j d' h
      exact ⟨p, by rw [List.getElem?_set_ne ne]; exact h1, h2⟩
  inj := fun j k d e p h1 h2 h3 h4 => by
    rcases get_set h1 with ⟨rfl, e⟩ | ⟨ne, h1⟩
    · cases e
    · rcases get_set h2 with ⟨rfl, e⟩ | ⟨ne2, h2⟩
      · cases e
      · rw [List.getElem?_set_ne ne] at h3
        rw [List.getElem?_set_ne ne2] at h4
        exact R.inj j k d e p h1 h2 h3 h4
  pS := R.pS
  pH := R.pH
  s0 := R.s0
  st := R.st
  evo := R.evo
theorem Rel.wipe (R : Rel K S0 H0 P S ρ σ H) : ∀ vs : List Nat, Rel K S0 H0 P S (wipeE ρ vs) (L2.wipe σ vs) H
  | [] => R
  | v :: vs => (Rel.wipe R vs).setNo v none
/-- .. forgotten, the value as it was -/
theorem Rel.drop (R : Rel K S0 H0 P S ρ σ H) (i : Nat) : Rel K S0 H0 P S (ρ.set i .no) σ H := by
  by_cases h : i < σ.length
  · have := R.setNo i (σ[i])
    rwa [List.set_getElem_self] at this
  · have e : ρ.set i .no = ρ := List.set_eq_of_length_le (by rw [← R.len]; omega)
    rwa [e]

def Grow (P P' : Addr → Prop) (H : Hp) : Prop := ∀ a, H a ≠ none → P' a → P a
theorem Grow.refl : Grow P P H := fun _ _ h => h
theorem Grow.trans {P2 : Addr → Prop} (a : Grow P P' H) (k : ∀ x, H x ≠ none → H1 x ≠ none) (b : Grow P' P2 H1) : Grow P P2 H := fun x h z => a x h (b x (k x h) z)
theorem Kp.then_ (g : Grow P P' H) (a : Kp P H H1) (b : Kp P' H1 H2) : Kp P H H2 :=
  ⟨fun c o h n t => b.keep c o (a.keep c o h n t) (fun z => n (g c (by rw [h]; simp) z)) t, fun c xs h => b.tup c xs (a.tup c xs h), fun c o u h => b.frz c o u (a.frz c o u h), fun c h => b.dom c (a.dom c h), fun c φ h => b.ext c φ (a.ext c φ h)⟩
/-- a new list or dict comes to a slot -/
theorem Rel.setOwn {S1 : Store} (R : Rel K S0 H0 P S ρ σ H) (E : Evo K S H S1 H1) (i : Nat) {d : D} {p : Addr} (hp : H p = none) (hp1 : H1 p ≠ none) (T : Top K (fun a => (P a ∨ a = p) ∨ H0 a ≠ none) H1 p d) :
    Rel K S0 H0 (fun a => P a ∨ a = p) S1 (ρ.set i (.own d)) (σ.set i (some (.ref p))) H1 where
  len := by simpa using R.len
  ro := fun j d' h => by
    rcases get_set h with ⟨rfl, e⟩ | ⟨ne, h⟩
    · cases e
    · obtain ⟨w, h1, h2⟩ := R.ro j d' h
      refine ⟨w, by rw [List.getElem?_set_ne ne]; exact h1, Rep.move (R.kpP E) (fun a ha z => ?_) h2⟩
      rcases z with z | rfl
      · exact z
      · exact absurd hp ha
  own := fun j d' h => by
    rcases get_set h with ⟨rfl, e⟩ | ⟨ne, h⟩
    · cases e
      refine ⟨p, set_at ?_, .inr rfl, ?_, ?_, T⟩
      · rw [R.len]; simpa using lt_of_get h
      · exact Classical.byContradiction fun z => R.dom0 p z hp
      · refine Classical.byContradiction fun z => R.pH p (R.pS p ?_) hp
        exact fun w => z ((E.dom p).mpr w)
    · obtain ⟨q, h1, h2, h3, h4, h5⟩ := R.own j d' h
      refine ⟨q, by rw [List.getElem?_set_ne ne]; exact h1, .inl h2, h3, (E.dom q).mpr h4, ?_⟩
      refine h5.move (E.kp.mono fun a z => .inl (R.pS a z)) (fun a ha z => ?_) fun u w t => E.kp.keep q u w (fun z => z h4) t
      rcases z with (z | rfl) | z
      · exact .inl z
      · exact absurd hp ha
      · exact .inr z
  inj := fun j k d e q g1 g2 h3 h4 => by
    rcases get_set g1 with ⟨rfl, e1⟩ | ⟨ne, h1⟩
    · rcases get_set g2 with ⟨rfl, e2⟩ | ⟨ne2, h2⟩
      · rfl
      · exfalso
        rw [set_at (by have := lt_of_get g1; rw [R.len]; simpa using this)] at h3
        rw [List.getElem?_set_ne ne2] at h4
        cases h3
        obtain ⟨q', g1, g2, _⟩ := R.own k e h2
        rw [g1] at h4; cases h4
        exact R.pH _ g2 hp
    · rcases get_set g2 with ⟨rfl, e2⟩ | ⟨ne2, h2⟩
      · exfalso
        rw [set_at (by have := lt_of_get g2; rw [R.len]; simpa using this)] at h4
        rw [List.getElem?_set_ne ne] at h3
        cases h4
        obtain ⟨q', g1, g2, _⟩ := R.own j d h1
        rw [g1] at h3; cases h3
        exact R.pH _ g2 hp
      · rw [List.getElem?_set_ne ne] at h3
        rw [List.getElem?_set_ne ne2] at h4
        exact R.inj j k d e q h1 h2 h3 h4
  pS := fun a h => .inl (R.pS a fun z => h ((E.dom a).mpr z))
  pH := fun a h => by
    rcases h with h | rfl
    · exact E.kp.dom a (R.pH a h)
    · exact hp1
  s0 := fun a h => R.s0 a fun z => h ((E.dom a).mpr z)
  st := E.st R.st
  evo := R.evo.trans E
theorem grow_new {p : Addr} (hp : H p = none) : Grow P (fun a => P a ∨ a = p) H := fun a h z => by
  rcases z with z | rfl
  · exact z
  · exact absurd hp h
/-- one's own list or dict is written -/
theorem Rel.write (R : Rel K S0 H0 P S ρ σ H) {i : Nat} {d d' : D} {p : Addr} {o : HO} (hi : ρ[i]? = some (.own d)) (hs : σ[i]? = some (some (.ref p))) (T : Top K (fun a => P a ∨ H0 a ≠ none) (upd H p o) p d') :
    Kp P H (upd H p o) ∧ Rel K S0 H0 P S (ρ.set i (.own d')) σ (upd H p o) := by
  obtain ⟨q, h1, h2, h3, h4, h5⟩ := R.own i d hi
  rw [hs] at h1
  cases h1
  obtain ⟨u, hu, ht, hf, hx⟩ := h5.there
  have k : Kp P H (upd H p o) := Kp.write h2 hu ht hf hx
  refine ⟨k, ?_⟩
  have k0 : Kp (dS S0) H0 (upd H p o) := by
    refine ⟨fun b w e n t => ?_, fun b xs e => ?_, fun b w z e => ?_, fun b e => k.dom b (R.evo.kp.dom b e), fun b φ e => k.ext b φ (R.evo.kp.ext b φ e)⟩
    · rw [upd_ne (fun z => by rw [z, h3] at e; cases e)]; exact R.evo.kp.keep b w e n t
    · exact k.tup b xs (R.evo.kp.tup b xs e)
    · exact k.frz b w z (R.evo.kp.frz b w z e)
  have stK : StOk K S (upd H p o) := fun a x e => (R.st a x e).kp (A := P) k fun w q => by
    rw [upd_ne (fun z => by rw [z, h4] at e; cases e)]; exact q
  exact {
    len := by simpa using R.len
    ro := fun j d'' h => by
      rcases get_set h with ⟨rfl, e⟩ | ⟨ne, h⟩
      · cases e
      · obtain ⟨w, g1, g2⟩ := R.ro j d'' h
        exact ⟨w, g1, Rep.kp k g2⟩
    own := fun j d'' h => by
      rcases get_set h with ⟨rfl, e⟩ | ⟨ne, h⟩
      · cases e
        exact ⟨p, hs, h2, h3, h4, T⟩
      · obtain ⟨q, g1, g2, g3, g4, g5⟩ := R.own j d'' h
        refine ⟨q, g1, g2, g3, g4, g5.kp (k.mono fun a z => .inl z) fun w z _ => ?_⟩
        rw [upd_ne]
        · exact z
        · rintro rfl
          exact ne (R.inj i j d d'' _ hi h hs g1)
    inj := fun j l d1 d2 q g1 g2 g3 g4 => by
      have hij : ∀ (m : Nat) (x : D), (ρ.set i (Sl.own d'))[m]? = some (Sl.own x) → ∃ y, ρ[m]? = some (Sl.own y) := fun m x g => by
        rcases get_set g with ⟨rfl, _⟩ | ⟨_, g⟩
        · exact ⟨d, hi⟩
        · exact ⟨x, g⟩
      obtain ⟨y1, e1⟩ := hij j d1 g1
      obtain ⟨y2, e2⟩ := hij l d2 g2
      exact R.inj j l y1 y2 q e1 e2 g3 g4
    pS := R.pS
    pH := fun a h => k.dom a (R.pH a h)
    s0 := R.s0
    st := stK
    evo := ⟨k0, R.evo.dom, fun _ => stK⟩ }
/-- one's own thing is no more to be written: it is read -/
theorem Rel.demote (R : Rel K S0 H0 P S ρ σ H) {i : Nat} {d : D} (hi : ρ[i]? = some (.own d)) : ∃ P1, Grow P P1 H ∧ (∀ a, P1 a → P a) ∧ Rel K S0 H0 P1 S (ρ.set i (.ro d)) σ H := by
  obtain ⟨p, h1, h2, h3, h4, h5⟩ := R.own i d hi
  refine ⟨fun a => P a ∧ a ≠ p, fun a _ h => h.1, fun a h => h.1, ?_⟩
  exact {
    len := by simpa using R.len
    ro := fun j d' h => by
      rcases get_set h with ⟨rfl, e⟩ | ⟨ne, h⟩
      · cases e
        exact ⟨.ref p, h1, Top.rep (fun z => z.2 rfl) (h5.av fun a z => .inl z.1)⟩
      · obtain ⟨w, g1, g2⟩ := R.ro j d' h
        exact ⟨w, g1, Rep.av (fun a z => z.1) g2⟩
    own := fun j d' h => by
      rcases get_set h with ⟨rfl, e⟩ | ⟨ne, h⟩
      · cases e
      · obtain ⟨q, g1, g2, g3, g4, g5⟩ := R.own j d' h
        refine ⟨q, g1, ⟨g2, ?_⟩, g3, g4, g5.av fun a z => z.imp (·.1) id⟩
        rintro rfl
        exact ne (R.inj i j d d' _ hi h h1 g1)
    inj := fun j l d1 d2 q g1 g2 g3 g4 => by
      rcases get_set g1 with ⟨rfl, e⟩ | ⟨_, g1⟩
      · cases e
      · rcases get_set g2 with ⟨rfl, e⟩ | ⟨_, g2⟩
        · cases e
        · exact R.inj j l d1 d2 q g1 g2 g3 g4
    pS := fun a h => ⟨R.pS a h, fun e => h (by rw [e]; exact h4)⟩
    pH := fun a h => R.pH a h.1
    s0 := R.s0
    st := R.st
    evo := R.evo }
/-- one's own thing goes to another slot -/
theorem Rel.hand (R : Rel K S0 H0 P S ρ σ H) {i j : Nat} {d : D} {p : Addr} (hi : ρ[i]? = some (.own d)) (hs : σ[i]? = some (some (.ref p))) (hij : i ≠ j) : Rel K S0 H0 P S ((ρ.set i .no).set j (.own d)) (σ.set j (some (.ref p))) H := by
  obtain ⟨q, h1, h2, h3, h4, h5⟩ := R.own i d hi
  rw [hs] at h1; cases h1
  have R1 := R.drop i
  have noi : ∀ x : D, (ρ.set i .no)[i]? ≠ some (Sl.own x) := fun x h => by
    rcases get_set h with ⟨_, e⟩ | ⟨ne, _⟩
    · cases e
    · exact ne rfl
  have other : ∀ (k : Nat) (x : D), (ρ.set i .no)[k]? = some (Sl.own x) → σ[k]? ≠ some (some (V.ref p)) := fun k x h g => by
    have : k = i := by
      rcases get_set h with ⟨_, e⟩ | ⟨ne, h'⟩
      · cases e
      · exact R.inj k i x d p h' hi g hs
    subst this
    exact noi x h
  exact {
    len := by simpa using R.len
    ro := fun k d' h => by
      rcases get_set h with ⟨rfl, e⟩ | ⟨ne, h⟩
      · cases e
      · obtain ⟨w, g1, g2⟩ := R1.ro k d' h
        exact ⟨w, by rw [List.getElem?_set_ne ne]; exact g1, g2⟩
    own := fun k d' h => by
      rcases get_set h with ⟨rfl, e⟩ | ⟨ne, h⟩
      · cases e
        refine ⟨p, set_at ?_, h2, h3, h4, h5⟩
        have := lt_of_get h
        rw [R.len]; simpa using this
      · obtain ⟨q, g1, g2⟩ := R1.own k d' h
        exact ⟨q, by rw [List.getElem?_set_ne ne]; exact g1, g2⟩
    inj := fun k l d1 d2 q g1 g2 g3 g4 => by
      rcases get_set g1 with ⟨rfl, e⟩ | ⟨ne, g1'⟩
      · rcases get_set g2 with ⟨rfl, e⟩ | ⟨ne2, g2'⟩
        · rfl
        · exfalso
          rw [set_at (by have := lt_of_get g1; rw [R.len]; simpa using this)] at g3
          cases g3
          rw [List.getElem?_set_ne ne2] at g4
          exact other l d2 g2' g4
      · rcases get_set g2 with ⟨rfl, e⟩ | ⟨ne2, g2'⟩
        · exfalso
          rw [set_at (by have := lt_of_get g2; rw [R.len]; simpa using this)] at g4
          cases g4
          rw [List.getElem?_set_ne ne] at g3
          exact other k d1 g1' g3
        · rw [List.getElem?_set_ne ne] at g3
          rw [List.getElem?_set_ne ne2] at g4
          exact R1.inj k l d1 d2 q g1' g2' g3 g4
    pS := R.pS
    pH := R.pH
    s0 := R.s0
    st := R.st
    evo := R.evo }
end

/-! statements -/
inductive OutS where
  | nx (ρ : En) (S : Store)
  | rt (d : D) (S : Store)
  | bk (ρ : En) (S : Store)
  | ct (ρ : En) (S : Store)
  | ex (e : D) (S : Store)
  | no
abbrev FS := En → Store → OutS
def Good (K : PySem.W.Frag) (W : Wx) (S0 : Store) (H0 : Hp) (P : Addr → Prop) (H : Hp) (Dn : Ends) : OutS → Prop
  | .nx ρ S => ∀ P' σ' H', Grow P P' H → Kp P H H' → Rel K S0 H0 P' S ρ σ' H' → Dn.nx σ' H'
  | .rt d S => ∀ H' v, Evo K S0 H0 S H' → Rep K (dH H0) H' d v → Dn.rt v H'
  | .bk ρ S => ∀ P' σ' H', Grow P P' H → Kp P H H' → Rel K S0 H0 P' S ρ σ' H' → Dn.bk σ' H'
  | .ct ρ S => ∀ P' σ' H', Grow P P' H → Kp P H H' → Rel K S0 H0 P' S ρ σ' H' → Dn.ct σ' H'
  | .ex e S => ∀ H', Evo K S0 H0 S H' → W e H'
  | .no => False
def tS (W : Wx) (K : PySem.W.Frag) (f : FS) : TS := fun Dn σ H => ∃ S0 H0 P S ρ, Rel K S0 H0 P S ρ σ H ∧ Good K W S0 H0 P H Dn (f ρ S)
def Out.toS {α : Type} (o : Out α) (f : α → Store → OutS) : OutS := match o with
  | .ok a S => f a S
  | .ex e S => .ex e S
  | .no => .no
@[simp] theorem Out.toS_ok {α : Type} (a : α) (S : Store) (f : α → Store → OutS) : (Out.ok a S).toS f = f a S := rfl
@[simp] theorem Out.toS_ex {α : Type} (e : D) (S : Store) (f : α → Store → OutS) : (Out.ex e S : Out α).toS f = .ex e S := rfl
@[simp] theorem Out.toS_no {α : Type} (f : α → Store → OutS) : (Out.no : Out α).toS f = .no := rfl
section
variable {K : PySem.W.Frag} {W : Wx} {S0 : Store} {H0 : Hp} {P P' : Addr → Prop} {S : Store} {ρ : En} {σ : L2.St} {H H1 H2 : Hp} {Dn : Ends}
theorem Good.mono {o : OutS} (g : Grow P P' H) (k : Kp P H H1) (h : Good K W S0 H0 P H Dn o) : Good K W S0 H0 P' H1 Dn o := by
  cases o with
  | nx ρ S => exact fun P2 σ' H' g2 k2 R => h P2 σ' H' (g.trans k.dom g2) (Kp.then_ g k k2) R
  | rt d S => exact h
  | bk ρ S => exact fun P2 σ' H' g2 k2 R => h P2 σ' H' (g.trans k.dom g2) (Kp.then_ g k k2) R
  | ct ρ S => exact fun P2 σ' H' g2 k2 R => h P2 σ' H' (g.trans k.dom g2) (Kp.then_ g k k2) R
  | ex e S => exact h
  | no => exact h
/-- an expression within a statement -/
theorem tE_S {fa : F D} {k : D → Store → OutS} {R : V → Hp → Prop} {l : Lvl} (Rl : Rel K S0 H0 P S ρ σ H) (h : Good K W S0 H0 P H Dn ((fa ρ S).toS k))
    (hk : ∀ d S1 H1 v, Evo K S H S1 H1 → RepAt K P S H0 H H1 d v l → Good K W S0 H0 P H Dn (k d S1) → R v H1) : tE W l K fa σ H R := by
  refine ⟨S0, H0, P, S, ρ, Rl, ?_⟩
  cases e : fa ρ S with
  | ok d S1 =>
    rw [e] at h
    exact fun H1 v E r => hk d S1 H1 v E r h
  | ex x S1 =>
    rw [e] at h
    exact fun H1 E => h H1 (Rl.evo.trans E)
  | no =>
    rw [e] at h
    exact h
theorem tT_S {f : F Bool} {k : Bool → Store → OutS} {R : Bool → Hp → Prop} (Rl : Rel K S0 H0 P S ρ σ H) (h : Good K W S0 H0 P H Dn ((f ρ S).toS k))
    (hk : ∀ b S1 H1, Evo K S H S1 H1 → Good K W S0 H0 P H Dn (k b S1) → R b H1) : tT W K f σ H R := by
  refine ⟨S0, H0, P, S, ρ, Rl, ?_⟩
  cases e : f ρ S with
  | ok d S1 => rw [e] at h; exact fun H1 E => hk d S1 H1 E h
  | ex x S1 => rw [e] at h; exact fun H1 E => h H1 (Rl.evo.trans E)
  | no => rw [e] at h; exact h
end
section
variable {X : Cx} {W : Wx} {pos : Pos}
def sSkip : FS := fun ρ S => .nx ρ S
def sSeq (f g : FS) : FS := fun ρ S => match f ρ S with
  | .nx ρ S => g ρ S
  | o => o
theorem es_nil : PSs X [] (tS W X.K sSkip) := PSs.imp pss_nil fun Dn σ H ⟨S0, H0, P, S, ρ, R, q⟩ => q P σ H .refl .refl R
theorem es_cons {st : Stmt} {rest : List Stmt} {f g : FS} (h1 : PS X st (tS W X.K f)) (h2 : PSs X rest (tS W X.K g)) : PSs X (st :: rest) (tS W X.K (sSeq f g)) := by
  refine PSs.imp (pss_cons h1 h2) fun Dn σ H ⟨S0, H0, P, S, ρ, R, q⟩ => ⟨S0, H0, P, S, ρ, R, ?_⟩
  unfold sSeq at q
  cases e : f ρ S with
  | nx ρ1 S1 =>
    rw [e] at q
    exact fun P' σ' H' g k R' => ⟨S0, H0, P', S1, ρ1, R', q.mono g k⟩
  | rt d S1 => rw [e] at q; exact q
  | bk ρ1 S1 => rw [e] at q; exact q
  | ct ρ1 S1 => rw [e] at q; exact q
  | ex d S1 => rw [e] at q; exact q
  | no => rw [e] at q; exact q
theorem es_one {st : Stmt} {f : FS} (h1 : PS X st (tS W X.K f)) : PSs X [st] (tS W X.K f) := pss_one h1
theorem es_pass : PS X (.Pass pos) (tS W X.K sSkip) := PS.imp ps_pass fun Dn σ H ⟨S0, H0, P, S, ρ, R, q⟩ => q P σ H .refl .refl R
def sNo : FS := fun _ _ => .no
theorem es_never {st : Stmt} : PS X st (tS W X.K sNo) := PS.imp ps_never fun Dn σ H ⟨S0, H0, P, S, ρ, R, q⟩ => q
theorem ess_never {st : List Stmt} : PSs X st (tS W X.K sNo) := PSs.imp pss_never fun Dn σ H ⟨S0, H0, P, S, ρ, R, q⟩ => q
def sBreak : FS := fun ρ S => .bk ρ S
def sCont : FS := fun ρ S => .ct ρ S
theorem es_break : PS X (.Break pos) (tS W X.K sBreak) := PS.imp ps_break fun Dn σ H ⟨S0, H0, P, S, ρ, R, q⟩ => q P σ H .refl .refl R
theorem es_cont : PS X (.Continue pos) (tS W X.K sCont) := PS.imp ps_continue fun Dn σ H ⟨S0, H0, P, S, ρ, R, q⟩ => q P σ H .refl .refl R
def sRet (f : F D) : FS := fun ρ S => (f ρ S).toS fun d S => .rt d S
theorem es_ret {e : Expr} {f : F D} (h : PE X e (tE W .h0 X.K f)) : PS X (.Return (some e) pos) (tS W X.K (sRet f)) :=
  PS.imp (ps_ret h) fun Dn σ H ⟨S0, H0, P, S, ρ, R, q⟩ => tE_S R q fun d S1 H1 v E r q => q H1 v (R.evo.trans E) r
def sRetN : FS := fun _ S => .rt .non S
theorem es_retN : PS X (.Return none pos) (tS W X.K sRetN) := PS.imp ps_retN fun Dn σ H ⟨S0, H0, P, S, ρ, R, q⟩ => q H .non R.evo (by unfold Rep; rfl)
def sIf (t : F Bool) (a b : FS) : FS := fun ρ S => (t ρ S).toS fun c S => if c then a ρ S else b ρ S
theorem es_if {c : Expr} {a b : List Stmt} {t : F Bool} {fa fb : FS} (hc : PT X c (tT W X.K t)) (ha : PSs X a (tS W X.K fa)) (hb : PSs X b (tS W X.K fb)) : PS X (.If c a b pos) (tS W X.K (sIf t fa fb)) :=
  PS.imp (ps_if hc ha hb) fun Dn σ H ⟨S0, H0, P, S, ρ, R, q⟩ => tT_S R q fun c S1 H1 E q => by
    have R1 := R.step E
    have q := q.mono .refl (R.kpP E)
    cases c with
    | true => exact iteT ⟨S0, H0, P, S1, ρ, R1, q⟩
    | false => exact iteF ⟨S0, H0, P, S1, ρ, R1, q⟩
def sDrop (f : F D) : FS := fun ρ S => (f ρ S).toS fun _ S => .nx ρ S
theorem es_expr {e : Expr} {f : F D} (h : PE X e (tE W .any X.K f)) (hs : swapsWith e none pos.line X.env = pure false := by rfl) : PS X (.Expr e pos) (tS W X.K (sDrop f)) :=
  PS.imp (ps_expr h hs) fun Dn σ H ⟨S0, H0, P, S, ρ, R, q⟩ => tE_S R q fun d S1 H1 v E r q => q P σ H1 .refl (R.kpP E) (R.step E)

/-! targets -/
abbrev Bd := D → En → Option En
def OwnSub (ρ : En) (σ : L2.St) (ρ' : En) (σ' : L2.St) : Prop := ∀ (j : Nat) (d : D), ρ'[j]? = some (.own d) → ρ[j]? = some (.own d) ∧ σ'[j]? = σ[j]?
theorem OwnSub.trans {ρ ρ1 ρ2 : En} {σ σ1 σ2 : L2.St} (a : OwnSub ρ σ ρ1 σ1) (b : OwnSub ρ1 σ1 ρ2 σ2) : OwnSub ρ σ ρ2 σ2 := fun j d h => ⟨(a j d (b j d h).1).1, (b j d h).2.trans (a j d (b j d h).1).2⟩
theorem OwnSub.set {ρ : En} {σ : L2.St} (i : Nat) (d : D) (v : Option V) : OwnSub ρ σ (ρ.set i (.ro d)) (σ.set i v) := fun j e h => by
  rcases get_set h with ⟨_, z⟩ | ⟨ne, h⟩
  · cases z
  · exact ⟨h, List.getElem?_set_ne ne⟩
def TGok (K : PySem.W.Frag) (vs : List Nat) (g : TG) (b : Bd) : Prop := ∀ S0 H0 P S ρ σ H d v ρ' Q, Rel K S0 H0 P S ρ σ H → Rep K P H d v → b d ρ = some ρ' → (∀ σ', L2.wipe σ' vs = L2.wipe σ vs → OwnSub ρ σ ρ' σ' → Rel K S0 H0 P S ρ' σ' H → Q σ' H) → g v σ H Q
def bName (i : Nat) : Bd := fun d ρ => some (ρ.set i (.ro d))
theorem wipe_set {σ : L2.St} {i : Nat} {o : Option V} : ∀ {vs : List Nat}, i ∈ vs → L2.wipe (σ.set i o) vs = L2.wipe σ vs
  | [], h => by cases h
  | v :: vs, h => by
    unfold L2.wipe
    by_cases hv : i ∈ vs
    · rw [wipe_set hv]
    · have : i = v := by
        rcases List.mem_cons.mp h with z | z
        · exact z
        · exact absurd z hv
      subst this
      clear h
      induction vs generalizing σ with
      | nil => simp [L2.wipe]
      | cons w ws ih =>
        simp only [List.mem_cons, not_or] at hv
        unfold L2.wipe
        rw [List.set_comm _ _ (Ne.symm hv.1), List.set_comm _ _ (Ne.symm hv.1), ih hv.2]
theorem tg_name {vs : List Nat} (i : Nat) (hi : i ∈ vs) {K : PySem.W.Frag} : TGok K vs (gName i) (bName i) := fun S0 H0 P S ρ σ H d v ρ' Q R r e q => by
  cases e
  exact q _ (wipe_set hi) (.set i d _) (R.setRo i r)
def bTup2 (b1 b2 : Bd) : Bd := fun d ρ => match d with
  | .tup [x, y] => (b1 x ρ).bind fun ρ => b2 y ρ
  | _ => none
theorem tg_tup2 {K : PySem.W.Frag} {vs : List Nat} {g1 g2 : TG} {b1 b2 : Bd} (h1 : TGok K vs g1 b1) (h2 : TGok K vs g2 b2) : TGok K vs (gTup K 2 (gCons g1 (gCons g2 gNil))) (bTup2 b1 b2) := fun S0 H0 P S ρ σ H d v ρ' Q R r e q => by
  unfold bTup2 at e
  split at e
  · rename_i x y
    obtain ⟨a, us, rfl, hs, hr⟩ := rT.mp r
    obtain ⟨v1, r1, rfl, x1, hr⟩ := hr.uncons
    obtain ⟨v2, r2, rfl, x2, hr⟩ := hr.uncons
    unfold RepL at hr
    subst hr
    cases e1 : b1 x ρ with
    | none => rw [e1] at e; cases e
    | some ρ1 =>
      rw [e1] at e
      refine ⟨a, _, rfl, .of hs, rfl, v1, _, rfl, h1 S0 H0 P S ρ σ H x v1 ρ1 _ R x1 e1 fun σ1 w1 o1 R1 => ?_⟩
      refine ⟨v2, _, rfl, h2 S0 H0 P S ρ1 σ1 H y v2 ρ' _ R1 x2 e fun σ2 w2 o2 R2 => ?_⟩
      exact ⟨rfl, q σ2 (w2.trans w1) (o1.trans o2) R2⟩
  · cases e
def bTup3 (b1 b2 b3 : Bd) : Bd := fun d ρ => match d with
  | .tup [x, y, z] => (b1 x ρ).bind fun ρ => (b2 y ρ).bind fun ρ => b3 z ρ
  | _ => none
theorem tg_tup3 {K : PySem.W.Frag} {vs : List Nat} {g1 g2 g3 : TG} {b1 b2 b3 : Bd} (h1 : TGok K vs g1 b1) (h2 : TGok K vs g2 b2) (h3 : TGok K vs g3 b3) : TGok K vs (gTup K 3 (gCons g1 (gCons g2 (gCons g3 gNil)))) (bTup3 b1 b2 b3) := fun S0 H0 P S ρ σ H d v ρ' Q R r e q => by
  unfold bTup3 at e
  split at e
  · rename_i x y z
    obtain ⟨a, us, rfl, hs, hr⟩ := rT.mp r
    obtain ⟨v1, r1, rfl, x1, hr⟩ := hr.uncons
    obtain ⟨v2, r2, rfl, x2, hr⟩ := hr.uncons
    obtain ⟨v3, r3, rfl, x3, hr⟩ := hr.uncons
    unfold RepL at hr
    subst hr
    cases e1 : b1 x ρ with
    | none => rw [e1] at e; cases e
    | some ρ1 =>
      rw [e1, Option.bind_some] at e
      cases e2 : b2 y ρ1 with
      | none => rw [e2] at e; cases e
      | some ρ2 =>
        rw [e2] at e
        refine ⟨a, _, rfl, .of hs, rfl, v1, _, rfl, h1 S0 H0 P S ρ σ H x v1 ρ1 _ R x1 e1 fun σ1 w1 o1 R1 => ?_⟩
        refine ⟨v2, _, rfl, h2 S0 H0 P S ρ1 σ1 H y v2 ρ2 _ R1 x2 e2 fun σ2 w2 o2 R2 => ?_⟩
        refine ⟨v3, _, rfl, h3 S0 H0 P S ρ2 σ2 H z v3 ρ' _ R2 x3 e fun σ3 w3 o3 R3 => ?_⟩
        exact ⟨rfl, q σ3 (w3.trans (w2.trans w1)) ((o1.trans o2).trans o3) R3⟩
  · cases e
end
end CB
set_option Elab.async false
set_option linter.all false
set_option maxRecDepth 100000
namespace CB
open PySem PySem.Spec PyProof.Rows L2

theorem u65 {k : Nat} {A : Around} (r : Room k A) : A.units + 65 < cLine := by have := r.un; omega
section
variable {X : Cx} {W : Wx} {pos : Pos}
/-! x = e -/
def sSet (i : Nat) (f : F D) : FS := fun ρ S => (f ρ S).toS fun d S => .nx (ρ.set i (.ro d)) S
theorem es_set (i : Nat) {x : Str} {e : Expr} {pos' : Pos} {f : F D} (hN : X.N.Nodup) (he : PE X e (tE W .mu X.K f)) (hi : X.N[i]? = some x := by rfl) (hx : Loc X.env.scope x := by first | exact Or.inl rfl | exact Or.inr rfl)
    (hs : swapsWith e (some (.Name x pos')) pos.line X.env = pure false := by rfl) (hf : X.fn x = true ∨ X.env.scope.names.lookup x = some .local := by first | exact .inl rfl | exact .inr rfl | assumption) :
    PS X (.Assign [.Name x pos'] e pos) (tS W X.K (sSet i f)) :=
  PS.imp (ps_set hN hi hx he hs hf) fun Dn σ H ⟨S0, H0, P, S, ρ, R, q⟩ => tE_S R q fun d S1 H1 v E r q =>
    q P _ H1 .refl (R.kpP E) ((R.step E).setRo i r)
def sSetO (i : Nat) (f : F D) : FS := fun ρ S => (f ρ S).toS fun d S => if isC d && topImm d then .nx (ρ.set i (.own d)) S else .no
theorem setO_ok {S0 H0 P S ρ σ H Dn} {i : Nat} {d : D} {S1 H1} {v : V} (R : Rel X.K S0 H0 P S ρ σ H) (E : Evo X.K S H S1 H1) (r : RepAt X.K P S H0 H H1 d v .top)
    (q : Good X.K W S0 H0 P H Dn (if isC d && topImm d then .nx (ρ.set i (.own d)) S1 else .no)) : Dn.nx (σ.set i (some v)) H1 := by
  split at q
  · rename_i h
    simp only [Bool.and_eq_true] at h
    obtain ⟨p, rfl, h2, h3⟩ := r.2 h.1
    obtain ⟨u, hu, _⟩ := h3.there
    exact q _ _ H1 (grow_new h2) (R.kpP E) (R.setOwn E i h2 (by rw [hu]; simp) (Top.im h.2 h3))
  · exact q.elim
theorem es_setO (i : Nat) {x : Str} {e : Expr} {pos' : Pos} {f : F D} (hN : X.N.Nodup) (he : PE X e (tE W .top X.K f)) (hi : X.N[i]? = some x := by rfl) (hx : Loc X.env.scope x := by first | exact Or.inl rfl | exact Or.inr rfl)
    (hs : swapsWith e (some (.Name x pos')) pos.line X.env = pure false := by rfl) (hf : X.fn x = true ∨ X.env.scope.names.lookup x = some .local := by first | exact .inl rfl | exact .inr rfl | assumption) :
    PS X (.Assign [.Name x pos'] e pos) (tS W X.K (sSetO i f)) :=
  PS.imp (ps_set hN hi hx he hs hf) fun Dn σ H ⟨S0, H0, P, S, ρ, R, q⟩ => tE_S R q fun d S1 H1 v E r q => setO_ok R E r q
/-- x = y, y one's own: it goes to x -/
def sHand (j i : Nat) : FS := fun ρ S => match ρ[i]? with
  | some (.own d) => .nx ((ρ.set i .no).set j (.own d)) S
  | _ => .no
theorem es_hand (j i : Nat) {x y : Str} {p1 p2 : Pos} (hN : X.N.Nodup) (hij : i ≠ j) (hi : X.N[i]? = some y := by rfl) (hj : X.N[j]? = some x := by rfl) (hx : Loc X.env.scope x := by first | exact Or.inl rfl | exact Or.inr rfl) (hv : Vis X.env.scope y := by first | exact Or.inl rfl | exact Or.inr (Or.inl rfl) | exact Or.inr (Or.inr rfl))
    (hd : (y == ("__debug__" : Str)) = false := by decide) (hcd : (y == ("__classdict__" : Str)) = false := by decide)
    (hs : swapsWith (.Name y p2) (some (.Name x p1)) pos.line X.env = pure false := by rfl) (hf : X.fn x = true ∨ X.env.scope.names.lookup x = some .local := by first | exact .inl rfl | exact .inr rfl | assumption) :
    PS X (.Assign [.Name x p1] (.Name y p2) pos) (tS W X.K (sHand j i)) := by
  refine PS.imp (ps_set hN hj hx (pe_var hi hv hd hcd) hs hf) fun Dn σ H ⟨S0, H0, P, S, ρ, R, q⟩ => ?_
  unfold sHand at q
  split at q
  · rename_i d e
    obtain ⟨p, h1, h2⟩ := R.own i d e
    exact ⟨.ref p, h1, q P _ H .refl .refl (R.hand e h1 hij)⟩
  · exact q.elim
/-- a slot is no more written -/
def sDem (i : Nat) (f : FS) : FS := fun ρ S => match ρ[i]? with
  | some (.own d) => f (ρ.set i (.ro d)) S
  | _ => .no
theorem es_dem (i : Nat) {st : Stmt} {f : FS} (h : PS X st (tS W X.K f)) : PS X st (tS W X.K (sDem i f)) := PS.imp h fun Dn σ H ⟨S0, H0, P, S, ρ, R, q⟩ => by
  unfold sDem at q
  split at q
  · rename_i d e
    obtain ⟨P1, g, _, R1⟩ := R.demote e
    exact ⟨S0, H0, P1, S, _, R1, q.mono g .refl⟩
  · exact q.elim
/-! a, b = e -/
def sSetT (b : Bd) (f : F D) : FS := fun ρ S => (f ρ S).toS fun d S => match b d ρ with
  | some ρ => .nx ρ S
  | none => .no
theorem es_setT {tg e : Expr} {g : TG} {b : Bd} {f : F D} (he : PE X e (tE W .mu X.K f)) (hg : PG X tg g) {vs : List Nat} (hb : TGok X.K vs g b) (hs : swapsWithSole [tg] e pos.line X.env = pure false := by rfl) (hw : swappedStores [tg] e X.env = pure none := by rfl)
    (h1 : (assignEach [tg] X.env).map (·.2) = [assign tg X.env] := by rfl) : PS X (.Assign [tg] e pos) (tS W X.K (sSetT b f)) :=
  PS.imp (ps_asg he hg hs hw h1) fun Dn σ H ⟨S0, H0, P, S, ρ, R, q⟩ => tE_S R q fun d S1 H1 v E r q => by
    split at q
    · rename_i ρ' e
      exact hb _ _ _ _ _ _ _ _ _ _ _ (R.step E) r e fun σ' _ _ R' => q P σ' H1 .refl (R.kpP E) R'
    · exact q.elim
/-! x op= e -/
def sAug (i : Nat) (g : D → D → Option D) (f : F D) : FS := fun ρ S => match ρ[i]? with
  | some (.ro d) => (f ρ S).toS fun y S => match g d y with
    | some z => if z.imm then .nx (ρ.set i (.ro z)) S else .no
    | none => .no
  | _ => .no
theorem es_aug (i : Nat) {x : Str} {e : Expr} {op : Operator} {r : R2} {g : D → D → Option D} {f : F D} {pos' : Pos} (hN : X.N.Nodup) (ho : OpR X (inplaceOp op) r) (hg : G2 X.K true r g) (he : PE X e (tE W .mu X.K f)) (hi : X.N[i]? = some x := by rfl) (hx : Loc X.env.scope x := by first | exact Or.inl rfl | exact Or.inr rfl)
    (hf : X.fn x = true ∨ X.env.scope.names.lookup x = some .local := by first | exact .inl rfl | exact .inr rfl | assumption) (hv : Vis X.env.scope x := by first | exact Or.inl rfl | exact Or.inr (Or.inl rfl) | exact Or.inr (Or.inr rfl)) :
    PS X (.AugAssign (.Name x pos') op e pos) (tS W X.K (sAug i g f)) := by
  refine PS.imp (ps_aug hN hi hx he (fun pins s σ H x y v u Q I rx ry h => augR ho I rx ry h) hf) fun Dn σ H ⟨S0, H0, P, S, ρ, R, q⟩ => ?_
  unfold sAug at q
  split at q
  · rename_i d e
    obtain ⟨v, h1, h2⟩ := R.ro i d e
    refine ⟨v, h1, tE_S R q fun y S1 H1 w E rw' q => ?_⟩
    split at q
    · rename_i z ez
      split at q
      · rename_i iz
        refine hg P v w d y z H1 _ (fun a ha => E.kp.dom a (R.pH a ha)) (Rep.kp (R.kpP E) h2) rw' ez fun H2 v2 s2 r2 _ => ?_
        have E2 := E.trans (Evo.of_same (K := X.K) (S := S1) s2)
        exact q P _ H2 .refl (R.kpP E2) ((R.step E2).setRo i r2)
      · exact q.elim
    · exact q.elim
  · exact q.elim
/-! own lists written -/
def MutOk (K : PySem.W.Frag) (r : V → List V → Hp → VK → Prop) (g : D → List D → Option D) : Prop :=
  ∀ (A B : Addr → Prop) (p : Addr) (H : Hp) (d : D) (vs : List V) (ds : List D) (d' : D) (Q : VK), A p → Top K A H p d → RepL K B H ds vs → g d ds = some d' →
    (∀ v o, Top K A (upd H p o) p d' → Q v (upd H p o)) → r (.ref p) vs H Q
def sMut (i : Nat) (g : D → List D → Option D) (f : F (List D)) : FS := fun ρ S => match ρ[i]? with
  | some (.own (.lst xs)) => (f ρ S).toS fun ds S => match g (.lst xs) ds with
    | some d => .nx (ρ.set i (.own d)) S
    | none => .no
  | _ => .no
theorem es_mut (i : Nat) {x : Str} {id : String} {name : Str} {e : Expr} {es : List Expr} {p1 apos cpos : Pos} {r : V → List V → Hp → VK → Prop} {g : D → List D → Option D} {f : F (List D)}
    (pa : PlainAttrs "list") (slot : Slot "list" name id) (hty : typeOf (.builtin id) = pure (.type "method_descriptor")) (hm : MtR X id r) (hg : MutOk X.K r g) (ha : PA X (e :: es) (tA W .any X.K f)) (hN : X.N[i]? = some x := by rfl) (hv : Vis X.env.scope x := by first | exact Or.inl rfl | exact Or.inr (Or.inl rfl) | exact Or.inr (Or.inr rfl))
    (hd : (x == ("__debug__" : Str)) = false := by decide) (hcd : (x == ("__classdict__" : Str)) = false := by decide)
    (hbase : attributeBase (.Name x p1) name X.env (eval (.Name x p1) X.env) = eval (.Name x p1) X.env := by rfl)
    (hfew : ((backTo cpos (starEach (e :: es) X.env)).all (fun x => !x.1) && (backToKw cpos (keywordEach [] X.env)).all (fun x => x.1.isSome)
      && decide ((e :: es).length + ([] : List Keyword).length + (if ([] : List Keyword).isEmpty then 0 else 1) < 30)) = true := by rfl)
    (hline : (apos.endLine == cpos.line) = true := by rfl) (hs : starEach (e :: es) X.env = (false, eval e X.env) :: starEach es X.env := by rfl) (hplain : (backTo cpos (starEach es X.env)).any (·.1) = false := by rfl)
    (hsw : swapsWith (.Call (.Attribute (.Name x p1) name apos) (e :: es) [] cpos) none pos.line X.env = pure false := by rfl) :
    PS X (.Expr (.Call (.Attribute (.Name x p1) name apos) (e :: es) [] cpos) pos) (tS W X.K (sMut i g f)) := by
  refine PS.imp (ps_expr (pe_bm pa slot hty hm (pe_var hN hv hd hcd) ha hbase hfew hline hs hplain) hsw) fun Dn σ H ⟨S0, H0, P, S, ρ, R, q⟩ => ?_
  unfold sMut at q
  split at q
  · rename_i xs e
    obtain ⟨p, h1, h2, h3, h4, h5⟩ := R.own i _ e
    have h5' := h5
    obtain ⟨vs, h6, h7⟩ := h5
    refine ⟨.ref p, h1, .inl ⟨rfl, _, .of h6⟩, S0, H0, P, S, ρ, R, ?_⟩
    cases ef : f ρ S with
    | ok ds S1 =>
      rw [ef, Out.toS_ok] at q
      intro H1 us E r1
      cases eg : g (.lst xs) ds with
      | none => rw [eg] at q; exact q.elim
      | some d' =>
        rw [eg] at q
        have R1 := R.step E
        obtain ⟨p', g1, g2, g3, g4, g5⟩ := R1.own i _ e
        rw [h1] at g1; cases g1
        refine hg _ _ p H1 _ us ds d' _ (.inl h2) g5 r1 eg fun v o T => ?_
        obtain ⟨k, R2⟩ := R1.write e h1 T
        exact q P σ _ .refl ((R.kpP E).trans k) R2
    | ex x S1 => rw [ef] at q; exact fun H1 E => q H1 (R.evo.trans E)
    | no => rw [ef] at q; exact q
  · exact q.elim
def gAppend : D → List D → Option D
  | .lst xs, [d] => if d.imm && okLen (xs.length + 1) then some (.lst (xs ++ [d])) else none
  | _, _ => none
theorem kp_upd {A : Addr → Prop} {H : Hp} {p : Addr} {vs : List V} {o : HO} (hA : A p) (h : H p = some (.lst vs)) : Kp A H (upd H p o) := Kp.write hA h (fun _ z => by cases z) fun _ _ z => by cases z
theorem mut_append {K : PySem.W.Frag} : MutOk K rAppend gAppend := by
  intro A B p H d vs ds d' Q hA T r e q
  obtain ⟨xs, rfl⟩ : ∃ xs, d = .lst xs := by cases d <;> first | exact ⟨_, rfl⟩ | (simp [gAppend] at e)
  obtain ⟨us, h1, h2⟩ := T
  rcases ds with _ | ⟨x, _ | ⟨y, ys⟩⟩
  · simp [gAppend] at e
  · simp only [gAppend] at e
    split at e
    · rename_i h
      cases e
      simp only [Bool.and_eq_true] at h
      obtain ⟨v, r', rfl, h3, h4⟩ := r.uncons
      unfold RepL at h4
      subst h4
      refine ⟨p, us, v, rfl, rfl, h1, ?_, q _ _ ?_⟩
      · have := okLen_line h.2
        rw [h2.len]; omega
      · exact ⟨_, upd_same, RepL.kp (kp_upd hA h1) (h2.append (.one (Rep.im h.1 h3)))⟩
    · cases e
  · simp [gAppend] at e
def gExtend : D → List D → Option D
  | .lst xs, [.lst ys] => if immL ys && okLen (xs.length + ys.length) then some (.lst (xs ++ ys)) else none
  | _, _ => none
theorem mut_extend {K : PySem.W.Frag} : MutOk K rExtend gExtend := by
  intro A B p H d vs ds d' Q hA T r e q
  obtain ⟨xs, rfl⟩ : ∃ xs, d = .lst xs := by cases d <;> first | exact ⟨_, rfl⟩ | (simp [gExtend] at e)
  obtain ⟨us, h1, h2⟩ := T
  rcases ds with _ | ⟨x, _ | ⟨y, ys⟩⟩
  · simp [gExtend] at e
  · obtain ⟨ys, rfl⟩ : ∃ ys, x = .lst ys := by cases x <;> first | exact ⟨_, rfl⟩ | (simp [gExtend] at e)
    · simp only [gExtend] at e
      split at e
      · rename_i h
        cases e
        simp only [Bool.and_eq_true] at h
        obtain ⟨v, r', rfl, h3, h4⟩ := r.uncons
        unfold RepL at h4
        subst h4
        obtain ⟨b, zs, rfl, _, h5, h6⟩ := rL.mp h3
        refine ⟨p, b, us, zs, rfl, rfl, h1, h5, by rw [h2.len, h6.len]; exact okLen_line h.2, q _ _ ?_⟩
        exact ⟨_, upd_same, RepL.kp (kp_upd hA h1) (h2.append (RepL.im h.1 h6))⟩
      · cases e
  · simp [gExtend] at e
/-- x[k] = e of one's own list -/
def sPut (i : Nat) (fk fe : F D) : FS := fun ρ S => (fe ρ S).toS fun d S => match ρ[i]? with
  | some (.own (.lst xs)) => (fk ρ S).toS fun k S => match k with
    | .int k => match ixN xs.length k with
      | some j => if d.imm then .nx (ρ.set i (.own (.lst (xs.set j d)))) S else .no
      | none => .no
    | _ => .no
  | _ => .no
theorem es_put (i : Nat) {x : Str} {k e : Expr} {p1 p2 : Pos} {fk fe : F D} (hk : PE X k (tE W .any X.K fk)) (he : PE X e (tE W .any X.K fe)) (hN : X.N[i]? = some x := by rfl) (hv : Vis X.env.scope x := by first | exact Or.inl rfl | exact Or.inr (Or.inl rfl) | exact Or.inr (Or.inr rfl))
    (hd : (x == ("__debug__" : Str)) = false := by decide) (hcd : (x == ("__classdict__" : Str)) = false := by decide)
    (ha : ∀ v, assign (.Subscript (.Name x p1) k p2) X.env v = (do
      let ov ← holding [v] (eval (.Name x p1) X.env)
      let iv ← holding [v, ov] (eval k X.env)
      standAt p2
      holding [v, ov, iv] (setItem ov iv v)
      release [v, ov, iv] []) := by intro _; rfl)
    (hs : swapsWithSole [.Subscript (.Name x p1) k p2] e pos.line X.env = pure false := by rfl) (hw : swappedStores [.Subscript (.Name x p1) k p2] e X.env = pure none := by rfl)
    (h1 : (assignEach [.Subscript (.Name x p1) k p2] X.env).map (·.2) = [assign (.Subscript (.Name x p1) k p2) X.env] := by rfl) :
    PS X (.Assign [.Subscript (.Name x p1) k p2] e pos) (tS W X.K (sPut i fk fe)) := by
  refine PS.imp (ps_asg he (pg_sub (pe_var hN hv hd hcd) hk set_list ha) hs hw h1) fun Dn σ H ⟨S0, H0, P, S, ρ, R, q⟩ => tE_S R q fun d S1 H1 v E r q => ?_
  have R1 := R.step E
  have q := q.mono .refl (R.kpP E)
  split at q
  · rename_i xs e
    obtain ⟨p, h1, h2, h3, h4, us, h6, h7⟩ := R1.own i _ e
    refine ⟨.ref p, h1, tE_S R1 q fun kd S2 H2 vk E2 r2 q => ?_⟩
    have R2 := R1.step E2
    have q := q.mono .refl (R1.kpP E2)
    cases kd with
    | int kk =>
      simp only at q
      split at q
      · rename_i j ej
        split at q
        · rename_i di
          obtain ⟨p', g1, g2, g3, g4, us', g6, g7⟩ := R2.own i _ e
          rw [h1] at g1; cases g1
          refine ⟨p, us', kk, j, rfl, CB.rI.mp (RepAt.rep r2), g6, by rw [g7.len]; exact ej, ?_⟩
          have T : Top X.K (fun a => P a ∨ H0 a ≠ none) (upd H2 p (.lst (us'.set j v))) p (.lst (xs.set j d)) :=
            ⟨_, upd_same, RepL.kp (kp_upd (.inl g2) g6) (g7.set j (Rep.im di (Rep.kp E2.kp (Rep.im di (RepAt.rep r)))))⟩
          obtain ⟨kk', R3⟩ := R2.write e h1 T
          exact q P σ _ .refl kk' R3
        · exact q.elim
      · exact q.elim
    | _ => exact q.elim
  · exact q.elim
end
end CB
set_option Elab.async false
set_option linter.all false
set_option maxRecDepth 100000
namespace CB
open PySem PySem.Spec PyProof.Rows L2
/-! zip of a tuple and a list, either way round -/
def SqA (K : PySem.W.Frag) (H : Hp) : Bool → Addr → List V → Prop
  | true => SqL K H
  | false => SqT K H
def ItA (h : Heap) : Bool → Addr → Addr → Nat → Prop
  | true => h.IsListIter
  | false => h.IsTupleIter
def IsA (h : Heap) : Bool → Addr → Array Value → Prop
  | true => h.IsList
  | false => h.IsTuple
def objA : Bool → Addr → Obj
  | true, l => { cls := .type "list_iterator", data := .fields #[.ref l, .int 0 0] }
  | false, l => { cls := .type "tuple_iterator", data := .fields #[.ref l, .int 0 0] }
theorem drawsA {prog : Program} {w : World} {A : Around} (hh : A.handled = none) (k : Bool) (it l : Addr) (hne : l ≠ it) (items : Array Value) :
    Draws prog w A it [it, l] items.size (fun i v => items[i]? = some v) (fun i h => ItA h k it l i ∧ IsA h k l items) := by
  cases k
  · exact Draws.tuple hh it l hne items
  · exact Draws.list hh it l hne items
theorem beginsA (k : Bool) (l : Addr) (items : Array Value) : Begins (.ref l) (objA k l) fun h => IsA h k l items := by
  cases k
  · exact begins_tuple l items
  · exact begins_list l items
theorem ItA.at {h h' : Heap} {k : Bool} {i l : Addr} {n : Nat} (x : ItA h k i l n) (e : ∀ o, h.get? i = some o → h'.get? i = some o) : ItA h' k i l n := by
  cases k
  · exact Heap.IsTupleIter.at (h := h) x e
  · exact Heap.IsListIter.at (h := h) x e
theorem ItA.obj {h : Heap} {k : Bool} {i l : Addr} {n : Nat} (x : ItA h k i l n) : ∃ o, h.get? i = some o ∧ ∀ v, o.data ≠ .cell v := by
  cases k
  · obtain ⟨o, e, _, d⟩ := x
    exact ⟨o, e, fun v q => by rw [d] at q; cases q⟩
  · obtain ⟨o, e, _, d⟩ := x
    exact ⟨o, e, fun v q => by rw [d] at q; cases q⟩
theorem ItA.init {h : Heap} {k : Bool} {i l : Addr} (e : h.get? i = some (objA k l)) : ItA h k i l 0 := by
  cases k
  · exact ⟨_, e, rfl, rfl⟩
  · exact ⟨_, e, rfl, rfl⟩
theorem IsA.lt {h : Heap} {k : Bool} {l : Addr} {xs : Array Value} (x : IsA h k l xs) : l < h.objs.size := by
  cases k
  · obtain ⟨_, e, _⟩ := x; exact Heap.lt_size e
  · obtain ⟨_, e, _⟩ := x; exact Heap.lt_size e
theorem IsA.at {h h' : Heap} {k : Bool} {l : Addr} {xs : Array Value} (x : IsA h k l xs) (e : ∀ o, h.get? l = some o → h'.get? l = some o) : IsA h' k l xs := by
  cases k
  · exact Heap.IsTuple.at (h := h) x e
  · exact Heap.IsList.at (h := h) x e
theorem sqA_is {X : Cx} {pins σ H s} {k : Bool} {a : Addr} {xs : List V} (I : Inv X pins σ H s) (q : SqA X.K H k a xs) : ∃ its, Vals xs its ∧ IsA s.heap k a its.toArray := by
  cases k
  · obtain ⟨its, rv, p, _⟩ := I.tuple q
    exact ⟨its, rv, p⟩
  · obtain ⟨its, rv, p, _⟩ := I.list q
    exact ⟨its, rv, p.isList⟩
theorem sqA_inj {X : Cx} {pins σ H s} {k : Bool} {a : Addr} {xs ys : List V} (I : Inv X pins σ H s) (q : SqA X.K H k a xs) (q' : SqA X.K H k a ys) : xs = ys := by
  cases k
  · exact I.tuple_inj q q'
  · exact I.list_inj q q'

def ItzA (K : PySem.W.Frag) (k1 k2 : Bool) (a b : Addr) : It :=
  ⟨fun i H => ∃ (xs ys : List V) (x y : V), SqA K H k1 a xs ∧ SqA K H k2 b ys ∧ xs[i]? = some x ∧ ys[i]? = some y,
    fun i H v H' => ∃ T x y, v = .ref T ∧ H T = none ∧ H' = upd H T (.tup [x, y]) ∧ (∀ xs, SqA K H k1 a xs → xs[i]? = some x) ∧ ∀ ys, SqA K H k2 b ys → ys[i]? = some y,
    fun i H => ∃ xs ys : List V, SqA K H k1 a xs ∧ SqA K H k2 b ys ∧ (xs.length = i ∧ i ≤ ys.length ∨ ys.length = i ∧ i ≤ xs.length)⟩
theorem sepA {z TI TO i1 i2 a b : Addr} (D : ZipApart z TI TO i1 i2 a b) : ZipSep2 z TI TO i1 i2 [i1, a] [i2, b] where
  TIz := D.TIz
  TOz := D.TOz
  TITO := D.TITO
  TIi1 := D.TIi1
  mem1 := by simp
  zf1 := by simp [D.i1z.symm, D.l1z.symm]
  Tf1 := by simp [D.TOi1, D.l1TO.symm]
  TIi2 := D.TIi2
  mem2 := by simp
  zf2 := by simp [D.i2z.symm, D.l2z.symm]
  Tf2 := by simp [D.TOi2, D.l2TO.symm]
  sep1_2 := by simp [D.i12, D.l2i1.symm]
  sep2_1 := by simp [D.i12.symm, D.l1i2.symm]
theorem turn_zipA {P : Program} {w : World} {K : PySem.W.Frag} {elts : List Expr} {kk : Nat} {tpos : Pos} {k1 k2 : Bool} {a b z TI TO i1 i2 : Addr} (D : ZipApart z TI TO i1 i2 a b) :
    Turn P w K (.Tuple elts kk tpos) (ItzA K k1 k2 a b) [z, TI, TO, i1, i2] z (fun i h => IsZip h z TI TO .none ∧ IsPair h TI (.ref i1) (.ref i2) ∧ (∃ x y, IsPair h TO x y) ∧ ItA h k1 i1 a i ∧ ItA h k2 i2 b i) where
  mem := by simp
  obj := fun i h st c hc => by
    obtain ⟨hz, hTI, ⟨x, y, hTO⟩, h1, h2⟩ := st
    have e' : c = z ∨ c = TI ∨ c = TO ∨ c = i1 ∨ c = i2 := by simpa using hc
    rcases e' with q | q | q | q | q
    · rw [q]; exact ⟨_, hz, fun v q => nomatch q⟩
    · rw [q]; exact ⟨_, hTI, fun v q => nomatch q⟩
    · rw [q]; exact ⟨_, hTO, fun v q => nomatch q⟩
    · rw [q]; exact h1.obj
    · rw [q]; exact h2.obj
  keep := fun i h h' st k => by
    obtain ⟨hz, hTI, ⟨x, y, hTO⟩, h1, h2⟩ := st
    exact ⟨k z (by simp) _ hz, k TI (by simp) _ hTI, ⟨x, y, k TO (by simp) _ hTO⟩, h1.at fun o q => k i1 (by simp) o q, h2.at fun o q => k i2 (by simp) o q⟩
  item := by
    intro X hP hw hK hc i pins s σ H E I hf st hg
    subst hP hw hK
    obtain ⟨hz, hTI, ⟨x0, y0, hTO⟩, h1, h2⟩ := st
    obtain ⟨xs, ys, x, y, hqx, hqy, hx, hy⟩ := hg
    obtain ⟨its, rv, p⟩ := sqA_is I hqx
    obtain ⟨its2, rv2, p2⟩ := sqA_is I hqy
    obtain ⟨u, hu, ru⟩ := rv.get hx
    obtain ⟨u2, hu2, ru2⟩ := rv2.get hy
    have hzl : z < s.heap.objs.size := Heap.lt_size hz
    have hlt1 : i < its.toArray.size := by
      have := (List.getElem?_eq_some_iff.mp hu).1
      simpa using this
    have hlt2 : i < its2.toArray.size := by
      have := (List.getElem?_eq_some_iff.mp hu2).1
      simpa using this
    refine wpAny_pyNext_zipD2_item (sepA D) (drawsA (A := X.A.in1) (I.ok.hd hc) k1 i1 a D.l1i1 its.toArray) (drawsA (A := X.A.in1) (I.ok.hd hc) k2 i2 b D.l2i2 its2.toArray) hz hTI hTO ⟨h1, p⟩ ⟨h2, p2⟩ hlt1 hlt2 fun u' u2' h' tk eu eu2 z' TO' n1 n2 hT hsz hk => ?_
    have q1 : u' = u := by
      have : its.toArray[i]? = some u := by simpa using hu
      rw [this] at eu; cases eu; rfl
    have q2 : u2' = u2 := by
      have : its2.toArray[i]? = some u2 := by simpa using hu2
      rw [this] at eu2; cases eu2; rfl
    subst q1 q2
    refine ⟨_, rfl, wpAny_letOwnedTupleGo_zip (s := { s with heap := h', toks := tk }) z' fun h'' z'' sb => ?_⟩
    have hT2 : h''.get? s.heap.objs.size = some { cls := .type "tuple", data := .seq #[u', u2'] } := (sb.2 _ (Nat.ne_of_gt hzl)).trans hT
    have new : ObjOk X.prog X.w (upd H s.heap.objs.size (.tup [x, y])) h'' s.heap.objs.size (.tup [x, y]) :=
      ⟨by show 2 ≤ sizeLine; decide, [u', u2'], .cons ru (.cons ru2 .nil), ⟨_, hT2, rfl, _, rfl⟩⟩
    have I1 : Inv X pins σ (upd H s.heap.objs.size (.tup [x, y])) { s with heap := h'', toks := tk } :=
      I.turnedNew (t' := tk) (ch := [z, TI, TO, i1, i2]) (fun c o hb q => (sb.2 c (fun q' => hb (by simp [q']))).trans (hk c o (fun q' => hb (by simp [q'])) (fun q' => hb (by simp [q'])) (fun q' => hb (by simp [q'])) (fun q' => hb (by simp [q'])) q)) hf (Nat.le_refl _) new
    refine ⟨.ref s.heap.objs.size, _, I1, rfl, ⟨_, x, y, rfl, I.hok.fresh (Nat.le_refl _), rfl, fun l hl => by rw [sqA_inj I hl hqx]; exact hx, fun l hl => by rw [sqA_inj I hl hqy]; exact hy⟩, ⟨z'', ?_, ⟨u', u2', ?_⟩, ?_, ?_⟩, fun c hcm => ?_⟩
    · exact (sb.2 _ D.TIz).trans (hk _ _ D.TIz D.TITO D.TIi1 D.TIi2 hTI)
    · exact (sb.2 _ D.TOz).trans TO'
    · exact n1.1.at fun o q => (sb.2 _ D.i1z).trans q
    · exact n2.1.at fun o q => (sb.2 _ D.i2z).trans q
    · have hlt : c < s.heap.objs.size := by
        have e' : c = z ∨ c = TI ∨ c = TO ∨ c = i1 ∨ c = i2 := by simpa using hcm
        rcases e' with q | q | q | q | q
        · rw [q]; exact hzl
        · rw [q]; exact Heap.lt_size hTI
        · rw [q]; exact Heap.lt_size hTO
        · rw [q]; obtain ⟨_, e1, _⟩ := h1.obj; exact Heap.lt_size e1
        · rw [q]; obtain ⟨_, e2, _⟩ := h2.obj; exact Heap.lt_size e2
      rw [upd_ne (Nat.ne_of_lt hlt)]
      exact (hf c hcm).1
  done := by
    intro X hP hw hK hc i pins s σ H E I hf st hg
    subst hP hw hK
    obtain ⟨hz, hTI, ⟨x0, y0, hTO⟩, h1, h2⟩ := st
    obtain ⟨xs, ys, hqx, hqy, hend⟩ := hg
    obtain ⟨its, rv, p⟩ := sqA_is I hqx
    obtain ⟨its2, rv2, p2⟩ := sqA_is I hqy
    have l1 := rv.length
    have l2 := rv2.length
    have s1 : its.toArray.size = its.length := by simp
    have s2 : its2.toArray.size = its2.length := by simp
    exact wpAny_pyNext_zipD2_end (sepA D) (drawsA (A := X.A.in1) (I.ok.hd hc) k1 i1 a D.l1i1 its.toArray) (drawsA (A := X.A.in1) (I.ok.hd hc) k2 i2 b D.l2i2 its2.toArray) hz hTI hTO ⟨h1, p⟩ ⟨h2, p2⟩ (by omega) (by omega) (by omega) fun h' tk hk => ⟨rfl, I.turnedL (t' := tk) (ch := [z, TI, TO, i1, i2]) (fun c o hb q =>
      hk c o (fun q' => hb (by simp [q'])) (fun q' => hb (by simp [q'])) (fun q' => hb (by simp [q'])) (fun q' => hb (by simp [q'])) q) hf⟩
  self := fun A i s Q E st h => wpAny_pyIter_zip st.1 h

def iZipM (K : PySem.W.Frag) (ta : TA) : TI := fun σ H R => ta σ H fun vs H1 => ∃ k1 k2 a b xs ys, vs = [.ref a, .ref b] ∧ SqA K H1 k1 a xs ∧ SqA K H1 k2 b ys ∧ R (ItzA K k1 k2 a b) H1
theorem pi_zipM {X : Cx} {e e2 : Expr} {ta : TA} {p pos tpos : Pos} {elts : List Expr} {kk : Nat} (hg : Gl X "zip") (hm : X.mg "zip" = none) (ha : PA X [e, e2] ta)
    (hs : starEach [e, e2] X.env = (false, eval e X.env) :: starEach [e2] X.env := by rfl) (hpl : (backTo pos (starEach [e2] X.env)).any (·.1) = false := by rfl) :
    PI X (.Tuple elts kk tpos) (.Call (.Name "zip" p) [e, e2] [] pos) (iZipM X.K ta) := by
  refine ⟨fun pins s σ H R I h => ?_⟩
  refine Call_ (ld_blt I hg hm PyProof.Rows.boot_zip (PyProof.Rows.callWith_type1 (thn (ha.run pos pins s σ H _ I h) fun us s1 ⟨vs, H1, I1, r1, q1⟩ => ?_) hs hpl))
  obtain ⟨k1, k2, a, b, xs, ys, ex, hqx, hqy, q⟩ := q1
  subst ex
  cases r1 with
  | cons r rr =>
    cases rr with
    | cons r' rr =>
      cases rr
      cases r
      cases r'
      have fresh5 : ∀ c, c ∈ [s1.heap.objs.size + 4, s1.heap.objs.size + 2, s1.heap.objs.size + 3, s1.heap.objs.size, s1.heap.objs.size + 1] → FpOk X pins H1 c := fun c hcm => by
        have e' : c = s1.heap.objs.size + 4 ∨ c = s1.heap.objs.size + 2 ∨ c = s1.heap.objs.size + 3 ∨ c = s1.heap.objs.size ∨ c = s1.heap.objs.size + 1 := by simpa using hcm
        have hle : s1.heap.objs.size ≤ c := by
          rcases e' with z | z | z | z | z
          · rw [z]; exact Nat.le_add_right _ _
          · rw [z]; exact Nat.le_add_right _ _
          · rw [z]; exact Nat.le_add_right _ _
          · rw [z]; exact Nat.le_refl _
          · rw [z]; exact Nat.le_add_right _ _
        exact I1.fpOk hle (I1.hok.fresh hle)
      obtain ⟨its, rv, p1⟩ := sqA_is I1 hqx
      obtain ⟨its2, rv2, p2⟩ := sqA_is I1 hqy
      refine zip_begins2 (beginsA k1 a its.toArray) (beginsA k2 b its2.toArray) p1 p2 fun h' hz hTI hTO h1 h2 hsz hk => wpAny_pyIter_zip hz ?_
      have I2 : Inv X pins σ H1 { s1 with heap := h' } := I1.kept (t' := s1.toks) hk
      exact ⟨s1.heap.objs.size + 4, [s1.heap.objs.size + 4, s1.heap.objs.size + 2, s1.heap.objs.size + 3, s1.heap.objs.size, s1.heap.objs.size + 1], _, _, H1, rfl, I2, turn_zipA (PySem.W.ktu_apart s1.heap.objs.size a b p1.lt p2.lt), ⟨hz, hTI, ⟨_, _, hTO⟩, .init h1, .init h2⟩, fresh5, q⟩
theorem walk_zipA {K : PySem.W.Frag} {k1 k2 : Bool} {a b : Addr} {xs ys : List V} {n : Nat} (hn : n = min xs.length ys.length) : Walk (ItzA K k1 k2 a b) n (fun H => SqA K H k1 a xs ∧ SqA K H k2 b ys) (YPair (fun i => xs[i]?) (fun i => ys[i]?)) := by
  subst hn
  refine ⟨fun i _ hi q => ?_, fun _ q => ⟨xs, ys, q.1, q.2, by omega⟩, fun i H v H' _ q y => ?_⟩
  · have h1 : i < xs.length := by omega
    have h2 : i < ys.length := by omega
    exact ⟨xs, ys, xs[i], ys[i], q.1, q.2, by simp [h1], by simp [h2]⟩
  · obtain ⟨T, x, z, h1, h2, h3, h4, h5⟩ := y
    exact ⟨T, x, z, h1, h2, h3, h4 xs q.1, h5 ys q.2⟩
end CB
set_option Elab.async false
set_option linter.all false
set_option maxRecDepth 100000
namespace CB
open PySem PySem.Spec PyProof.Rows L2

/-! what is walked -/
def ItemsOk (K : PySem.W.Frag) (P : Addr → Prop) (J : It) (H1 : Hp) (ds : List D) : Prop :=
  ∃ Y : Nat → Hp → V → Hp → Prop, Walk J ds.length (Kp P H1) Y ∧ ∀ i Ha x Hb, i < ds.length → Kp P H1 Ha → Y i Ha x Hb → Same Ha Hb ∧ ∀ P', Grow P P' H1 → ∃ d, ds[i]? = some d ∧ Rep K P' Hb d x
/-- .. for a comprehension: what is one's own stands, too -/
def ItemsC (K : PySem.W.Frag) (A P : Addr → Prop) (J : It) (H1 : Hp) (ds : List D) : Prop :=
  ∃ Y : Nat → Hp → V → Hp → Prop, Walk J ds.length (Kp A H1) Y ∧ ∀ i Ha x Hb, i < ds.length → Kp A H1 Ha → Y i Ha x Hb → Same Ha Hb ∧ ∀ P', Grow P P' H1 → ∃ d, ds[i]? = some d ∧ Rep K P' Hb d x
theorem ItemsOk.c {K : PySem.W.Frag} {A P : Addr → Prop} {J : It} {H1 : Hp} {ds : List D} (h : ∀ a, A a → P a) (i : ItemsOk K P J H1 ds) : ItemsC K A P J H1 ds := by
  obtain ⟨Y, w, hY⟩ := i
  exact ⟨Y, w.mono (fun H k => k.mono h) fun _ _ _ _ _ _ y => y, fun i Ha x Hb hi k y => hY i Ha x Hb hi (k.mono h) y⟩
def OutIc (K : PySem.W.Frag) (W : Wx) (P : Addr → Prop) (S : Store) (H : Hp) (R : It → Hp → Prop) : Out (List D) → Prop
  | .ok ds S' => ∀ H' J, Evo K S H S' H' → ItemsC K (dS S') P J H' ds → R J H'
  | .ex e S' => ∀ H', Evo K S H S' H' → W e H'
  | .no => False
def tIc (W : Wx) (K : PySem.W.Frag) (f : F (List D)) : TI := fun σ H R => ∃ S0 H0 P S ρ, Rel K S0 H0 P S ρ σ H ∧ OutIc K W P S H R (f ρ S)
def OutI (K : PySem.W.Frag) (W : Wx) (P : Addr → Prop) (S : Store) (H : Hp) (R : It → Hp → Prop) : Out (List D) → Prop
  | .ok ds S' => ∀ H' J, Evo K S H S' H' → ItemsOk K P J H' ds → R J H'
  | .ex e S' => ∀ H', Evo K S H S' H' → W e H'
  | .no => False
def tI (W : Wx) (K : PySem.W.Frag) (f : F (List D)) : TI := fun σ H R => ∃ S0 H0 P S ρ, Rel K S0 H0 P S ρ σ H ∧ OutI K W P S H R (f ρ S)
section
variable {K : PySem.W.Frag} {P : Addr → Prop} {H1 : Hp}
theorem items_list {a : Addr} {vs : List V} {ds : List D} (hs : ∀ Hb, Kp P H1 Hb → SqL K Hb a vs) (r : RepL K P H1 ds vs) : ItemsOk K P (Itl K a) H1 ds := by
  have hl := r.len
  refine ⟨YAt vs, ?_, fun i Ha x Hb hi k y => ?_⟩
  · have w := (walk_list (K := K) (a := a) (xs := vs)).mono (G' := Kp P H1) (Y' := YAt vs) hs fun i H x H' _ _ y => y
    rwa [hl] at w
  · obtain ⟨rfl, e⟩ := y
    refine ⟨Same.refl _, fun P' g => ?_⟩
    obtain ⟨v, h1, h2⟩ := r.get (i := i) (d := ds[i]) (by simp [hi])
    rw [e] at h1; cases h1
    exact ⟨ds[i], by simp [hi], Rep.move k g h2⟩
theorem items_tup {a : Addr} {vs : List V} {ds : List D} (hs : SqT K H1 a vs) (r : RepL K P H1 ds vs) : ItemsOk K P (Itt K a) H1 ds := by
  have hl := r.len
  refine ⟨YAt vs, ?_, fun i Ha x Hb hi k y => ?_⟩
  · have w := (walk_tup (K := K) (a := a) (xs := vs)).mono (G' := Kp P H1) (Y' := YAt vs) (fun Hb k => k.sqt hs) fun i H x H' _ _ y => y
    rwa [hl] at w
  · obtain ⟨rfl, e⟩ := y
    refine ⟨Same.refl _, fun P' g => ?_⟩
    obtain ⟨v, h1, h2⟩ := r.get (i := i) (d := ds[i]) (by simp [hi])
    rw [e] at h1; cases h1
    exact ⟨ds[i], by simp [hi], Rep.move k g h2⟩
def dRange (lo : Int) (n : Nat) : List D := (List.range n).map fun (i : Nat) => .int (lo + (i : Int))
theorem dRange_len (lo : Int) (n : Nat) : (dRange lo n).length = n := by simp [dRange]
theorem items_range {lo : Int} {n : Nat} : ItemsOk K P (Itr lo n) H1 (dRange lo n) := by
  refine ⟨YFn fun i => .int (lo + i), ?_, fun i Ha x Hb hi k y => ?_⟩
  · have w := (walk_range (lo := lo) (n := n)).mono (G' := Kp P H1) (Y' := YFn fun i => .int (lo + i)) (fun _ _ => trivial) fun i H x H' _ _ y => y
    rw [dRange_len]
    exact w
  · obtain ⟨rfl, e⟩ := y
    rw [dRange_len] at hi
    refine ⟨Same.refl _, fun P' g => ⟨.int (lo + i), by simp [dRange, hi], ?_⟩⟩
    exact CB.rI.mpr e
def dStr (z : Str) : List D := z.cps.toList.map fun c => .str ⟨#[c]⟩
theorem items_str {z : Str} : ItemsOk K P (Its z) H1 (dStr z) := by
  refine ⟨fun i H v H' => H' = H ∧ ∃ c, z.cps[i]? = some c ∧ v = .str ⟨#[c]⟩, ?_, fun i Ha x Hb hi k y => ?_⟩
  · have w := (walk_str (z := z)).mono (G' := Kp P H1) (Y' := fun i H v H' => H' = H ∧ ∃ c, z.cps[i]? = some c ∧ v = .str ⟨#[c]⟩) (fun _ _ => trivial) fun i H x H' _ _ y => y
    rwa [show z.cps.size = (dStr z).length by simp [dStr]] at w
  · obtain ⟨rfl, c, e, rfl⟩ := y
    exact ⟨Same.refl _, fun P' g => ⟨.str ⟨#[c]⟩, by simp [dStr, e], rS.mpr rfl⟩⟩
theorem zip_get {α β : Type} : ∀ {xs : List α} {ys : List β} {i : Nat} {x : α} {y : β}, xs[i]? = some x → ys[i]? = some y → (List.zip xs ys)[i]? = some (x, y)
  | [], _, _, _, _, h, _ => by simp at h
  | _ :: _, [], _, _, _, _, h => by simp at h
  | a :: xs, b :: ys, 0, x, y, h1, h2 => by simp at h1 h2; subst h1; subst h2; rfl
  | a :: xs, b :: ys, i + 1, x, y, h1, h2 => by simpa using zip_get (i := i) (by simpa using h1) (by simpa using h2)
def dZip (xs ys : List D) : List D := (List.zip xs ys).map fun p => .tup [p.1, p.2]
theorem items_pair {J : It} {xs ys : List D} {vs us : List V} {n : Nat} (hn : n = min xs.length ys.length) (rx : RepL K P H1 xs vs) (ry : RepL K P H1 ys us) (w : Walk J n (Kp P H1) (YPair (fun i => vs[i]?) (fun i => us[i]?))) : ItemsOk K P J H1 (dZip xs ys) := by
  have hl : (dZip xs ys).length = n := by simp [dZip, hn]
  refine ⟨_, hl ▸ w, fun i Ha x Hb hi k y => ?_⟩
  obtain ⟨T, x1, y1, rfl, h2, rfl, h4, h5⟩ := y
  refine ⟨same_upd h2, fun P' g => ?_⟩
  have i1 : i < xs.length := by omega
  have i2 : i < ys.length := by omega
  obtain ⟨v, g1, g2⟩ := rx.get (i := i) (d := xs[i]) (by simp [i1])
  obtain ⟨u, g3, g4⟩ := ry.get (i := i) (d := ys[i]) (by simp [i2])
  simp only [h4] at g1
  simp only [h5] at g3
  cases g1; cases g3
  refine ⟨.tup [xs[i], ys[i]], ?_, newT h2 (.cons (Rep.move k g g2) (.one (Rep.move k g g4)))⟩
  unfold dZip
  rw [List.getElem?_map, zip_get (x := xs[i]) (y := ys[i]) (by simp [i1]) (by simp [i2])]
  rfl
end
section
variable {X : Cx} {W : Wx} {tg : Expr} {pos : Pos}
theorem ei_c {e : Expr} {f : F (List D)} (h : PI X tg e (tI W X.K f)) : PI X tg e (tIc W X.K f) := by
  refine PI.imp h fun σ H Q ⟨S0, H0, P, S, ρ, R, q⟩ => ⟨S0, H0, P, S, ρ, R, ?_⟩
  cases e : f ρ S with
  | ok ds S1 =>
    rw [e] at q
    exact fun H' J E i => q H' J E (i.c fun a z => R.pS a ((dS_of E.dom a).mp z))
  | ex x S1 => rw [e] at q; exact q
  | no => rw [e] at q; exact q
def fOwnL (i : Nat) : F (List D) := fun ρ S => match ρ[i]? with
  | some (.own (.lst xs)) => .ok xs S
  | _ => .no
/-- one's own list, in a comprehension -/
theorem ei_own (i : Nat) {x : Str} {pos : Pos} (hN : X.N[i]? = some x := by rfl) (hv : Vis X.env.scope x := by first | exact Or.inl rfl | exact Or.inr (Or.inl rfl) | exact Or.inr (Or.inr rfl)) (hd : (x == ("__debug__" : Str)) = false := by decide)
    (hcd : (x == ("__classdict__" : Str)) = false := by decide) : PI X tg (.Name x pos) (tIc W X.K (fOwnL i)) := by
  refine PI.imp (pi_list (pe_var hN hv hd hcd)) fun σ H Q ⟨S0, H0, P, S, ρ, R, q⟩ => ?_
  unfold fOwnL at q
  split at q
  · rename_i xs e
    obtain ⟨p, h1, h2, h3, h4, vs, h6, h7⟩ := R.own i _ e
    refine ⟨.ref p, h1, p, rfl, ⟨vs, .of h6⟩, q H _ .refl ?_⟩
    have hl := h7.len
    have st : ∀ Hb, Kp (dS S) H Hb → SqL X.K Hb p vs := fun Hb k => .of (k.keep _ _ h6 fun z => z h4)
    refine ⟨YAt vs, ?_, fun i Ha x Hb hi k y => ?_⟩
    · have w := (walk_list (K := X.K) (a := p) (xs := vs)).mono (G' := Kp (dS S) H) (Y' := YAt vs) st fun i H x H' _ _ y => y
      rwa [hl] at w
    · obtain ⟨rfl, e⟩ := y
      refine ⟨Same.refl _, fun P' g => ?_⟩
      obtain ⟨v, g1, g2⟩ := (RepL.av (fun a (z : P a) => Or.inl z) h7).get (i := i) (d := xs[i]) (by simp [hi])
      rw [e] at g1; cases g1
      exact ⟨xs[i], by simp [hi], Rep.move (k.mono fun a z => R.pS a z) g g2⟩
  · exact q.elim
theorem tE_I {fa : F D} {k : D → Store → Out (List D)} {R : V → Hp → Prop} {l : Lvl} {S0 H0 P S ρ σ H} {Q : It → Hp → Prop} (Rl : Rel X.K S0 H0 P S ρ σ H) (h : OutI X.K W P S H Q ((fa ρ S).bind k))
    (hk : ∀ d S1 H1 v, fa ρ S = .ok d S1 → Evo X.K S H S1 H1 → RepAt X.K P S H0 H H1 d v l → OutI X.K W P S H Q (k d S1) → R v H1) : tE W l X.K fa σ H R := by
  refine ⟨S0, H0, P, S, ρ, Rl, ?_⟩
  cases e : fa ρ S with
  | ok d S1 =>
    rw [e] at h
    exact fun H1 v E r => hk d S1 H1 v e E r h
  | ex x S1 => rw [e] at h; exact h
  | no => rw [e] at h; exact h
def fIter (f : F D) : F (List D) := fun ρ S => (f ρ S).bind fun d S => match d with
  | .lst xs => .ok xs S
  | .fro xs => .ok xs S
  | .tup xs => .ok xs S
  | .str z => .ok (dStr z) S
  | _ => .no
theorem PI.or {e : Expr} {t u : TI} (h : PI X tg e t) (h' : PI X tg e u) : PI X tg e (fun σ H R => t σ H R ∨ u σ H R) := ⟨fun pins s σ H R I q => by
  rcases q with q | q
  · exact h.run pins s σ H R I q
  · exact h'.run pins s σ H R I q⟩
theorem ei_data {e : Expr} {f : F D} (h : PE X e (tE W .mu X.K f)) : PI X tg e (tI W X.K (fIter f)) := by
  refine PI.imp (PI.or (pi_list h) (PI.or (pi_tup h) (pi_str h))) fun σ H Q ⟨S0, H0, P, S, ρ, R, q⟩ => ?_
  unfold fIter at q
  have q' := q
  cases e : f ρ S with
  | ok d S1 =>
    rw [e, Out.bind_ok] at q'
    cases d with
    | lst xs =>
      refine .inl (tE_I R q fun d S1 H1 v e' E r q => ?_)
      rw [e] at e'; cases e'
      obtain ⟨a, vs, rfl, n, h1, h2⟩ := rL.mp (RepAt.rep r)
      exact ⟨a, rfl, ⟨vs, .of h1⟩, q H1 _ E (items_list (fun Hb k => .of (k.keep _ _ h1 n)) h2)⟩
    | fro xs =>
      refine .inl (tE_I R q fun d S1 H1 v e' E r q => ?_)
      rw [e] at e'; cases e'
      obtain ⟨a, vs, rfl, h1, h2⟩ := rF.mp (RepAt.rep r)
      exact ⟨a, rfl, ⟨vs, h1.sq⟩, q H1 _ E (items_list (fun Hb k => (k.fz h1).sq) h2)⟩
    | tup xs =>
      refine .inr (.inl (tE_I R q fun d S1 H1 v e' E r q => ?_))
      rw [e] at e'; cases e'
      obtain ⟨a, vs, rfl, h1, h2⟩ := rT.mp (RepAt.rep r)
      exact ⟨a, rfl, ⟨vs, .of h1⟩, q H1 _ E (items_tup (.of h1) h2)⟩
    | str z =>
      refine .inr (.inr (tE_I R q fun d S1 H1 v e' E r q => ?_))
      rw [e] at e'; cases e'
      exact ⟨z, rS.mp (RepAt.rep r), q H1 _ E items_str⟩
    | _ => exact q'.elim
  | ex x S1 =>
    refine .inl ⟨S0, H0, P, S, ρ, R, ?_⟩
    rw [e] at q'; rw [e]; exact q'
  | no => rw [e] at q'; exact q'.elim
theorem tA_I {fa : F (List D)} {k : List D → Store → Out (List D)} {R : List V → Hp → Prop} {l : Lvl} {S0 H0 P S ρ σ H} {Q : It → Hp → Prop} (Rl : Rel X.K S0 H0 P S ρ σ H) (h : OutI X.K W P S H Q ((fa ρ S).bind k))
    (hk : ∀ d S1 H1 v, fa ρ S = .ok d S1 → Evo X.K S H S1 H1 → RepL X.K (avo P S H0 H l) H1 d v → OutI X.K W P S H Q (k d S1) → R v H1) : tA W l X.K fa σ H R := by
  refine ⟨S0, H0, P, S, ρ, Rl, ?_⟩
  cases e : fa ρ S with
  | ok d S1 =>
    rw [e] at h
    exact fun H1 v E r => hk d S1 H1 v e E r h
  | ex x S1 => rw [e] at h; exact h
  | no => rw [e] at h; exact h
def okR (i : Int) : Bool := Nat.ble i.natAbs 4611686018427387903
theorem okR_of {i : Int} (h : okR i = true) : -(2 ^ 62) ≤ i ∧ i < 2 ^ 62 := by
  have := Nat.le_of_ble_eq_true h
  omega
def gRange1 : List D → Option (List D)
  | [.int n] => if okR n then some (dRange 0 n.toNat) else none
  | _ => none
def gRange2 : List D → Option (List D)
  | [.int a, .int b] => if okR a && okR b then some (dRange a (b - a).toNat) else none
  | _ => none
theorem gRange1_of {ds xs : List D} (h : gRange1 ds = some xs) : ∃ n, ds = [.int n] ∧ okR n = true ∧ xs = dRange 0 n.toNat := by
  unfold gRange1 at h
  split at h
  · split at h
    · rename_i n e; cases h; exact ⟨n, rfl, e, rfl⟩
    · cases h
  · cases h
theorem gRange2_of {ds xs : List D} (h : gRange2 ds = some xs) : ∃ a b, ds = [.int a, .int b] ∧ okR a = true ∧ okR b = true ∧ xs = dRange a (b - a).toNat := by
  unfold gRange2 at h
  split at h
  · split at h
    · rename_i a b e; cases h; simp only [Bool.and_eq_true] at e; exact ⟨a, b, rfl, e.1, e.2, rfl⟩
    · cases h
  · cases h
def fAppL (g : List D → Option (List D)) (f : F (List D)) : F (List D) := fun ρ S => (f ρ S).bind fun ds S => ofOpt (g ds) S
theorem ei_range1 {a : Expr} {p : Pos} {f : F (List D)} (hg : Gl X "range") (hm : X.mg "range" = none) (ha : PA X [a] (tA W .any X.K f)) (hs : starEach [a] X.env = [(false, eval a X.env)] := by rfl) : PI X tg (.Call (.Name "range" p) [a] [] pos) (tI W X.K (fAppL gRange1 f)) := by
  refine PI.imp (pi_range1 hg hm ha hs) fun σ H Q ⟨S0, H0, P, S, ρ, R, q⟩ => tA_I R q fun ds S1 H1 vs _ E r q => ?_
  cases eg : gRange1 ds with
  | none => rw [eg] at q; exact q.elim
  | some xs =>
    rw [eg] at q
    obtain ⟨n, rfl, h, rfl⟩ := gRange1_of eg
    obtain ⟨v, r', rfl, h1, h2⟩ := r.uncons
    unfold RepL at h2
    subst h2
    exact ⟨n, by rw [CB.rI.mp h1], (okR_of h).1, (okR_of h).2, q H1 _ E items_range⟩
theorem ei_range2 {a b : Expr} {p : Pos} {f : F (List D)} (hg : Gl X "range") (hm : X.mg "range" = none) (ha : PA X [a, b] (tA W .any X.K f)) (hs : starEach [a, b] X.env = [(false, eval a X.env), (false, eval b X.env)] := by rfl) 
    (hpl : starEach [b] X.env = [(false, eval b X.env)] := by rfl) : PI X tg (.Call (.Name "range" p) [a, b] [] pos) (tI W X.K (fAppL gRange2 f)) := by
  refine PI.imp (pi_range2 hg hm ha hs hpl) fun σ H Q ⟨S0, H0, P, S, ρ, R, q⟩ => tA_I R q fun ds S1 H1 vs _ E r q => ?_
  cases eg : gRange2 ds with
  | none => rw [eg] at q; exact q.elim
  | some xs =>
    rw [eg] at q
    obtain ⟨a, b, rfl, h, h', rfl⟩ := gRange2_of eg
    obtain ⟨v, r', rfl, h1, h2⟩ := r.uncons
    obtain ⟨v2, r', rfl, h3, h4⟩ := h2.uncons
    unfold RepL at h4
    subst h4
    exact ⟨a, b, by rw [CB.rI.mp h1, CB.rI.mp h3], ⟨(okR_of h).1, (okR_of h).2, (okR_of h').1, (okR_of h').2⟩, q H1 _ E items_range⟩
def seqD : D → Option (Bool × List D)
  | .lst xs => some (true, xs)
  | .tup xs => some (false, xs)
  | .fro xs => some (true, xs)
  | _ => none
def gZip : List D → Option (List D)
  | [.lst xs, .lst ys] => some (dZip xs ys)
  | [.tup xs, .tup ys] => some (dZip xs ys)
  | [.tup xs, .lst ys] => some (dZip xs ys)
  | [.lst xs, .tup ys] => some (dZip xs ys)
  | _ => none
theorem gZip_of {ds zs : List D} (h : gZip ds = some zs) : ∃ a b k1 k2 xs ys, ds = [a, b] ∧ seqD a = some (k1, xs) ∧ seqD b = some (k2, ys) ∧ zs = dZip xs ys := by
  unfold gZip at h
  split at h
  · cases h; exact ⟨_, _, _, _, _, _, rfl, rfl, rfl, rfl⟩
  · cases h; exact ⟨_, _, _, _, _, _, rfl, rfl, rfl, rfl⟩
  · cases h; exact ⟨_, _, _, _, _, _, rfl, rfl, rfl, rfl⟩
  · cases h; exact ⟨_, _, _, _, _, _, rfl, rfl, rfl, rfl⟩
  · cases h
theorem seqD_rep {K : PySem.W.Frag} {P : Addr → Prop} {H : Hp} {d : D} {v : V} {k : Bool} {xs : List D} (r : Rep K P H d v) (h : seqD d = some (k, xs)) : ∃ a vs, v = .ref a ∧ RepL K P H xs vs ∧ ∀ Hb, Kp P H Hb → SqA K Hb k a vs := by
  unfold seqD at h
  split at h
  · cases h
    obtain ⟨c, vs, rfl, n1, g1, g2⟩ := rL.mp r
    exact ⟨c, vs, rfl, g2, fun Hb k => .of (k.keep _ _ g1 n1)⟩
  · cases h
    obtain ⟨c, vs, rfl, g1, g2⟩ := rT.mp r
    exact ⟨c, vs, rfl, g2, fun Hb k => k.sqt (.of g1)⟩
  · cases h
    obtain ⟨c, vs, rfl, g1, g2⟩ := rF.mp r
    exact ⟨c, vs, rfl, g2, fun Hb k => (k.fz g1).sq⟩
  · cases h
theorem ei_zip {a b : Expr} {p tpos : Pos} {elts : List Expr} {kk : Nat} {f : F (List D)} (hg : Gl X "zip") (hm : X.mg "zip" = none) (ha : PA X [a, b] (tA W .mu X.K f)) (hs : starEach [a, b] X.env = (false, eval a X.env) :: starEach [b] X.env := by rfl)
    (hpl : (backTo pos (starEach [b] X.env)).any (·.1) = false := by rfl) : PI X (.Tuple elts kk tpos) (.Call (.Name "zip" p) [a, b] [] pos) (tI W X.K (fAppL gZip f)) := by
  refine PI.imp (pi_zipM hg hm ha hs hpl) fun σ H Q ⟨S0, H0, P, S, ρ, R, q⟩ => tA_I R q fun ds S1 H1 vs _ E r q => ?_
  cases eg : gZip ds with
  | none => rw [eg] at q; exact q.elim
  | some zs =>
    rw [eg] at q
    obtain ⟨da, db, k1, k2, xs, ys, rfl, e1, e2, rfl⟩ := gZip_of eg
    obtain ⟨v, r', rfl, h1, h2⟩ := r.uncons
    obtain ⟨v2, r', rfl, h3, h4⟩ := h2.uncons
    unfold RepL at h4
    subst h4
    obtain ⟨c, vs, rfl, g1, g2⟩ := seqD_rep h1 e1
    obtain ⟨d, us, rfl, g3, g4⟩ := seqD_rep h3 e2
    refine ⟨k1, k2, c, d, vs, us, rfl, g2 _ .refl, g4 _ .refl, q H1 _ E (items_pair rfl g1 g3 ?_)⟩
    exact (walk_zipA (xs := vs) (ys := us) (by rw [g1.len, g3.len])).mono (fun Hb k => ⟨g2 _ k, g4 _ k⟩) fun _ _ _ _ _ _ y => y

/-- .. in a comprehension, over lists of one's own, too, if their items never change -/
def gZipI (ds : List D) : Option (List D) := (gZip ds).bind fun zs => if immL zs then some zs else none
theorem dZip_imm : ∀ {xs ys : List D} {i : Nat} {x y : D}, immL (dZip xs ys) = true → xs[i]? = some x → ys[i]? = some y → x.imm = true ∧ y.imm = true
  | [], _, _, _, _, _, h, _ => by simp at h
  | _ :: _, [], _, _, _, _, _, h => by simp at h
  | a :: xs, b :: ys, 0, x, y, hi, h1, h2 => by
    simp at h1 h2; subst h1; subst h2
    have : (D.tup [a, b]).imm = true := by
      unfold dZip at hi
      rw [List.zip_cons_cons, List.map_cons] at hi
      unfold immL at hi
      exact (Bool.and_eq_true _ _ ▸ hi).1
    unfold D.imm immL immL immL at this
    simpa using this
  | a :: xs, b :: ys, i + 1, x, y, hi, h1, h2 => by
    refine dZip_imm (xs := xs) (ys := ys) (i := i) ?_ (by simpa using h1) (by simpa using h2)
    unfold dZip at hi
    rw [List.zip_cons_cons, List.map_cons] at hi
    unfold immL at hi
    exact (Bool.and_eq_true _ _ ▸ hi).2
theorem itemsC_pair {A : Addr → Prop} {J : It} {xs ys : List D} {vs us : List V} {n : Nat} {K : PySem.W.Frag} {P : Addr → Prop} {H1 : Hp} (hi : immL (dZip xs ys) = true) (hn : n = min xs.length ys.length) (rx : RepL K A H1 xs vs) (ry : RepL K A H1 ys us) (w : Walk J n (Kp A H1) (YPair (fun i => vs[i]?) (fun i => us[i]?))) : ItemsC K A P J H1 (dZip xs ys) := by
  have hl : (dZip xs ys).length = n := by simp [dZip, hn]
  refine ⟨_, hl ▸ w, fun i Ha x Hb hlt k y => ?_⟩
  obtain ⟨T, x1, y1, rfl, h2, rfl, h4, h5⟩ := y
  refine ⟨same_upd h2, fun P' g => ?_⟩
  have i1 : i < xs.length := by omega
  have i2 : i < ys.length := by omega
  obtain ⟨v, g1, g2⟩ := rx.get (i := i) (d := xs[i]) (by simp [i1])
  obtain ⟨u, g3, g4⟩ := ry.get (i := i) (d := ys[i]) (by simp [i2])
  simp only [h4] at g1
  simp only [h5] at g3
  cases g1; cases g3
  obtain ⟨m1, m2⟩ := dZip_imm (i := i) (x := xs[i]) (y := ys[i]) hi (by simp [i1]) (by simp [i2])
  refine ⟨.tup [xs[i], ys[i]], ?_, newT h2 (.cons (Rep.im m1 (Rep.kp k g2)) (.one (Rep.im m2 (Rep.kp k g4))))⟩
  unfold dZip
  rw [List.getElem?_map, zip_get (x := xs[i]) (y := ys[i]) (by simp [i1]) (by simp [i2])]
  rfl
theorem ei_zipC {a b : Expr} {p tpos : Pos} {elts : List Expr} {kk : Nat} {f : F (List D)} (hg : Gl X "zip") (hm : X.mg "zip" = none) (ha : PA X [a, b] (tA W .any X.K f)) (hs : starEach [a, b] X.env = (false, eval a X.env) :: starEach [b] X.env := by rfl)
    (hpl : (backTo pos (starEach [b] X.env)).any (·.1) = false := by rfl) : PI X (.Tuple elts kk tpos) (.Call (.Name "zip" p) [a, b] [] pos) (tIc W X.K (fAppL gZipI f)) := by
  refine PI.imp (pi_zipM hg hm ha hs hpl) fun σ H Q ⟨S0, H0, P, S, ρ, R, q⟩ => ⟨S0, H0, P, S, ρ, R, ?_⟩
  unfold fAppL at q
  cases e : f ρ S with
  | ex x S1 => rw [e] at q; exact q
  | no => rw [e] at q; exact q.elim
  | ok ds S1 =>
    rw [e, Out.bind_ok] at q
    intro H1 vs E r
    unfold gZipI at q
    cases eg : gZip ds with
    | none => rw [eg] at q; exact q.elim
    | some zs =>
      rw [eg, Option.bind_some] at q
      split at q
      · rename_i him
        obtain ⟨da, db, k1, k2, xs, ys, rfl, e1, e2, rfl⟩ := gZip_of eg
        obtain ⟨v, r', rfl, h1, h2⟩ := RepL.uncons r
        obtain ⟨v2, r', rfl, h3, h4⟩ := h2.uncons
        unfold RepL at h4
        subst h4
        have ed : dS S1 = dS S := funext fun a => propext (dS_of E.dom a)
        obtain ⟨c, vs, rfl, g1, g2⟩ := seqD_rep (P := dS S) h1 e1
        obtain ⟨d, us, rfl, g3, g4⟩ := seqD_rep (P := dS S) h3 e2
        refine ⟨k1, k2, c, d, vs, us, rfl, g2 _ .refl, g4 _ .refl, q H1 _ E (ed ▸ itemsC_pair him rfl g1 g3 ?_)⟩
        exact (walk_zipA (xs := vs) (ys := us) (by rw [g1.len, g3.len])).mono (fun Hb k => ⟨g2 _ k, g4 _ k⟩) fun _ _ _ _ _ _ y => y
      · exact q.elim

/-! for -/
def loopS (b : Bd) (body : FS) : List D → FS
  | [], ρ, S => .nx ρ S
  | d :: ds, ρ, S => match b d ρ with
    | none => .no
    | some ρ1 => match body ρ1 S with
      | .nx ρ2 S2 => loopS b body ds ρ2 S2
      | .ct ρ2 S2 => loopS b body ds ρ2 S2
      | .bk ρ2 S2 => .nx ρ2 S2
      | o => o
def sFor (it : F (List D)) (b : Bd) (body : FS) : FS := fun ρ S => (it ρ S).toS fun ds S => loopS b body ds ρ S
theorem es_for {iter : Expr} {body : List Stmt} {it : F (List D)} {g : TG} {b : Bd} {fb : FS} {vs : List Nat} (hi : PI X tg iter (tI W X.K it)) (hg : PG X tg g) (hgb : TGok X.K vs g b) (hb : PSs X body (tS W X.K fb)) (hp : PassesOwn (model X.prog X.w) X.A X.env X.xe) (hc : X.calm = true)
    (hs : ∀ x, foldedSetIterable iter X.env x = pure x := by intro _; rfl) : PS X (.For tg iter body [] pos) (tS W X.K (sFor it b fb)) := by
  refine PS.imp (ps_for hp hc hi hg hb hs) fun Dn σ H ⟨S0, H0, P, S, ρ, R, q⟩ => ?_
  refine ⟨S0, H0, P, S, ρ, R, ?_⟩
  unfold sFor at q
  cases e : it ρ S with
  | ex x S1 => rw [e] at q; exact fun H1 E => q H1 (R.evo.trans E)
  | no => rw [e] at q; exact q
  | ok ds S1 =>
    rw [e, Out.toS_ok] at q
    intro H1 J E ⟨Y, w, hY⟩
    have R1 := R.step E
    have q := q.mono .refl (R.kpP E)
    refine for_it w (fun i σ' H' => ∃ P' S' ρ', Grow P P' H1 ∧ Kp P H1 H' ∧ Rel X.K S0 H0 P' S' ρ' σ' H' ∧ Good X.K W S0 H0 P' H' Dn (loopS b fb (ds.drop i) ρ' S')) ⟨P, S1, ρ, .refl, .refl, R1, by simpa using q⟩ ?_ ?_ ?_
    · rintro i σ' H' _ ⟨P', S', ρ', g, k, _⟩
      exact k
    · rintro i x σ' Ha Hb hlt ⟨P', S', ρ', gr, k, R', q⟩ y
      obtain ⟨sm, hx⟩ := hY i Ha x Hb hlt k y
      obtain ⟨d, hd, rx⟩ := hx P' gr
      have R2 := R'.step (.of_same sm)
      have ed : ds.drop i = d :: ds.drop (i + 1) := by
        rw [List.drop_eq_getElem_cons hlt]
        rw [List.getElem?_eq_getElem hlt] at hd
        cases hd; rfl
      rw [ed] at q
      unfold loopS at q
      have kb : Kp P' Ha Hb := .of_same sm
      have q := q.mono .refl kb
      split at q
      · exact q.elim
      · rename_i ρ1 eb
        refine hgb _ _ _ _ _ _ _ d x ρ1 _ R2 rx eb fun σ1 _ _ R3 => ?_
        refine ⟨S0, H0, P', S', ρ1, R3, ?_⟩
        have nxt : ∀ {ρ2 : En} {S2 : Store}, Good X.K W S0 H0 P' Hb Dn (loopS b fb (ds.drop (i + 1)) ρ2 S2) → ∀ P2 σ2 H2, Grow P' P2 Hb → Kp P' Hb H2 → Rel X.K S0 H0 P2 S2 ρ2 σ2 H2 →
            ∃ P' S' ρ', Grow P P' H1 ∧ Kp P H1 H2 ∧ Rel X.K S0 H0 P' S' ρ' σ2 H2 ∧ Good X.K W S0 H0 P' H2 Dn (loopS b fb (ds.drop (i + 1)) ρ' S') := fun {ρ2 S2} q P2 σ2 H2 g2 k2 R4 => by
          have k1 : Kp P H1 Hb := (Kp.then_ gr k kb)
          exact ⟨P2, S2, ρ2, gr.trans k1.dom g2, Kp.then_ gr k1 k2, R4, q.mono g2 k2⟩
        cases eo : fb ρ1 S' with
        | nx ρ2 S2 => rw [eo] at q; exact nxt q
        | ct ρ2 S2 => rw [eo] at q; exact nxt q
        | bk ρ2 S2 => rw [eo] at q; exact q
        | rt d S2 => rw [eo] at q; exact q
        | ex d S2 => rw [eo] at q; exact q
        | no => rw [eo] at q; exact q
    · rintro σ' H' ⟨P', S', ρ', g, k, R', q⟩
      rw [List.drop_length] at q
      exact q P' σ' H' .refl .refl R'
end
end CB
set_option Elab.async false
set_option linter.all false
set_option maxRecDepth 100000
namespace CB
open PySem PySem.Spec PyProof.Rows L2

section
variable {K : PySem.W.Frag} {S0 : Store} {H0 : Hp} {P P' : Addr → Prop} {S : Store} {ρ : En} {σ : L2.St} {H H1 H2 : Hp}
theorem wipe_wipe {σ : L2.St} : ∀ vs ws : List Nat, (∀ i ∈ vs, i ∈ ws) → L2.wipe (L2.wipe σ vs) ws = L2.wipe σ ws
  | [], _, _ => rfl
  | v :: vs, ws, h => by
    show L2.wipe ((L2.wipe σ vs).set v none) ws = _
    rw [wipe_set (h v (by simp)), wipe_wipe vs ws fun i hi => h i (by simp [hi])]
/-- an address more -/
theorem Rel.fresh (R : Rel K S0 H0 P S ρ σ H) {p : Addr} {o : HO} (hp : H p = none) : Rel K S0 H0 (fun a => P a ∨ a = p) S ρ σ (upd H p o) := by
  have E : Evo K S H S (upd H p o) := .alloc hp
  have k := R.kpP E
  have g : ∀ a, H a ≠ none → (P a ∨ a = p) → P a := fun a ha z => z.elim id fun e => absurd hp (by rw [← e]; exact ha)
  exact {
    len := R.len
    ro := fun j d h => by
      obtain ⟨w, h1, h2⟩ := R.ro j d h
      exact ⟨w, h1, Rep.move k g h2⟩
    own := fun j d h => by
      obtain ⟨q, h1, h2, h3, h4, h5⟩ := R.own j d h
      refine ⟨q, h1, .inl h2, h3, h4, h5.move (Kp.of_same (same_upd hp)) (fun a ha z => ?_) fun u w _ => same_upd hp q u w⟩
      rcases z with z | z
      · exact .inl (g a ha z)
      · exact .inr z
    inj := R.inj
    pS := fun a h => .inl (R.pS a h)
    pH := fun a h => by
      rcases h with h | rfl
      · exact k.dom a (R.pH a h)
      · rw [upd_same]; simp
    s0 := R.s0
    st := E.st R.st
    evo := R.evo.trans E }
/-- a list that no slot has is written -/
theorem Rel.writeP (R : Rel K S0 H0 P S ρ σ H) {p : Addr} {o : HO} {vs : List V} (hP : P p) (hl : H p = some (.lst vs)) (h0 : H0 p = none) (hS : S p = none) (hown : ∀ (j : Nat) (d : D), ρ[j]? = some (.own d) → σ[j]? ≠ some (some (.ref p))) :
    Rel K S0 H0 P S ρ σ (upd H p o) := by
  have k : Kp P H (upd H p o) := kp_upd hP hl
  have k0 : Kp (dS S0) H0 (upd H p o) := by
    refine ⟨fun b w e n t => ?_, fun b xs e => ?_, fun b w z e => ?_, fun b e => k.dom b (R.evo.kp.dom b e), fun b φ e => k.ext b φ (R.evo.kp.ext b φ e)⟩
    · rw [upd_ne (fun z => by rw [z, h0] at e; cases e)]; exact R.evo.kp.keep b w e n t
    · exact k.tup b xs (R.evo.kp.tup b xs e)
    · exact k.frz b w z (R.evo.kp.frz b w z e)
  have stK : StOk K S (upd H p o) := fun a x e => (R.st a x e).kp (A := P) k fun w q => by
    rw [upd_ne (fun z => by rw [z, hS] at e; cases e)]; exact q
  exact {
    len := R.len
    ro := fun j d h => by
      obtain ⟨w, g1, g2⟩ := R.ro j d h
      exact ⟨w, g1, Rep.kp k g2⟩
    own := fun j d h => by
      obtain ⟨q, g1, g2, g3, g4, g5⟩ := R.own j d h
      refine ⟨q, g1, g2, g3, g4, g5.kp (k.mono fun a z => .inl z) fun w z _ => ?_⟩
      rw [upd_ne]
      · exact z
      · rintro rfl
        exact hown j d h g1
    inj := R.inj
    pS := R.pS
    pH := fun a h => k.dom a (R.pH a h)
    s0 := R.s0
    st := stK
    evo := ⟨k0, R.evo.dom, fun _ => stK⟩ }
end

/-! comprehensions -/
def Out.bindN {α β : Type} (o : Out α) (f : α → Store → Out β) : Out β := match o with
  | .ok a S => f a S
  | _ => .no
@[simp] theorem Out.bindN_ok {α β : Type} (a : α) (S : Store) (f : α → Store → Out β) : (Out.ok a S).bindN f = f a S := rfl
@[simp] theorem Out.bindN_ex {α β : Type} (e : D) (S : Store) (f : α → Store → Out β) : (Out.ex e S : Out α).bindN f = .no := rfl
@[simp] theorem Out.bindN_no {α β : Type} (f : α → Store → Out β) : (Out.no : Out α).bindN f = .no := rfl
def compF (b : Bd) (c : F Bool) (elt : F D) (ρ : En) : List D → Store → Out (List D)
  | [], S => .ok [] S
  | d :: ds, S => match b d ρ with
    | none => .no
    | some ρ1 => (c ρ1 S).bindN fun k S => if k then (elt ρ1 S).bindN fun y S => (compF b c elt ρ ds S).bind fun r S => .ok (y :: r) S else compF b c elt ρ ds S
def fComp (it : F (List D)) (b : Bd) (c : F Bool) (elt : F D) (vs : List Nat) : F D := fun ρ S => (it ρ S).bind fun ds S =>
  if okLen ds.length then (compF b c elt (wipeE ρ vs) ds S).bind fun ys S => .ok (.lst ys) S else .no
def fYes : F Bool := fun _ S => .ok true S
def tTs (K : PySem.W.Frag) (f : F Bool) : TT := tT (fun _ _ => False) K f
section
variable {X : Cx} {W : Wx} {l : Lvl} {pos : Pos}
theorem ets_nil : PTs X [] (tTs X.K fYes) := ⟨fun pins s σ H Q I h => (pts_nil (X := X)).run pins s σ H Q I (by
  obtain ⟨S0, H0, P, S, ρ, R, q⟩ := h
  exact q H .refl)⟩
theorem ets_one {e : Expr} {f : F Bool} (h : PT X e (tTs X.K f)) : PTs X [e] (tTs X.K f) := pts_one h
abbrev Lvl.lc : Lvl → Lvl
  | .any => .mu
  | .mu => .mu
  | .top => .mu
  | .h0 => .fr
  | .fr => .fr
theorem rep_lc {K : PySem.W.Frag} {P P2 : Addr → Prop} {S S3 : Store} {H0 H H3 H4 : Hp} {Dp : Addr} {y : D} {vy : V} (r : RepAt K P2 S3 H0 H3 H4 y vy l.lc) (h1 : ∀ a, P a ∨ a = Dp → P2 a) (hS : ∀ a, dS S a → P a) (h0 : ∀ a, H0 a ≠ none → H3 a ≠ none) (h3 : ∀ a, H a ≠ none → H3 a ≠ none) (hD : H3 Dp ≠ none) :
    Rep K (fun a => avo P S H0 H l a ∨ a = Dp) H4 y vy := by
  cases l with
  | any => exact Rep.av (fun a z => h1 a (z.imp (hS a) id)) (show Rep K P2 H4 y vy from r)
  | mu => exact Rep.av (fun a z => h1 a z) (show Rep K P2 H4 y vy from r)
  | top => exact Rep.av (fun a z => h1 a (z.imp (hS a) id)) (show Rep K P2 H4 y vy from r)
  | fr => exact Rep.av (fun a z => z.elim (h3 a) fun e => by rw [e]; exact hD) (show Rep K (dH H3) H4 y vy from r)
  | h0 => exact Rep.av (fun a z => z.elim (h0 a) fun e => by rw [e]; exact hD) (show Rep K (dH H3) H4 y vy from r)
theorem OutE.bindK {P : Addr → Prop} {S S1 : Store} {H0 H : Hp} {Q : VK} {y : D} {o : Out (List D)} {acc : List D} (q : OutE l X.K W P S H0 H Q ((o.bind fun r S => .ok (y :: r) S).bind fun ys S => .ok (.lst (acc ++ ys)) S)) :
    OutE l X.K W P S H0 H Q (o.bind fun ys S => .ok (.lst ((acc ++ [y]) ++ ys)) S) := by
  cases o with
  | ok r S2 => simpa using q
  | ex e S2 => exact q
  | no => exact q
theorem lc_read {g : TG} {b : Bd} {it : F (List D)} {c : F Bool} {fe : F D} {vs : List Nat} {σ : L2.St} {H : Hp} {Q : VK} (hgb : TGok X.K vs g b) (h : tE W l X.K (fComp it b c fe vs) σ H Q) :
    tLc (tIc W X.K it) g (tTs X.K c) (tE (fun _ _ => False) l.lc X.K fe) vs σ H Q := by
  obtain ⟨S0, H0, P, S, ρ, R, q⟩ := h
  refine ⟨S0, H0, P, S, ρ, R, ?_⟩
  unfold fComp at q
  cases e : it ρ S with
  | ex x S1 => rw [e] at q; exact q
  | no => rw [e] at q; exact q
  | ok ds S1 =>
    rw [e, Out.bind_ok] at q
    intro H1 J E ⟨Y, w, hY⟩ Dp hD
    have R1 := R.step E
    split at q
    · rename_i hz
      have Rw := R1.wipe vs
      have hown : ∀ (j : Nat) (d : D), (wipeE ρ vs)[j]? = some (.own d) → (L2.wipe σ vs)[j]? ≠ some (some (.ref Dp)) := fun j d h1 h2 => by
        obtain ⟨p, g1, g2, _⟩ := Rw.own j d h1
        rw [h2] at g1; cases g1
        exact Rw.pH _ g2 hD
      have h0D : H0 Dp = none := Classical.byContradiction fun z => R1.dom0 Dp z hD
      have hSD : ∀ {S' : Store}, (∀ a, S' a = none ↔ S1 a = none) → S' Dp = none := fun {S'} h => (h Dp).mpr (Classical.byContradiction fun z => R1.pH Dp (R1.pS Dp z) hD)
      have growD : Grow P (fun a => P a ∨ a = Dp) H1 := grow_new hD
      refine lc_it w (fun i Hc => ∃ S' acc vacc, Rel X.K S0 H0 (fun a => P a ∨ a = Dp) S' (wipeE ρ vs) (L2.wipe σ vs) Hc ∧ Kp P H1 Hc ∧ Evo X.K S1 H1 S' Hc ∧ Hc Dp = some (.lst vacc) ∧ RepL X.K (fun a => avo P S H0 H l a ∨ a = Dp) Hc acc vacc ∧ acc.length ≤ i ∧
        OutE l X.K W P S H0 H Q ((compF b c fe (wipeE ρ vs) (ds.drop i) S').bind fun ys S => .ok (.lst (acc ++ ys)) S)) ?_ ?_ ?_ ?_
      · exact ⟨S1, [], [], Rw.fresh hD, Kp.of_same (same_upd hD), .alloc hD, upd_same, .nil, Nat.le_refl _, by simpa using q⟩
      · rintro i Hc _ ⟨S', acc, vacc, _, k, Ec, _⟩
        exact Ec.kp
      · rintro i x Ha Hb hlt ⟨S', acc, vacc, Rc, k, Ec, hl, ra, hn, q⟩ y
        obtain ⟨sm, hx⟩ := hY i Ha x Hb hlt Ec.kp y
        obtain ⟨d, hd, rx⟩ := hx _ growD
        have ed : ds.drop i = d :: ds.drop (i + 1) := by
          rw [List.drop_eq_getElem_cons hlt]
          rw [List.getElem?_eq_getElem hlt] at hd
          cases hd; rfl
        rw [ed] at q
        unfold compF at q
        have Eb := Ec.trans (Evo.of_same (K := X.K) (S := S') sm)
        have Rb := Rc.step (.of_same sm)
        cases eb : b d (wipeE ρ vs) with
        | none => rw [eb] at q; exact q.elim
        | some ρ1 =>
          rw [eb] at q
          simp only at q
          refine hgb _ _ _ _ _ _ _ d x ρ1 _ Rb rx eb fun σ1 wσ oσ R2 => ⟨by rw [wσ, wipe_wipe vs vs fun _ h => h], ?_⟩
          refine ⟨S0, H0, _, S', ρ1, R2, ?_⟩
          cases ec : c ρ1 S' with
          | ex x S3 => rw [ec] at q; exact q.elim
          | no => rw [ec] at q; exact q.elim
          | ok kk S3 =>
            rw [ec, Out.bindN_ok] at q
            intro H3 E3
            have R3 := R2.step E3
            have EE3 := Eb.trans E3
            have kp3 : Kp P H1 H3 := EE3.kp.mono fun a z => R1.pS a z
            have avS : ∀ a, dS S a → dS S3 a := fun a z => (dS_of EE3.dom a).mpr ((dS_of E.dom a).mpr z)
            have hl3 : H3 Dp = some (.lst vacc) := E3.kp.keep _ _ (sm _ _ hl) fun z => z (hSD Ec.dom)
            have kav : ∀ {Hx : Hp}, Kp (dS S') Ha Hx → Kp (fun a => avo P S H0 H l a ∨ a = Dp) Ha Hx := fun {Hx} kx => kx.mono fun a z => .inl <| av_pS (l := l) R a ((dS_of E.dom a).mp ((dS_of Ec.dom a).mp z))
            have E03 : Evo X.K S' Ha S3 H3 := (Evo.of_same (K := X.K) (S := S') sm).trans E3
            have ra3 : RepL X.K (fun a => avo P S H0 H l a ∨ a = Dp) H3 acc vacc := RepL.kp (kav E03.kp) ra
            cases kk with
            | false =>
              have q : OutE l X.K W P S H0 H Q ((compF b c fe (wipeE ρ vs) (ds.drop (i + 1)) S3).bind fun ys S => .ok (.lst (acc ++ ys)) S) := q
              refine iteF ⟨S3, acc, vacc, (Rb.step E3), kp3, EE3, hl3, ra3, by omega, q⟩
            | true =>
              have q : OutE l X.K W P S H0 H Q (((fe ρ1 S3).bindN fun y S => (compF b c fe (wipeE ρ vs) (ds.drop (i + 1)) S).bind fun r S => .ok (y :: r) S).bind fun ys S => .ok (.lst (acc ++ ys)) S) := q
              refine iteT ⟨S0, H0, _, S3, ρ1, R3, ?_⟩
              cases ee : fe ρ1 S3 with
              | ex x S4 => rw [ee] at q; exact q.elim
              | no => rw [ee] at q; exact q.elim
              | ok y S4 =>
                rw [ee, Out.bindN_ok] at q
                intro H4 vy E4 ry
                have q := OutE.bindK q (S1 := S4)
                have EE4 := EE3.trans E4
                have E04 := E03.trans E4
                have hl4 : H4 Dp = some (.lst vacc) := E4.kp.keep _ _ hl3 fun z => z (hSD EE3.dom)
                have hlen : vacc.length = acc.length := ra.len
                refine ⟨vacc, hl4, ?_, S4, acc ++ [y], vacc ++ [vy], ?_, ?_, ?_, upd_same, ?_, by simp; omega, q⟩
                · have := okLen_line hz
                  omega
                · have R4 := (Rb.step E3).step E4
                  exact R4.writeP (.inr rfl) hl4 h0D (hSD EE4.dom) hown
                · have kp4 : Kp P H1 H4 := EE4.kp.mono fun a z => R1.pS a z
                  exact Kp.then_ growD kp4 (kp_upd (.inr rfl) hl4)
                · refine ⟨⟨fun a o h n t => ?_, fun a xs h => ?_, fun a o u h => ?_, fun a h => ?_, fun a φ h => by rw [upd_ne (fun z => by rw [z, hD] at h; cases h)]; exact EE4.kp.ext a φ h⟩, EE4.dom, fun h => ?_⟩
                  · rw [upd_ne (fun z => by rw [z, hD] at h; cases h)]; exact EE4.kp.keep a o h n t
                  · rw [upd_ne (fun z => by rw [z, hD] at h; cases h)]; exact EE4.kp.tup a xs h
                  · rw [upd_ne (fun z => by rw [z, hD] at h; cases h)]; exact EE4.kp.frz a o u h
                  · exact (kp_upd (A := fun a => a = Dp) rfl hl4).dom a (EE4.kp.dom a h)
                  · have R4 := (Rb.step E3).step E4
                    exact (R4.writeP (o := .lst (vacc ++ [vy])) (.inr rfl) hl4 h0D (hSD EE4.dom) hown).st
                · have ry2 := rep_lc (P := P) (S := S) (H := H) (Dp := Dp) ry (fun a z => z) R.pS (fun a z => EE3.kp.dom a (R1.dom0 a z)) (fun a z => EE3.kp.dom a (E.kp.dom a z)) (by rw [hl3]; simp)
                  have ra4 : RepL X.K (fun a => avo P S H0 H l a ∨ a = Dp) H4 acc vacc := RepL.kp (kav E04.kp) ra
                  exact RepL.kp (kp_upd (.inr rfl) hl4) (ra4.append (.one ry2))
      · rintro Hc ⟨S', acc, vacc, Rc, k, Ec, hl, ra, hn, q⟩
        rw [List.drop_length] at q
        have EE := E.trans Ec
        have q : OutE l X.K W P S H0 H Q (.ok (.lst (acc ++ [])) S') := q
        rw [List.append_nil] at q
        have ra := RepL.av (fun a (z : avo P S H0 H l a) => .inl z) ra
        refine q Hc (.ref Dp) EE (.of (rL.mpr ⟨Dp, vacc, rfl, fun z => ?_, hl, ra⟩) fun et => ?_)
        · exact E.kp.dom Dp (av_dom R Dp z) hD
        · subst et
          exact fun _ => ⟨Dp, rfl, Classical.byContradiction fun z => E.kp.dom Dp z hD, vacc, hl, ra⟩
    · exact q.elim
theorem ev_lc {elt tg iter : Expr} {ifs : List Expr} {scope : Scope} {own : List (Str × Nat)} {g : TG} {b : Bd} {it : F (List D)} {c : F Bool} {fe : F D} (hN : X.N.Nodup) (hi : PI X tg iter (tIc W X.K it)) (ok : BlkOk X.N X.env.scope scope own)
    (hgb : TGok X.K (own.map (·.2)) g b)
    (hg : ∀ (s : Shared) (H : Hp) (C : Addr) (cl : List (Str × Addr)) (fp : List Addr), PG (X.blk s H scope (compEnvC scope cl C X.env) fp) tg g) (ht : ∀ (s : Shared) (H : Hp) (C : Addr) (cl : List (Str × Addr)) (fp : List Addr), PTs (X.blk s H scope (compEnvC scope cl C X.env) fp) ifs (tTs X.K c))
    (he : ∀ (s : Shared) (H : Hp) (C : Addr) (cl : List (Str × Addr)) (fp : List Addr), PE (X.blk s H scope (compEnvC scope cl C X.env) fp) elt (tE (fun _ _ => False) l.lc X.K fe)) (hc : X.calm = true) (hs : ∀ x, foldedSetIterable iter X.env x = pure x := by intro _; rfl) :
    PE X (.ListComp elt [⟨tg, iter, ifs, 0⟩] scope pos) (tE W l X.K (fComp it b c fe (own.map (·.2)))) :=
  PE.imp (pe_lc hc hN hi ok hg ht he hs) fun _ _ _ h => lc_read hgb h
/-- x = [..] on one line -/
theorem es_setLc (i : Nat) {y : Str} {py spos : Pos} {elt tg iter : Expr} {ifs : List Expr} {scope : Scope} {own : List (Str × Nat)} {g : TG} {b : Bd} {it : F (List D)} {c : F Bool} {fe : F D} (hN : X.N.Nodup) (hi : PI X tg iter (tIc W X.K it)) (ok : BlkOk X.N X.env.scope scope own)
    (hgb : TGok X.K (own.map (·.2)) g b)
    (hg : ∀ (s : Shared) (H : Hp) (C : Addr) (cl : List (Str × Addr)) (fp : List Addr), PG (X.blk s H scope (compEnvC scope cl C X.env) fp) tg g) (ht : ∀ (s : Shared) (H : Hp) (C : Addr) (cl : List (Str × Addr)) (fp : List Addr), PTs (X.blk s H scope (compEnvC scope cl C X.env) fp) ifs (tTs X.K c))
    (he : ∀ (s : Shared) (H : Hp) (C : Addr) (cl : List (Str × Addr)) (fp : List Addr), PE (X.blk s H scope (compEnvC scope cl C X.env) fp) elt (tE (fun _ _ => False) .mu X.K fe)) (hc : X.calm = true)
    (hsw : swapsWith (.ListComp elt [⟨tg, iter, ifs, 0⟩] scope pos) (some (.Name y py)) spos.line X.env = pure true) (hy : X.N[i]? = some y := by rfl) (hyl : X.env.scope.names.lookup y = some .local := by rfl) (hs : ∀ x, foldedSetIterable iter X.env x = pure x := by intro _; rfl) :
    PS X (.Assign [.Name y py] (.ListComp elt [⟨tg, iter, ifs, 0⟩] scope pos) spos) (tS W X.K (sSetO i (fComp it b c fe (own.map (·.2))))) :=
  PS.imp (ps_setLc hc hN hy hyl hsw hi ok hg ht he hs) fun Dn σ H ⟨S0, H0, P, S, ρ, R, q⟩ => lc_read (l := .top) hgb (tE_S R q fun d S1 H1 v E r q => setO_ok R E r q)

/-! two clauses -/
def compF2 (b : Bd) (c : F Bool) (it1 : F (List D)) (b1 : Bd) (c1 : F Bool) (elt : F D) (vs1 : List Nat) (ρ : En) : List D → Store → Out (List D)
  | [], S => .ok [] S
  | d :: ds, S => match b d ρ with
    | none => .no
    | some ρ1 => (c ρ1 S).bindN fun k S => if k then (it1 ρ1 S).bindN fun es S => (compF b1 c1 elt (wipeE ρ1 vs1) es S).bind fun ys S => (compF2 b c it1 b1 c1 elt vs1 ρ ds S).bind fun r S => .ok (ys ++ r) S else compF2 b c it1 b1 c1 elt vs1 ρ ds S
def fComp2 (it : F (List D)) (b : Bd) (c : F Bool) (it1 : F (List D)) (b1 : Bd) (c1 : F Bool) (elt : F D) (vs vs1 : List Nat) : F D := fun ρ S => (it ρ S).bind fun ds S =>
  (compF2 b c it1 b1 c1 elt vs1 (wipeE ρ vs) ds S).bindN fun ys S => if okLen ys.length then .ok (.lst ys) S else .no
theorem it_any {J : It} {n : Nat} {G : Hp → Prop} {Y : Nat → Hp → V → Hp → Prop} (w : Walk J n G Y) {H1 : Hp} {Qd : Hp → Prop} {Bo : (Hp → Prop) → V → Hp → Prop} (Pv : Nat → Hp → Prop) (h0 : Pv 0 H1) (hG : ∀ i H, i ≤ n → Pv i H → G H)
    (hs : ∀ i x H H', i < n → Pv i H → Y i H x H' → Bo (Pv (i + 1)) x H') (hd : ∀ H, Pv n H → Qd H) :
    ∃ W : Nat → Nat → Hp → Prop, (∃ m, W 0 m H1) ∧ ∀ i m H, W i m H →
      (J.stop i H ∧ Qd H) ∨ (J.go i H ∧ ∃ Nx : Hp → Prop, (∀ H', Nx H' → ∃ m', m' < m ∧ W (i + 1) m' H') ∧ ∀ x H', J.yld i H x H' → Bo Nx x H') := by
  refine ⟨fun i m H => m = n - i ∧ i ≤ n ∧ Pv i H, ⟨n, by simp, Nat.zero_le _, h0⟩, ?_⟩
  rintro i m H ⟨rfl, hi, p⟩
  have q := hG i H hi p
  by_cases hlt : i < n
  · exact .inr ⟨w.goes i H hlt q, Pv (i + 1), fun H' p' => ⟨n - (i + 1), by omega, rfl, hlt, p'⟩, fun x H' y => hs i x H H' hlt p (w.yields i H x H' hlt q y)⟩
  · have e : i = n := by omega
    subst e
    exact .inl ⟨w.stops H q, hd H p⟩
/-- what stands at any time within a comprehension -/
structure LcSt (K : PySem.W.Frag) (l : Lvl) (P : Addr → Prop) (S : Store) (H0 H : Hp) (S1 : Store) (H1 : Hp) (Dp : Addr) (S' : Store) (acc : List D) (Hc : Hp) : Prop where
  kp : Kp P H1 Hc
  evo : Evo K S1 H1 S' Hc
  lst : ∃ vacc, Hc Dp = some (.lst vacc) ∧ RepL K (fun a => avo P S H0 H l a ∨ a = Dp) Hc acc vacc
section
variable {K : PySem.W.Frag} {P : Addr → Prop} {S S1 S2 S3 S4 : Store} {H0 H H1 H2 H3 H4 : Hp} {Dp : Addr} {acc : List D} {S0 : Store} {ρ ρ1 : En} {σ σ1 : L2.St}
theorem LcSt.step (T : LcSt K l P S H0 H S1 H1 Dp S2 acc H2) (R : Rel K S0 H0 P S ρ σ H) (E : Evo K S H S1 H1) (hD : H1 Dp = none) (e : Evo K S2 H2 S3 H3) : LcSt K l P S H0 H S1 H1 Dp S3 acc H3 := by
  have R1 := R.step E
  obtain ⟨vacc, h1, h2⟩ := T.lst
  have EE := T.evo.trans e
  have hS : S2 Dp = none := (T.evo.dom Dp).mpr (Classical.byContradiction fun z => R1.pH Dp (R1.pS Dp z) hD)
  refine ⟨EE.kp.mono fun a z => R1.pS a z, EE, vacc, e.kp.keep _ _ h1 fun z => z hS, RepL.kp (e.kp.mono fun a z => .inl (av_pS (l := l) R a ((dS_of E.dom a).mp ((dS_of T.evo.dom a).mp z)))) h2⟩
theorem LcSt.push (T : LcSt K l P S H0 H S1 H1 Dp S3 acc H3) (R : Rel K S0 H0 P S ρ σ H) (E : Evo K S H S1 H1) (hD : H1 Dp = none) (e : Evo K S3 H3 S4 H4) {y : D} {vy : V} {P2 : Addr → Prop} (hP2 : ∀ a, P a ∨ a = Dp → P2 a) (ry : RepAt K P2 S3 H0 H3 H4 y vy l.lc)
    (Rc : Rel K S0 H0 (fun a => P a ∨ a = Dp) S3 ρ1 σ1 H3) (hown : ∀ (j : Nat) (d : D), ρ1[j]? = some (.own d) → σ1[j]? ≠ some (some (.ref Dp))) : ∃ vacc, H4 Dp = some (.lst vacc) ∧ vacc.length = acc.length ∧
    LcSt K l P S H0 H S1 H1 Dp S4 (acc ++ [y]) (upd H4 Dp (.lst (vacc ++ [vy]))) ∧ Rel K S0 H0 (fun a => P a ∨ a = Dp) S4 ρ1 σ1 (upd H4 Dp (.lst (vacc ++ [vy]))) := by
  have R1 := R.step E
  have T4 := T.step R E hD e
  obtain ⟨vacc, h1, h2⟩ := T4.lst
  have h0D : H0 Dp = none := Classical.byContradiction fun z => R1.dom0 Dp z hD
  have hS : S4 Dp = none := (T4.evo.dom Dp).mpr (Classical.byContradiction fun z => R1.pH Dp (R1.pS Dp z) hD)
  have hD3 : H3 Dp ≠ none := by obtain ⟨_, z, _⟩ := T.lst; rw [z]; simp
  have Rw := (Rc.step e).writeP (o := .lst (vacc ++ [vy])) (.inr rfl) h1 h0D hS hown
  refine ⟨vacc, h1, h2.len, ⟨Kp.then_ (grow_new hD) T4.kp (kp_upd (.inr rfl) h1), ⟨⟨fun a o h n t => ?_, fun a xs h => ?_, fun a o u h => ?_, fun a h => ?_, fun a φ h => by rw [upd_ne (fun z => by rw [z, hD] at h; cases h)]; exact T4.evo.kp.ext a φ h⟩, T4.evo.dom, fun h => Rw.st⟩, _, upd_same, ?_⟩, Rw⟩
  · rw [upd_ne (fun z => by rw [z, hD] at h; cases h)]; exact T4.evo.kp.keep a o h n t
  · rw [upd_ne (fun z => by rw [z, hD] at h; cases h)]; exact T4.evo.kp.tup a xs h
  · rw [upd_ne (fun z => by rw [z, hD] at h; cases h)]; exact T4.evo.kp.frz a o u h
  · exact (kp_upd (A := fun a => a = Dp) rfl h1).dom a (T4.evo.kp.dom a h)
  · have ry2 := rep_lc (P := P) (S := S) (H := H) (Dp := Dp) ry hP2 R.pS (fun a z => T.evo.kp.dom a (R1.dom0 a z)) (fun a z => T.evo.kp.dom a (E.kp.dom a z)) hD3
    exact RepL.kp (kp_upd (.inr rfl) h1) (h2.append (.one ry2))
end
def okApp (acc : List D) (o : Out (List D)) : Out D := o.bindN fun ys S => if okLen (acc ++ ys).length then .ok (.lst (acc ++ ys)) S else .no
theorem okApp_no {acc : List D} {l : Lvl} {P : Addr → Prop} {S : Store} {H0 H : Hp} {Q : VK} {o : Out (List D)} (q : OutE l X.K W P S H0 H Q (okApp acc o)) : ∃ ys S', o = .ok ys S' ∧ okLen (acc ++ ys).length = true := by
  cases o with
  | ok ys S' =>
    refine ⟨ys, S', rfl, ?_⟩
    unfold okApp at q
    rw [Out.bindN_ok] at q
    split at q
    · assumption
    · exact q.elim
  | ex e S' => exact q.elim
  | no => exact q.elim
theorem lc_read2 {g g1 : TG} {b b1 : Bd} {it it1 : F (List D)} {c c1 : F Bool} {fe : F D} {vs vs1 : List Nat} {σ : L2.St} {H : Hp} {Q : VK} (hgb : TGok X.K vs g b) (hgb1 : TGok X.K vs1 g1 b1) (hsub : ∀ i ∈ vs1, i ∈ vs) (h : tE W l X.K (fComp2 it b c it1 b1 c1 fe vs vs1) σ H Q) :
    tLc2 (tIc W X.K it) g (tTs X.K c) (tI (fun _ _ => False) X.K it1) g1 (tTs X.K c1) (tE (fun _ _ => False) l.lc X.K fe) vs vs1 σ H Q := by
  obtain ⟨S0, H0, P, S, ρ, R, q⟩ := h
  refine ⟨S0, H0, P, S, ρ, R, ?_⟩
  unfold fComp2 at q
  cases e : it ρ S with
  | ex x S1 => rw [e] at q; exact q
  | no => rw [e] at q; exact q
  | ok ds S1 =>
    rw [e, Out.bind_ok] at q
    intro H1 J E ⟨Y, w, hY⟩ Dp hD
    have R1 := R.step E
    have Rw := R1.wipe vs
    have hown : ∀ (j : Nat) (d : D), (wipeE ρ vs)[j]? = some (.own d) → (L2.wipe σ vs)[j]? ≠ some (some (.ref Dp)) := fun j d h1 h2 => by
      obtain ⟨p, g1, g2, _⟩ := Rw.own j d h1
      rw [h2] at g1; cases g1
      exact Rw.pH _ g2 hD
    have growD : Grow P (fun a => P a ∨ a = Dp) H1 := grow_new hD
    have q : OutE l X.K W P S H0 H Q (okApp [] (compF2 b c it1 b1 c1 fe vs1 (wipeE ρ vs) ds S1)) := q
    refine it_any w (Bo := fun Nx x H' => g x (L2.wipe σ vs) H' _) (fun i Hc => ∃ S' acc, Rel X.K S0 H0 (fun a => P a ∨ a = Dp) S' (wipeE ρ vs) (L2.wipe σ vs) Hc ∧ LcSt X.K l P S H0 H S1 H1 Dp S' acc Hc ∧
      OutE l X.K W P S H0 H Q (okApp acc (compF2 b c it1 b1 c1 fe vs1 (wipeE ρ vs) (ds.drop i) S'))) ?_ ?_ ?_ ?_
    · exact ⟨S1, [], Rw.fresh hD, ⟨Kp.of_same (same_upd hD), .alloc hD, [], upd_same, .nil⟩, by simpa using q⟩
    · rintro i Hc _ ⟨S', acc, _, T, _⟩
      exact T.evo.kp
    · rintro i x Ha Hb hlt ⟨S', acc, Rc, T, q⟩ y
      obtain ⟨sm, hx⟩ := hY i Ha x Hb hlt T.evo.kp y
      obtain ⟨d, hd, rx⟩ := hx _ growD
      have ed : ds.drop i = d :: ds.drop (i + 1) := by
        rw [List.drop_eq_getElem_cons hlt]
        rw [List.getElem?_eq_getElem hlt] at hd
        cases hd; rfl
      rw [ed] at q
      unfold compF2 at q
      have Rb := Rc.step (.of_same sm)
      have Tb := T.step R E hD (.of_same sm)
      cases eb : b d (wipeE ρ vs) with
      | none => rw [eb] at q; exact q.elim
      | some ρ1 =>
        rw [eb] at q
        simp only at q
        refine hgb _ _ _ _ _ _ _ d x ρ1 _ Rb rx eb fun σ1 wσ oσ R2 => ⟨by rw [wσ, wipe_wipe vs vs fun _ h => h], ?_⟩
        refine ⟨S0, H0, _, S', ρ1, R2, ?_⟩
        cases ec : c ρ1 S' with
        | ex x S3 => rw [ec] at q; exact q.elim
        | no => rw [ec] at q; exact q.elim
        | ok kk S3 =>
          rw [ec, Out.bindN_ok] at q
          intro H3 E3
          have R3 := R2.step E3
          have T3 := Tb.step R E hD E3
          cases kk with
          | false => exact iteF ⟨S3, acc, Rb.step E3, T3, q⟩
          | true =>
            refine iteT ⟨S0, H0, _, S3, ρ1, R3, ?_⟩
            have q : OutE l X.K W P S H0 H Q (okApp acc ((it1 ρ1 S3).bindN fun es S => (compF b1 c1 fe (wipeE ρ1 vs1) es S).bind fun ys S => (compF2 b c it1 b1 c1 fe vs1 (wipeE ρ vs) (ds.drop (i + 1)) S).bind fun r S => .ok (ys ++ r) S)) := q
            cases ei : it1 ρ1 S3 with
            | ex x S4 => rw [ei] at q; exact q.elim
            | no => rw [ei] at q; exact q.elim
            | ok es S4 =>
              rw [ei, Out.bindN_ok] at q
              intro H4 J1 E4 ⟨Y1, w1, hY1⟩
              have R4 := R3.step E4
              have T4 := T3.step R E hD E4
              have Ro4 := (Rb.step E3).step E4
              have R4w := R4.wipe vs1
              have hown1 : ∀ (j : Nat) (d : D), (wipeE ρ1 vs1)[j]? = some (.own d) → (L2.wipe σ1 vs1)[j]? ≠ some (some (.ref Dp)) := fun j d h1 h2 => by
                have key : ∀ ws : List Nat, ((wipeE ρ1 ws)[j]? = some (.own d) → ρ1[j]? = some (.own d) ∧ (L2.wipe σ1 ws)[j]? = σ1[j]?) := by
                  intro ws
                  induction ws with
                  | nil => exact fun h => ⟨h, rfl⟩
                  | cons w ws ih =>
                    intro h
                    rcases get_set (show ((wipeE ρ1 ws).set w .no)[j]? = _ from h) with ⟨_, z⟩ | ⟨ne, h⟩
                    · cases z
                    · obtain ⟨g1, g2⟩ := ih h
                      refine ⟨g1, ?_⟩
                      show ((L2.wipe σ1 ws).set w none)[j]? = _
                      rw [List.getElem?_set_ne ne]
                      exact g2
                obtain ⟨g1, g2⟩ := key vs1 h1
                obtain ⟨g3, g4⟩ := oσ j d g1
                exact hown j d g3 (by rw [← g4, ← g2]; exact h2)
              refine it_any w1 (Bo := fun Nx x H' => g1 x (L2.wipe σ1 vs1) H' _) (fun i1 Hc => ∃ S' acc, Rel X.K S0 H0 (fun a => P a ∨ a = Dp) S' (wipeE ρ1 vs1) (L2.wipe σ1 vs1) Hc ∧ Rel X.K S0 H0 (fun a => P a ∨ a = Dp) S' (wipeE ρ vs) (L2.wipe σ vs) Hc ∧ Kp (fun a => P a ∨ a = Dp) H4 Hc ∧ LcSt X.K l P S H0 H S1 H1 Dp S' acc Hc ∧
                OutE l X.K W P S H0 H Q (okApp acc ((compF b1 c1 fe (wipeE ρ1 vs1) (es.drop i1) S').bind fun ys S => (compF2 b c it1 b1 c1 fe vs1 (wipeE ρ vs) (ds.drop (i + 1)) S).bind fun r S => .ok (ys ++ r) S))) ?_ ?_ ?_ ?_
              · exact ⟨S4, acc, R4w, Ro4, .refl, T4, by simpa using q⟩
              · rintro j Hc _ ⟨S', acc, _, _, k, _⟩
                exact k
              · rintro j x1 Hj Hk hlt1 ⟨S5, acc1, Rj, Ro5, kj, Tj, q⟩ y1
                obtain ⟨sm1, hx1⟩ := hY1 j Hj x1 Hk hlt1 kj y1
                obtain ⟨d1, hd1, rx1⟩ := hx1 _ .refl
                have ed1 : es.drop j = d1 :: es.drop (j + 1) := by
                  rw [List.drop_eq_getElem_cons hlt1]
                  rw [List.getElem?_eq_getElem hlt1] at hd1
                  cases hd1; rfl
                rw [ed1] at q
                unfold compF at q
                have Rk := Rj.step (.of_same sm1)
                have Ro5 := Ro5.step (.of_same sm1)
                have Tk := Tj.step R E hD (.of_same sm1)
                have kk1 : Kp (fun a => P a ∨ a = Dp) H4 Hk := kj.trans (.of_same sm1)
                cases eb1 : b1 d1 (wipeE ρ1 vs1) with
                | none => rw [eb1] at q; exact q.elim
                | some ρ2 =>
                  rw [eb1] at q
                  simp only at q
                  refine hgb1 _ _ _ _ _ _ _ d1 x1 ρ2 _ Rk rx1 eb1 fun σ2 wσ2 _ R5 => ⟨by rw [wσ2, wipe_wipe vs1 vs1 fun _ h => h], ?_⟩
                  refine ⟨S0, H0, _, S5, ρ2, R5, ?_⟩
                  cases ec1 : c1 ρ2 S5 with
                  | ex x S3 => rw [ec1] at q; exact q.elim
                  | no => rw [ec1] at q; exact q.elim
                  | ok kk S6 =>
                    rw [ec1, Out.bindN_ok] at q
                    intro H6 E6
                    have R6 := R5.step E6
                    have T6 := Tk.step R E hD E6
                    have k6 : Kp (fun a => P a ∨ a = Dp) H4 H6 := kk1.trans (Rk.kpP E6)
                    cases kk with
                    | false => exact iteF ⟨S6, acc1, Rk.step E6, Ro5.step E6, k6, T6, q⟩
                    | true =>
                      refine iteT ⟨S0, H0, _, S6, ρ2, R6, ?_⟩
                      have q : OutE l X.K W P S H0 H Q (okApp acc1 (((fe ρ2 S6).bindN fun y S => (compF b1 c1 fe (wipeE ρ1 vs1) (es.drop (j + 1)) S).bind fun r S => .ok (y :: r) S).bind fun ys S => (compF2 b c it1 b1 c1 fe vs1 (wipeE ρ vs) (ds.drop (i + 1)) S).bind fun r S => .ok (ys ++ r) S)) := q
                      cases ee : fe ρ2 S6 with
                      | ex x S4 => rw [ee] at q; exact q.elim
                      | no => rw [ee] at q; exact q.elim
                      | ok y S7 =>
                        rw [ee, Out.bindN_ok] at q
                        intro H7 vy E7 ry
                        obtain ⟨vacc, hl7, hlen, T7, R7⟩ := T6.push R E hD E7 (fun a z => z) ry (Rk.step E6) hown1
                        obtain ⟨vacc', hl7', _, T7', R7'⟩ := T6.push R E hD E7 (fun a z => z) ry (Ro5.step E6) hown
                        rw [hl7] at hl7'; cases hl7'
                        obtain ⟨ys, Sx, eo, hz⟩ := okApp_no q
                        refine ⟨vacc, hl7, ?_, S7, acc1 ++ [y], R7, R7', k6.trans (((Rk.step E6).kpP E7).trans (kp_upd (.inr rfl) hl7)), T7, ?_⟩
                        · have h1 := okLen_line hz
                          have h2 : ys ≠ [] := by
                            intro z
                            subst z
                            cases eF : compF b1 c1 fe (wipeE ρ1 vs1) (es.drop (j + 1)) S7 with
                            | ok r S8 =>
                              rw [eF, Out.bind_ok, Out.bind_ok] at eo
                              cases eF2 : compF2 b c it1 b1 c1 fe vs1 (wipeE ρ vs) (ds.drop (i + 1)) S8 with
                              | ok r2 S9 => rw [eF2, Out.bind_ok] at eo; simp at eo
                              | ex _ _ => rw [eF2] at eo; cases eo
                              | no => rw [eF2] at eo; cases eo
                            | ex _ _ => rw [eF] at eo; cases eo
                            | no => rw [eF] at eo; cases eo
                          have h3 : 0 < ys.length := List.length_pos_iff.mpr h2
                          rw [List.length_append] at h1
                          omega
                        · cases eF : compF b1 c1 fe (wipeE ρ1 vs1) (es.drop (j + 1)) S7 with
                          | ok r S8 =>
                            rw [eF, Out.bind_ok, Out.bind_ok] at q
                            rw [Out.bind_ok]
                            cases eF2 : compF2 b c it1 b1 c1 fe vs1 (wipeE ρ vs) (ds.drop (i + 1)) S8 with
                            | ok r2 S9 => rw [eF2, Out.bind_ok] at q; simpa [okApp] using q
                            | ex _ _ => rw [eF2] at q; exact q.elim
                            | no => rw [eF2] at q; exact q.elim
                          | ex _ _ => rw [eF] at q; exact q.elim
                          | no => rw [eF] at q; exact q.elim
              · rintro Hc ⟨S5, acc1, Rj, Ro5, kj, Tj, q⟩
                rw [List.drop_length] at q
                refine ⟨S5, acc1, Ro5, Tj, ?_⟩
                have q : OutE l X.K W P S H0 H Q (okApp acc1 ((compF2 b c it1 b1 c1 fe vs1 (wipeE ρ vs) (ds.drop (i + 1)) S5).bind fun r S => .ok ([] ++ r) S)) := q
                cases eF2 : compF2 b c it1 b1 c1 fe vs1 (wipeE ρ vs) (ds.drop (i + 1)) S5 with
                | ok r2 S9 => rw [eF2, Out.bind_ok] at q; simpa [okApp] using q
                | ex _ _ => rw [eF2] at q; exact q.elim
                | no => rw [eF2] at q; exact q.elim
    · rintro Hc ⟨S', acc, Rc, T, q⟩
      rw [List.drop_length] at q
      have EE := E.trans T.evo
      obtain ⟨vacc, hl, ra⟩ := T.lst
      obtain ⟨ys, Sx, eo, hz⟩ := okApp_no q
      have q : OutE l X.K W P S H0 H Q (if okLen (acc ++ []).length then .ok (.lst (acc ++ [])) S' else .no) := q
      cases eo
      rw [if_pos hz] at q
      rw [List.append_nil] at q
      have ra := RepL.av (fun a (z : avo P S H0 H l a) => .inl z) ra
      refine q Hc (.ref Dp) EE (.of (rL.mpr ⟨Dp, vacc, rfl, fun z => ?_, hl, ra⟩) fun et => ?_)
      · exact E.kp.dom Dp (av_dom R Dp z) hD
      · subst et
        exact fun _ => ⟨Dp, rfl, Classical.byContradiction fun z => E.kp.dom Dp z hD, vacc, hl, ra⟩
end
end CB
set_option Elab.async false
set_option linter.all false
set_option maxRecDepth 100000
namespace CB
open PySem PySem.Spec PyProof.Rows L2

section
variable {X : Cx} {W : Wx} {l : Lvl} {pos : Pos}
theorem ev_lc2 {elt tg iter tg1 iter1 : Expr} {ifs ifs1 : List Expr} {scope : Scope} {own : List (Str × Nat)} {vs1 : List Nat} {g g1 : TG} {b b1 : Bd} {it it1 : F (List D)} {c c1 : F Bool} {fe : F D} (hN : X.N.Nodup) (hi : PI X tg iter (tIc W X.K it)) (ok : BlkOk X.N X.env.scope scope own) (hv : ∀ i ∈ vs1, i ∈ own.map (·.2))
    (hgb : TGok X.K (own.map (·.2)) g b) (hgb1 : TGok X.K vs1 g1 b1)
    (hg : ∀ (s : Shared) (H : Hp) (C : Addr) (cl : List (Str × Addr)) (fp : List Addr), PG (X.blk s H scope (compEnvC scope cl C X.env) fp) tg g) (ht : ∀ (s : Shared) (H : Hp) (C : Addr) (cl : List (Str × Addr)) (fp : List Addr), PTs (X.blk s H scope (compEnvC scope cl C X.env) fp) ifs (tTs X.K c))
    (hi1 : ∀ (s : Shared) (H : Hp) (C : Addr) (cl : List (Str × Addr)) (fp : List Addr), PI (X.blk s H scope (compEnvC scope cl C X.env) fp) tg1 iter1 (tI (fun _ _ => False) X.K it1))
    (hg1 : ∀ (s : Shared) (H : Hp) (C : Addr) (cl : List (Str × Addr)) (fp : List Addr), PG (X.blk s H scope (compEnvC scope cl C X.env) fp) tg1 g1) (ht1 : ∀ (s : Shared) (H : Hp) (C : Addr) (cl : List (Str × Addr)) (fp : List Addr), PTs (X.blk s H scope (compEnvC scope cl C X.env) fp) ifs1 (tTs X.K c1))
    (he : ∀ (s : Shared) (H : Hp) (C : Addr) (cl : List (Str × Addr)) (fp : List Addr), PE (X.blk s H scope (compEnvC scope cl C X.env) fp) elt (tE (fun _ _ => False) l.lc X.K fe)) (hc : X.calm = true) (hs : ∀ x, foldedSetIterable iter X.env x = pure x := by intro _; rfl) (hs1 : ∀ env x, foldedSetIterable iter1 env x = pure x := by intro _ _; rfl) :
    PE X (.ListComp elt [⟨tg, iter, ifs, 0⟩, ⟨tg1, iter1, ifs1, 0⟩] scope pos) (tE W l X.K (fComp2 it b c it1 b1 c1 fe (own.map (·.2)) vs1)) :=
  PE.imp (pe_lc2 hc hN hi ok hv hg ht hi1 hg1 ht1 he hs hs1) fun _ _ _ h => lc_read2 hgb hgb1 hv h
theorem es_setLc2 (i : Nat) {y : Str} {py spos : Pos} {elt tg iter tg1 iter1 : Expr} {ifs ifs1 : List Expr} {scope : Scope} {own : List (Str × Nat)} {vs1 : List Nat} {g g1 : TG} {b b1 : Bd} {it it1 : F (List D)} {c c1 : F Bool} {fe : F D} (hN : X.N.Nodup) (hi : PI X tg iter (tIc W X.K it)) (ok : BlkOk X.N X.env.scope scope own) (hv : ∀ i ∈ vs1, i ∈ own.map (·.2))
    (hgb : TGok X.K (own.map (·.2)) g b) (hgb1 : TGok X.K vs1 g1 b1)
    (hg : ∀ (s : Shared) (H : Hp) (C : Addr) (cl : List (Str × Addr)) (fp : List Addr), PG (X.blk s H scope (compEnvC scope cl C X.env) fp) tg g) (ht : ∀ (s : Shared) (H : Hp) (C : Addr) (cl : List (Str × Addr)) (fp : List Addr), PTs (X.blk s H scope (compEnvC scope cl C X.env) fp) ifs (tTs X.K c))
    (hi1 : ∀ (s : Shared) (H : Hp) (C : Addr) (cl : List (Str × Addr)) (fp : List Addr), PI (X.blk s H scope (compEnvC scope cl C X.env) fp) tg1 iter1 (tI (fun _ _ => False) X.K it1))
    (hg1 : ∀ (s : Shared) (H : Hp) (C : Addr) (cl : List (Str × Addr)) (fp : List Addr), PG (X.blk s H scope (compEnvC scope cl C X.env) fp) tg1 g1) (ht1 : ∀ (s : Shared) (H : Hp) (C : Addr) (cl : List (Str × Addr)) (fp : List Addr), PTs (X.blk s H scope (compEnvC scope cl C X.env) fp) ifs1 (tTs X.K c1))
    (he : ∀ (s : Shared) (H : Hp) (C : Addr) (cl : List (Str × Addr)) (fp : List Addr), PE (X.blk s H scope (compEnvC scope cl C X.env) fp) elt (tE (fun _ _ => False) .mu X.K fe)) (hc : X.calm = true)
    (hsw : swapsWith (.ListComp elt [⟨tg, iter, ifs, 0⟩, ⟨tg1, iter1, ifs1, 0⟩] scope pos) (some (.Name y py)) spos.line X.env = pure true) (hy : X.N[i]? = some y := by rfl) (hyl : X.env.scope.names.lookup y = some .local := by rfl) (hs : ∀ x, foldedSetIterable iter X.env x = pure x := by intro _; rfl) (hs1 : ∀ env x, foldedSetIterable iter1 env x = pure x := by intro _ _; rfl) :
    PS X (.Assign [.Name y py] (.ListComp elt [⟨tg, iter, ifs, 0⟩, ⟨tg1, iter1, ifs1, 0⟩] scope pos) spos) (tS W X.K (sSetO i (fComp2 it b c it1 b1 c1 fe (own.map (·.2)) vs1))) :=
  PS.imp (ps_setLc2 hc hN hy hyl hsw hi ok hv hg ht hi1 hg1 ht1 he hs hs1) fun Dn σ H ⟨S0, H0, P, S, ρ, R, q⟩ => lc_read2 (l := .top) hgb hgb1 hv (tE_S R q fun d S1 H1 v E r q => setO_ok R E r q)

/-! while -/
def whileS (c : F Bool) (body : FS) : Nat → FS
  | 0, _, _ => .no
  | n + 1, ρ, S => (c ρ S).toS fun k S => if k then (match body ρ S with
      | .nx ρ S => whileS c body n ρ S
      | .ct ρ S => whileS c body n ρ S
      | .bk ρ S => .nx ρ S
      | o => o) else .nx ρ S
def sWhile (fuel : En → Store → Nat) (c : F Bool) (body : FS) : FS := fun ρ S => whileS c body (fuel ρ S) ρ S
theorem es_while (fuel : En → Store → Nat) {t : Expr} {body : List Stmt} {c : F Bool} {fb : FS} (hc : PT X t (tT W X.K c)) (hb : PSs X body (tS W X.K fb)) (hp : PassesOwn (model X.prog X.w) X.A X.env X.xe) : PS X (.While t body [] pos) (tS W X.K (sWhile fuel c fb)) := by
  refine PS.imp (ps_while hp hc hb) fun Dn σ H ⟨S0, H0, P, S, ρ, R, q⟩ => ?_
  refine ⟨fun m σ' H' => ∃ P' S' ρ', Rel X.K S0 H0 P' S' ρ' σ' H' ∧ Good X.K W S0 H0 P' H' Dn (whileS c fb m ρ' S'), ⟨_, P, S, ρ, R, q⟩, ?_⟩
  rintro m σ' H' ⟨P', S', ρ', R', q⟩
  cases m with
  | zero => exact q.elim
  | succ n =>
    unfold whileS at q
    refine tT_S R' q fun k S1 H1 E q => ?_
    have R1 := R'.step E
    have q := q.mono .refl (R'.kpP E)
    cases k with
    | false => exact iteF (q P' σ' H1 .refl .refl R1)
    | true =>
      refine iteT ⟨fun σ2 H2 => ∃ P' S' ρ', Rel X.K S0 H0 P' S' ρ' σ2 H2 ∧ Good X.K W S0 H0 P' H2 Dn (whileS c fb n ρ' S'), fun σ2 H2 h => ⟨n, Nat.lt_succ_self n, h⟩, S0, H0, P', S1, ρ', R1, ?_⟩
      have q : Good X.K W S0 H0 P' H1 Dn (match fb ρ' S1 with
        | .nx ρ S => whileS c fb n ρ S
        | .ct ρ S => whileS c fb n ρ S
        | .bk ρ S => .nx ρ S
        | o => o) := q
      cases eo : fb ρ' S1 with
      | nx ρ2 S2 => rw [eo] at q; exact fun P2 σ2 H2 g k R2 => ⟨P2, S2, ρ2, R2, q.mono g k⟩
      | ct ρ2 S2 => rw [eo] at q; exact fun P2 σ2 H2 g k R2 => ⟨P2, S2, ρ2, R2, q.mono g k⟩
      | bk ρ2 S2 => rw [eo] at q; exact q
      | rt d S2 => rw [eo] at q; exact q
      | ex d S2 => rw [eo] at q; exact q
      | no => rw [eo] at q; exact q
end

/-! defs -/
abbrev Sem1 := List D → Store → Out D
/-- the promise of a def by data (nothing is raised) -/
def spD (K : PySem.W.Frag) (n : Nat) (f : Sem1) : Sp := fun vs H Q _ => vs.length = n ∧ ∃ ds S, RepL K (dS S) H ds vs ∧ StOk K S H ∧ (∀ a, S a ≠ none → H a ≠ none) ∧ match f ds S with
  | .ok d S' => ∀ H' v, Evo K S H S' H' → Rep K (dH H) H' d v → Q v H'
  | _ => False
def runB (N : Nat) (fs : FS) : Sem1 := fun ds S => match fs (ds.map Sl.ro ++ List.replicate (N - ds.length) Sl.no) S with
  | .nx _ S => .ok .non S
  | .rt d S => .ok d S
  | .ex e S => .ex e S
  | _ => .no
section
variable {K : PySem.W.Frag}
theorem rel_start {ds : List D} {vs : List V} {S : Store} {H : Hp} {n : Nat} (r : RepL K (dS S) H ds vs) (st : StOk K S H) (sd : ∀ a, S a ≠ none → H a ≠ none) : Rel K S H (dS S) S (ds.map Sl.ro ++ List.replicate (n - ds.length) Sl.no) (vs.map some ++ List.replicate (n - vs.length) none) H where
  len := by simp [r.len]
  ro := fun i d h => by
    by_cases hi : i < ds.length
    · rw [List.getElem?_append_left (by simpa using hi)] at h
      rw [List.getElem?_map] at h
      cases e : ds[i]? with
      | none => rw [e] at h; cases h
      | some x =>
        rw [e] at h
        cases h
        obtain ⟨v, h1, h2⟩ := r.get e
        refine ⟨v, ?_, h2⟩
        rw [List.getElem?_append_left (by simpa using lt_of_get h1), List.getElem?_map, h1]
        rfl
    · rw [List.getElem?_append_right (by simpa using hi)] at h
      rw [List.getElem?_replicate] at h
      split at h
      · cases h
      · cases h
  own := fun i d h => by
    exfalso
    have hm := List.mem_of_getElem? h
    rcases List.mem_append.mp hm with z | z
    · obtain ⟨x, _, e⟩ := List.mem_map.mp z
      cases e
    · have := List.eq_of_mem_replicate z
      cases this
  inj := fun i j d e p h => by
    exfalso
    have hm := List.mem_of_getElem? h
    rcases List.mem_append.mp hm with z | z
    · obtain ⟨x, _, e⟩ := List.mem_map.mp z
      cases e
    · have := List.eq_of_mem_replicate z
      cases this
  pS := fun a h => h
  pH := sd
  s0 := sd
  st := st
  evo := .refl
variable {P : Program} {w : World} {mg : Str → Option Value} {base : Heap}
/-- a def's promise from its body -/
theorem fn_ok {x qual : Str} {st : Stmt} {f : Addr} {fd : FuncData} {N ps : List Str} {k : Nat} {fs : FS} (F : Fun K x qual st f fd) (S : FnScope N ps (defScope st))
    (hbody : ∀ (cdv : Value) (A : Around) (outer : List Env) (s : Shared) (H : Hp) (E : XK), Room k (A.deeper (envOfC qual (defScope st) s.heap.objs.size f cdv)) →
      PSs (cxOf CX0 P w K mg base N qual (defScope st) f cdv A outer s H E).nox (defBody st) (tS (fun _ _ => False) K fs)) : FnOk P w K mg base CX0 (k + 1) f fd ps (spD K ps.length (runB N.length fs)) := by
  refine F.ok S (fun vs H Q E h => h.1) fun cdv A outer s H vs Q E hr h => ⟨_, hbody cdv A outer s H E hr, ?_⟩
  obtain ⟨hl, ds, Sx, r, st, sd, q⟩ := h
  refine ⟨Sx, H, dS Sx, Sx, _, rel_start (n := N.length) r st sd, ?_⟩
  unfold runB at q
  cases e : fs (ds.map Sl.ro ++ List.replicate (N.length - ds.length) Sl.no) Sx with
  | nx ρ S' => rw [e] at q; exact fun P' σ' H' g k R => q H' .non R.evo (by unfold Rep; rfl)
  | rt d S' => rw [e] at q; exact q
  | bk ρ S' => rw [e] at q; exact q.elim
  | ct ρ S' => rw [e] at q; exact q.elim
  | ex d S' => rw [e] at q; exact q.elim
  | no => rw [e] at q; exact q.elim
/-- another way to say what it does, where it does something -/
theorem FnOk.as {f : Addr} {fd : FuncData} {ps : List Str} {k n : Nat} {sem sem' : Sem1} (F : FnOk P w K mg base CX0 k f fd ps (spD K n sem)) (h : ∀ ds S d S', ds.length = n → sem' ds S = .ok d S' → sem ds S = .ok d S') : FnOk P w K mg base CX0 k f fd ps (spD K n sem') :=
  F.imp fun vs H Q E ⟨hl, ds, S, r, st, sd, q⟩ => ⟨hl, ds, S, r, st, sd, by
    cases e : sem' ds S with
    | ok d S' => rw [e] at q; rw [h ds S d S' (by rw [← r.len]; exact hl) e]; exact q
    | ex d S' => rw [e] at q; exact q.elim
    | no => rw [e] at q; exact q.elim⟩
end
section
variable {X : Cx} {W : Wx} {pos : Pos} {k : Nat} {f : Addr} {fd : FuncData} {ps : List Str} {x : Str} {p : Pos} {e : Expr} {es : List Expr} {n : Nat} {sem : Sem1} {fa : F (List D)}
def fCall (sem : Sem1) (fa : F (List D)) : F D := fun ρ S => (fa ρ S).bind sem
theorem fCall_ok {sem : Sem1} {fa : F (List D)} {ρ : En} {S S1 : Store} {ds : List D} (h : fa ρ S = .ok ds S1) : fCall sem fa ρ S = sem ds S1 := by unfold fCall; rw [h]; rfl
def noEx (o : Out D) : Out D := match o with
  | .ex _ _ => .no
  | o => o
/-- f(..) of a def of one's own that raises nothing -/
theorem ev_call (F : FnOk X.prog X.w X.K X.mg X.base CX0 k f fd ps (spD X.K n sem)) (hr : Room k X.A) (hg : Gl X x) (hm : X.mg x = some (.ref f)) (hk : PySem.W.keepIn X.K (.ref f) = true) (hb : Binds X.K fd ps []) (hn : ps.length = n) (ha : PA X (e :: es) (tA W .any X.K fa))
    (hnl : ∀ ρ S ds S1, fa ρ S = .ok ds S1 → ds.length = n) (hdb : (x == ("__debug__" : Str)) = false := by decide) (he : starEach (e :: es) X.env = (false, eval e X.env) :: starEach es X.env := by rfl) (hpl : (backTo pos (starEach es X.env)).any (·.1) = false := by rfl) :
    PE X (.Call (.Name x p) (e :: es) [] pos) (tE W .fr X.K (fCall (fun ds S => noEx (sem ds S)) fa)) := by
  refine PE.imp (pe_call (dvs := []) F hr hg hm hk hb .nil pass0 ha hdb he hpl) fun σ H Q ⟨S0, H0, P, S, ρ, R, q⟩ => ?_
  refine ⟨S0, H0, P, S, ρ, R, ?_⟩
  cases e1 : fa ρ S with
  | ok ds S1 =>
    rw [fCall_ok e1] at q
    intro H1 vs E r
    have R1 := R.step E
    rw [List.append_nil]
    have r1 : RepL X.K (dS S1) H1 ds vs := RepL.av (fun a z => (dS_of E.dom a).mp z) r
    refine ⟨by rw [r.len]; exact hnl _ _ _ _ e1, ds, S1, r1, R1.st, fun a z => R1.pH a (R1.pS a z), ?_⟩
    cases e2 : sem ds S1 with
    | ok d S2 =>
      rw [e2] at q
      exact fun H' v E2 r2 => q H' v (E.trans E2) (Rep.av (fun a z => E.kp.dom a z) r2)
    | ex x S2 => rw [e2] at q; exact q.elim
    | no => rw [e2] at q; exact q.elim
  | ex x S1 => unfold fCall at q; rw [e1] at q; exact q
  | no => unfold fCall at q; rw [e1] at q; exact q
end
/-- a def of the program by what it does -/
structure Def1 (P : Program) (w : World) (K : PySem.W.Frag) (mg : Str → Option Value) (base : Heap) (x : Str) (k n : Nat) (sem : Sem1) : Prop where
  ex : ∃ f fd ps, FnOk P w K mg base CX0 k f fd ps (spD K n sem) ∧ mg x = some (.ref f) ∧ PySem.W.keepIn K (.ref f) = true ∧ Binds K fd ps [] ∧ ps.length = n
/-- a def as it stands behind the top -/
structure At (K : PySem.W.Frag) (mg : Str → Option Value) (x : Str) (st : Stmt) (ps : List Str) : Prop where
  ex : ∃ f fd, Fun K x x st f fd ∧ mg x = some (.ref f) ∧ Binds K fd ps []
theorem def_mk {P : Program} {w : World} {K : PySem.W.Frag} {mg : Str → Option Value} {base : Heap} {x : Str} {st : Stmt} {N ps : List Str} {fs : FS} (k : Nat) (A : At K mg x st ps) (S : FnScope N ps (defScope st))
    (hbody : ∀ (f : Addr) (cdv : Value) (A : Around) (outer : List Env) (s : Shared) (H : Hp) (E : XK), Room k (A.deeper (envOfC x (defScope st) s.heap.objs.size f cdv)) →
      PSs (cxOf CX0 P w K mg base N x (defScope st) f cdv A outer s H E).nox (defBody st) (tS (fun _ _ => False) K fs)) : Def1 P w K mg base x (k + 1) ps.length (runB N.length fs) := by
  obtain ⟨f, fd, F, hm, hb⟩ := A.ex
  exact ⟨f, fd, ps, fn_ok F S fun cdv A outer s H E hr => hbody f cdv A outer s H E hr, hm, F.kp, hb, rfl⟩
section
variable {X : Cx} {W : Wx} {pos : Pos} {k : Nat} {x : Str} {p : Pos} {e : Expr} {es : List Expr} {n : Nat} {sem : Sem1} {fa : F (List D)}
theorem ev_callD (Dn : Def1 X.prog X.w X.K X.mg X.base x k n sem) (hr : Room k X.A) (hg : Gl X x) (ha : PA X (e :: es) (tA W .any X.K fa))
    (hnl : ∀ ρ S ds S1, fa ρ S = .ok ds S1 → ds.length = n) (hdb : (x == ("__debug__" : Str)) = false := by decide) (he : starEach (e :: es) X.env = (false, eval e X.env) :: starEach es X.env := by rfl) (hpl : (backTo pos (starEach es X.env)).any (·.1) = false := by rfl) :
    PE X (.Call (.Name x p) (e :: es) [] pos) (tE W .fr X.K (fCall (fun ds S => noEx (sem ds S)) fa)) := by
  obtain ⟨f, fd, ps, F, hm, hk, hb, hn⟩ := Dn.ex
  exact ev_call F hr hg hm hk hb hn ha hnl hdb he hpl
end
/-- the built-ins that no module hides -/
structure Bl (mg : Str → Option Value) : Prop where
  len : mg "len" = none
  range : mg "range" = none
  zip : mg "zip" = none
  tuple : mg "tuple" = none
  list : mg "list" = none
  all : mg "all" = none
  sum : mg "sum" = none
  sorted : mg "sorted" = none
  isinstance : mg "isinstance" = none
  int : mg "int" = none
  bool : mg "bool" = none
  str : mg "str" = none
  dict : mg "dict" = none
  min : mg "min" = none
  enumerate : mg "enumerate" = none
  any : mg "any" = none
  max : mg "max" = none
  abs : mg "abs" = none
  set : mg "set" = none
  ValueError : mg "ValueError" = none
end CB
set_option Elab.async false
set_option linter.all false
set_option maxRecDepth 100000
namespace CB
open PySem PySem.Spec PyProof.Rows L2

section
variable {K : PySem.W.Frag}
theorem RepL.one' {A : Addr → Prop} {H : Hp} {d : D} {vs : List V} (h : RepL K A H [d] vs) : ∃ v, vs = [v] ∧ Rep K A H d v := by
  obtain ⟨v, r, rfl, h1, h2⟩ := h.uncons
  unfold RepL at h2
  subst h2
  exact ⟨v, rfl, h1⟩
theorem RepL.two' {A : Addr → Prop} {H : Hp} {d e : D} {vs : List V} (h : RepL K A H [d, e] vs) : ∃ v w, vs = [v, w] ∧ Rep K A H d v ∧ Rep K A H e w := by
  obtain ⟨v, r, rfl, h1, h2⟩ := h.uncons
  obtain ⟨w, rfl, h3⟩ := h2.one'
  exact ⟨v, w, rfl, h1, h3⟩
/-- an answer that is no object -/
theorem GN.flat {t : Bool} {r : List V → Hp → VK → Prop} {g : List D → Option D} (h : ∀ A vs ds d H (Q : VK), RepL K A H ds vs → g ds = some d → flat1 d = true ∧ ((∀ v, Rep K A H d v → Q v H) → r vs H Q)) : GN K t r g := by
  intro A vs ds d H Q hA hx e q
  obtain ⟨f, h⟩ := h A vs ds d H Q hx e
  exact h fun v rv => q H v (Same.refl H) rv fun _ => noFT (by cases d <;> simp [flat1, isC] at f ⊢)

/-! len -/
def gLen : List D → Option D
  | [.tup xs] => some (.int xs.length)
  | [.lst xs] => some (.int xs.length)
  | [.fro xs] => some (.int xs.length)
  | [.dK ks _] => some (.int ks.length)
  | [.dT ks _] => some (.int ks.length)
  | [.str z] => if okLen z.length then some (.int z.length) else none
  | _ => none
def rLen (K : PySem.W.Frag) : List V → Hp → VK → Prop := fun xs H Q => (∃ p ys, xs = [.ref p] ∧ (SqL K H p ys ∨ SqT K H p ys) ∧ Q (.int ys.length) H) ∨ (∃ z, xs = [.str z] ∧ z.length ≤ sizeLine ∧ Q (.int z.length) H) ∨
  (∃ a kvs, xs = [V.ref a] ∧ H a = some (.dK kvs) ∧ Q (.int kvs.length) H) ∨ rLenT xs H Q
theorem cr_len {X : Cx} : CallR X (.builtin "len") (rLen X.K) := call_len_seq.or (call_len_str.or (call_lenD.or call_len_dT))
theorem gn_len {t : Bool} : GN K t (rLen K) gLen := by
  refine GN.flat fun A vs ds d H Q hx e => ?_
  unfold gLen at e
  split at e
  · cases e
    obtain ⟨v, rfl, h⟩ := hx.one'
    obtain ⟨a, us, rfl, h1, h2⟩ := rT.mp h
    exact ⟨rfl, fun q => .inl ⟨a, us, rfl, .inr (.of h1), q _ (CB.rI.mpr (by rw [h2.len]))⟩⟩
  · cases e
    obtain ⟨v, rfl, h⟩ := hx.one'
    obtain ⟨a, us, rfl, _, h1, h2⟩ := rL.mp h
    exact ⟨rfl, fun q => .inl ⟨a, us, rfl, .inl (.of h1), q _ (CB.rI.mpr (by rw [h2.len]))⟩⟩
  · cases e
    obtain ⟨v, rfl, h⟩ := hx.one'
    obtain ⟨a, us, rfl, h1, h2⟩ := rF.mp h
    exact ⟨rfl, fun q => .inl ⟨a, us, rfl, .inl h1.sq, q _ (CB.rI.mpr (by rw [h2.len]))⟩⟩
  · cases e
    obtain ⟨v, rfl, h⟩ := hx.one'
    unfold Rep at h
    obtain ⟨a, kvs, rfl, _, h1, h2, h3⟩ := h
    exact ⟨rfl, fun q => .inr (.inr (.inl ⟨a, kvs, rfl, h1, q _ (CB.rI.mpr (by rw [← h2, List.length_map]))⟩))⟩
  · cases e
    obtain ⟨v, rfl, h⟩ := hx.one'
    unfold Rep at h
    obtain ⟨a, kvs, rfl, _, h1, h2, h3⟩ := h
    exact ⟨rfl, fun q => .inr (.inr (.inr ⟨a, kvs, rfl, h1, q _ (CB.rI.mpr (by rw [← h2, List.length_map]))⟩))⟩
  · split at e
    · rename_i h
      cases e
      obtain ⟨v, rfl, h'⟩ := hx.one'
      rw [rS.mp h']
      exact ⟨rfl, fun q => .inr (.inl ⟨_, rfl, okLen_line h, q _ (CB.rI.mpr rfl)⟩)⟩
    · cases e
  · cases e

/-! isinstance of a built-in class, or of two -/
def tyN : D → Option String
  | .non => some "NoneType"
  | .bl _ => some "bool"
  | .int _ => some "int"
  | .str _ => some "str"
  | .tup _ => some "tuple"
  | .lst _ => some "list"
  | .fro _ => some "list"
  | .dK _ _ => some "dict"
  | .dT _ _ => some "dict"
  | .val _ => none
  | .fdk _ => none
  | .fdv _ => none
  | .lam _ => none
def isB (a b : String) : Bool := a == b || (a == "bool" && b == "int")
def tyNames : List String := ["NoneType", "bool", "int", "str", "tuple", "list", "dict"]
theorem kitB_is : ∀ a ∈ tyNames, ∀ b ∈ tyNames, kitB a b = some (isB a b) := by decide +kernel
theorem tyN_mem {d : D} {n : String} (h : tyN d = some n) : n ∈ tyNames := by
  cases d <;> simp [tyN] at h <;> (subst h; simp [tyNames])
theorem tyX_of {A : Addr → Prop} {H : Hp} {d : D} {v : V} {n : String} (h : tyN d = some n) (r : Rep K A H d v) : TyX K H v (.type n) := by
  cases d <;> simp [tyN] at h <;> subst h
  · rw [rN.mp r]; exact .base .non
  · rw [rB.mp r]; exact .base (.bl _)
  · rw [CB.rI.mp r]; exact .base (.int _)
  · rw [rS.mp r]; exact .base (.str _)
  · obtain ⟨a, us, rfl, h1, h2⟩ := rT.mp r; exact .base (.tup h1)
  · obtain ⟨a, us, rfl, _, h1, h2⟩ := rL.mp r; exact .base (.lst h1)
  · obtain ⟨a, us, rfl, h1, h2⟩ := rF.mp r
    rcases h1 with ⟨o, h1⟩ | ⟨o, its, n, h1, h3, _⟩
    · exact .base (.frz h1)
    · exact .kList h1 h3
  · unfold Rep at r; obtain ⟨a, us, rfl, _, h1, h2⟩ := r; exact .base (.dK h1)
  · unfold Rep at r; obtain ⟨a, us, rfl, _, h1, h2⟩ := r; exact .base (.dT h1)
def gIsi : List D → Option D
  | [d, .val (.ty b)] => match tyN d with
    | some n => if b ∈ tyNames then some (.bl (isB n b)) else none
    | none => none
  | _ => none
theorem gn_isi {t : Bool} : GN K t (rIsi K) gIsi := by
  refine GN.flat fun A vs ds d H Q hx e => ?_
  unfold gIsi at e
  split at e
  · rename_i dd b
    split at e
    · rename_i n en
      split at e
      · rename_i hb
        cases e
        obtain ⟨v, w, rfl, h1, h2⟩ := hx.two'
        unfold Rep at h2
        subst h2
        exact ⟨rfl, fun q => ⟨v, .ty b, .type n, .type b, isB n b, rfl, .ty b, tyX_of en h1, kit_ty (kitB_is n (tyN_mem en) b hb), q _ (rB.mpr rfl)⟩⟩
      · cases e
    · cases e
  · cases e
/-! all, any, sum -/
def blsOf : List D → Option (List Bool)
  | [] => some []
  | .bl b :: xs => (blsOf xs).map (b :: ·)
  | _ :: _ => none
theorem blsOf_rep {A : Addr → Prop} {H : Hp} : ∀ {ds : List D} {bs : List Bool} {vs : List V}, blsOf ds = some bs → RepL K A H ds vs → vs = bs.map V.bl
  | [], bs, vs, e, r => by unfold RepL at r; cases e; exact r
  | .bl b :: ds, bs, vs, e, r => by
    obtain ⟨v, us, rfl, h1, h2⟩ := r.uncons
    simp only [blsOf, Option.map_eq_some_iff] at e
    obtain ⟨cs, e1, rfl⟩ := e
    rw [rB.mp h1, blsOf_rep e1 h2]; rfl
  | .non :: _, _, _, e, _ => by cases e
  | .int _ :: _, _, _, e, _ => by cases e
  | .str _ :: _, _, _, e, _ => by cases e
  | .tup _ :: _, _, _, e, _ => by cases e
  | .lst _ :: _, _, _, e, _ => by cases e
  | .fro _ :: _, _, _, e, _ => by cases e
  | .dK _ _ :: _, _, _, e, _ => by cases e
  | .dT _ _ :: _, _, _, e, _ => by cases e
  | .val _ :: _, _, _, e, _ => by cases e
  | .fdk _ :: _, _, _, e, _ => by cases e
  | .fdv _ :: _, _, _, e, _ => by cases e
  | .lam _ :: _, _, _, e, _ => by cases e
def intsOf : List D → Option (List Int)
  | [] => some []
  | .int b :: xs => (intsOf xs).map (b :: ·)
  | _ :: _ => none
theorem intsOf_rep {A : Addr → Prop} {H : Hp} : ∀ {ds : List D} {bs : List Int} {vs : List V}, intsOf ds = some bs → RepL K A H ds vs → vs = bs.map V.int
  | [], bs, vs, e, r => by unfold RepL at r; cases e; exact r
  | .int b :: ds, bs, vs, e, r => by
    obtain ⟨v, us, rfl, h1, h2⟩ := r.uncons
    simp only [intsOf, Option.map_eq_some_iff] at e
    obtain ⟨cs, e1, rfl⟩ := e
    rw [CB.rI.mp h1, intsOf_rep e1 h2]; rfl
  | .non :: _, _, _, e, _ => by cases e
  | .bl _ :: _, _, _, e, _ => by cases e
  | .str _ :: _, _, _, e, _ => by cases e
  | .tup _ :: _, _, _, e, _ => by cases e
  | .lst _ :: _, _, _, e, _ => by cases e
  | .fro _ :: _, _, _, e, _ => by cases e
  | .dK _ _ :: _, _, _, e, _ => by cases e
  | .dT _ _ :: _, _, _, e, _ => by cases e
  | .val _ :: _, _, _, e, _ => by cases e
  | .fdk _ :: _, _, _, e, _ => by cases e
  | .fdv _ :: _, _, _, e, _ => by cases e
  | .lam _ :: _, _, _, e, _ => by cases e
@[simp] theorem blsOf_map (bs : List Bool) : blsOf (bs.map D.bl) = some bs := by
  induction bs with
  | nil => rfl
  | cons b bs ih => simp [blsOf, ih]
@[simp] theorem intsOf_map (bs : List Int) : intsOf (bs.map D.int) = some bs := by
  induction bs with
  | nil => rfl
  | cons b bs ih => simp [intsOf, ih]
def gAll : List D → Option D
  | [.lst xs] => (blsOf xs).map fun bs => .bl (bs.all id)
  | _ => none
def gAny : List D → Option D
  | [.lst xs] => (blsOf xs).map fun bs => .bl (bs.any id)
  | _ => none
def gSum : List D → Option D
  | [.lst xs] => (intsOf xs).map fun bs => .int bs.sum
  | [.tup xs] => (intsOf xs).map fun bs => .int bs.sum
  | _ => none
theorem gn_all {t : Bool} : GN K t (rAll K) gAll := by
  refine GN.flat fun A vs ds d H Q hx e => ?_
  unfold gAll at e
  split at e
  · simp only [Option.map_eq_some_iff] at e
    obtain ⟨bs, e1, rfl⟩ := e
    obtain ⟨v, rfl, h⟩ := hx.one'
    obtain ⟨a, us, rfl, _, h1, h2⟩ := rL.mp h
    rw [blsOf_rep e1 h2] at h1
    exact ⟨rfl, fun q => ⟨a, bs, rfl, .of h1, q _ (rB.mpr rfl)⟩⟩
  · cases e
theorem gn_any {t : Bool} : GN K t (rAny K) gAny := by
  refine GN.flat fun A vs ds d H Q hx e => ?_
  unfold gAny at e
  split at e
  · simp only [Option.map_eq_some_iff] at e
    obtain ⟨bs, e1, rfl⟩ := e
    obtain ⟨v, rfl, h⟩ := hx.one'
    obtain ⟨a, us, rfl, _, h1, h2⟩ := rL.mp h
    rw [blsOf_rep e1 h2] at h1
    exact ⟨rfl, fun q => ⟨a, bs, rfl, .of h1, q _ (rB.mpr rfl)⟩⟩
  · cases e
/-- sum(xs) of a list or tuple of ints -/
def rSum2 (K : PySem.W.Frag) : List V → Hp → VK → Prop := fun vs H Q => ∃ (a : Addr) (ns : List Int), vs = [V.ref a] ∧ (SqL K H a (ns.map V.int) ∨ SqT K H a (ns.map V.int)) ∧ Q (.int ns.sum) H
theorem cr_sum2 {X : Cx} (hc : X.calm = true) : CallR X (.builtin "sum") (rSum2 X.K) := by
  intro pins s σ H vs us Q I r h
  obtain ⟨a, ns, rfl, hs, q⟩ := h
  rcases hs with hs | hs
  · exact cr_sum hc pins s σ H [.ref a] us Q I r ⟨a, ns, rfl, hs, q⟩
  · obtain ⟨its, rv, hl, _⟩ := I.tuple hs
    rw [Vals.ref1 r]
    have hi := rv.ints
    obtain ⟨xs, hx⟩ := hi.allInts.items
    have hn : numsOf its.toArray.toList = ns := by rw [show its.toArray.toList = its from rfl, hi.numsOf]
    have hl' : s.heap.IsTuple a its.toArray := hl
    rw [hx] at hl' hn
    rw [nums_intItems] at hn
    refine PySem.W.ktm_sumG (I.ok.hd hc) hl' fun h' tk t' hk => ⟨.int _, H, I.kept hk, ⟨_, rfl⟩, ?_⟩
    rw [preSum_eq, List.take_of_length_le (by simp), hn]
    exact q
theorem gn_sum {t : Bool} : GN K t (rSum2 K) gSum := by
  refine GN.flat fun A vs ds d H Q hx e => ?_
  unfold gSum at e
  split at e
  · simp only [Option.map_eq_some_iff] at e
    obtain ⟨bs, e1, rfl⟩ := e
    obtain ⟨v, rfl, h⟩ := hx.one'
    obtain ⟨a, us, rfl, _, h1, h2⟩ := rL.mp h
    rw [intsOf_rep e1 h2] at h1
    exact ⟨rfl, fun q => ⟨a, bs, rfl, .inl (.of h1), q _ (CB.rI.mpr rfl)⟩⟩
  · simp only [Option.map_eq_some_iff] at e
    obtain ⟨bs, e1, rfl⟩ := e
    obtain ⟨v, rfl, h⟩ := hx.one'
    obtain ⟨a, us, rfl, h1, h2⟩ := rT.mp h
    rw [intsOf_rep e1 h2] at h1
    exact ⟨rfl, fun q => ⟨a, bs, rfl, .inr (.of h1), q _ (CB.rI.mpr rfl)⟩⟩
  · cases e
/-! tuple(x), list(x) -/
def seqOf : D → Option (List D)
  | .lst xs => some xs
  | .fro xs => some xs
  | .tup xs => some xs
  | _ => none
def gTuple : List D → Option D
  | [d] => (seqOf d).map .tup
  | _ => none
def gList : List D → Option D
  | [d] => (seqOf d).map .lst
  | _ => none
def rTuple (K : PySem.W.Frag) : List V → Hp → VK → Prop := fun xs H Q => ∃ p ys, xs = [.ref p] ∧ ((SqL K H p ys ∧ ∀ l, H l = none → Q (.ref l) (upd H l (.tup ys))) ∨ (SqT K H p ys ∧ Q (.ref p) H))
def rList (K : PySem.W.Frag) : List V → Hp → VK → Prop := fun xs H Q => ∃ p ys, xs = [.ref p] ∧ (SqL K H p ys ∨ SqT K H p ys) ∧ ∀ l, H l = none → Q (.ref l) (upd H l (.lst ys))
theorem cr_tuple {X : Cx} : CallR X (.type "tuple") (rTuple X.K) := call_tuple_of
theorem cr_list {X : Cx} : CallR X (.type "list") (rList X.K) := call_list_of
theorem gn_tuple {t : Bool} : GN K t (rTuple K) gTuple := by
  intro A vs ds d H Q hA hx e q
  rcases ds with _ | ⟨x, _ | ⟨y, ys⟩⟩
  · cases e
  · simp only [gTuple, Option.map_eq_some_iff] at e
    obtain ⟨xs, e1, rfl⟩ := e
    obtain ⟨v, rfl, h⟩ := hx.one'
    cases x <;> simp only [seqOf, reduceCtorEq] at e1
    · cases e1
      obtain ⟨a, us, rfl, h1, h2⟩ := rT.mp h
      exact ⟨a, us, rfl, .inr ⟨.of h1, q H _ (Same.refl H) h fun _ => noFT⟩⟩
    · cases e1
      obtain ⟨a, us, rfl, _, h1, h2⟩ := rL.mp h
      exact ⟨a, us, rfl, .inl ⟨.of h1, fun p hp => q _ _ (same_upd hp) (newT hp h2) fun _ => noFT⟩⟩
    · cases e1
      obtain ⟨a, us, rfl, h1, h2⟩ := rF.mp h
      exact ⟨a, us, rfl, .inl ⟨h1.sq, fun p hp => q _ _ (same_upd hp) (newT hp h2) fun _ => noFT⟩⟩
  · cases e
theorem gn_list {t : Bool} : GN K t (rList K) gList := by
  intro A vs ds d H Q hA hx e q
  rcases ds with _ | ⟨x, _ | ⟨y, ys⟩⟩
  · cases e
  · simp only [gList, Option.map_eq_some_iff] at e
    obtain ⟨xs, e1, rfl⟩ := e
    obtain ⟨v, rfl, h⟩ := hx.one'
    cases x <;> simp only [seqOf, reduceCtorEq] at e1
    · cases e1
      obtain ⟨a, us, rfl, h1, h2⟩ := rT.mp h
      exact ⟨a, us, rfl, .inr (.of h1), fun p hp => q _ _ (same_upd hp) (newL hA hp h2) fun _ => newFT hp h2⟩
    · cases e1
      obtain ⟨a, us, rfl, _, h1, h2⟩ := rL.mp h
      exact ⟨a, us, rfl, .inl (.of h1), fun p hp => q _ _ (same_upd hp) (newL hA hp h2) fun _ => newFT hp h2⟩
    · cases e1
      obtain ⟨a, us, rfl, h1, h2⟩ := rF.mp h
      exact ⟨a, us, rfl, .inl h1.sq, fun p hp => q _ _ (same_upd hp) (newL hA hp h2) fun _ => newFT hp h2⟩
  · cases e
/-! min, max of two, int, str, abs -/
def g2i (f : Int → Int → Int) : List D → Option D
  | [.int i, .int j] => some (.int (f i j))
  | _ => none
theorem gn_2i {t : Bool} {f : Int → Int → Int} : GN K t (fun xs H Q => ∃ i j, xs = [.int i, .int j] ∧ Q (.int (f i j)) H) (g2i f) := by
  refine GN.flat fun A vs ds d H Q hx e => ?_
  unfold g2i at e
  split at e
  · cases e
    obtain ⟨v, w, rfl, h1, h2⟩ := hx.two'
    rw [CB.rI.mp h1, CB.rI.mp h2]
    exact ⟨rfl, fun q => ⟨_, _, rfl, q _ (CB.rI.mpr rfl)⟩⟩
  · cases e
def gMin2 := g2i fun i j => if j < i then j else i
def gMax2 := g2i fun i j => if j > i then j else i
theorem gn_min2 {t : Bool} : GN K t (fun xs H Q => ∃ i j, xs = [.int i, .int j] ∧ Q (.int (if j < i then j else i)) H) gMin2 := gn_2i
theorem gn_max2 {t : Bool} : GN K t (fun xs H Q => ∃ i j, xs = [.int i, .int j] ∧ Q (.int (if j > i then j else i)) H) gMax2 := gn_2i
def gInt : List D → Option D
  | [.int i] => some (.int i)
  | [.bl k] => some (.int (if k then 1 else 0))
  | _ => none
theorem gn_int {t : Bool} : GN K t (fun xs H Q => (∃ i, xs = [.int i] ∧ Q (.int i) H) ∨ ∃ k, xs = [.bl k] ∧ Q (.int (if k then 1 else 0)) H) gInt := by
  refine GN.flat fun A vs ds d H Q hx e => ?_
  unfold gInt at e
  split at e
  · cases e
    obtain ⟨v, rfl, h1⟩ := hx.one'
    rw [CB.rI.mp h1]
    exact ⟨rfl, fun q => .inl ⟨_, rfl, q _ (CB.rI.mpr rfl)⟩⟩
  · cases e
    obtain ⟨v, rfl, h1⟩ := hx.one'
    rw [rB.mp h1]
    exact ⟨rfl, fun q => .inr ⟨_, rfl, q _ (CB.rI.mpr rfl)⟩⟩
  · cases e
def gStrI : List D → Option D
  | [.int i] => if decide (i.natAbs.log2 < 1920) then some (.str (Str.ofString (toString i))) else none
  | _ => none
def gAbs : List D → Option D
  | [.int i] => some (.int (if i < 0 then -i else i))
  | _ => none
theorem gn_abs {t : Bool} : GN K t (fun xs H Q => ∃ i, xs = [.int i] ∧ Q (.int (if i < 0 then -i else i)) H) gAbs := by
  refine GN.flat fun A vs ds d H Q hx e => ?_
  unfold gAbs at e
  split at e
  · cases e
    obtain ⟨v, rfl, h1⟩ := hx.one'
    rw [CB.rI.mp h1]
    exact ⟨rfl, fun q => ⟨_, rfl, q _ (CB.rI.mpr rfl)⟩⟩
  · cases e
end
section
variable {X : Cx} {W : Wx} {l : Lvl} {pos : Pos}
theorem ev_ty {x : Str} {T : String} (hg : Gl X x) (hm : X.mg x = none) (hv : bootBuiltins x = some (.type T)) (hn : x ≠ "__name__" := by decide) (hd : (x == ("__debug__" : Str)) = false := by decide) : PE X (.Name x pos) (tE W l X.K (fC (.val (.ty T)))) :=
  PE.imp (pe_bltn hg hm hv (show RelV (.ty T) (.type T) from rfl) hn hd) fun σ H Q ⟨S0, H0, P, S, ρ, R, h⟩ => h H _ .refl (.of (by unfold Rep; rfl) fun _ e => by cases e)
/-- list(range(..)) -/
theorem alen_nil {ρ S ds S1} (h : fNil ρ S = .ok ds S1) : ds.length = 0 := by cases h; rfl
theorem alen_cons {f : F D} {g : F (List D)} {n : Nat} (hg : ∀ ρ S ds S1, g ρ S = .ok ds S1 → ds.length = n) : ∀ ρ S ds S1, fCons f g ρ S = .ok ds S1 → ds.length = n + 1 := by
  intro ρ S ds S1 h
  unfold fCons at h
  cases e : f ρ S with
  | ok d S2 =>
    rw [e, Out.bind_ok] at h
    cases e2 : g ρ S2 with
    | ok es S3 =>
      rw [e2, Out.bind_ok] at h
      cases h
      simp [hg _ _ _ _ e2]
    | ex _ _ => rw [e2] at h; cases h
    | no => rw [e2] at h; cases h
  | ex _ _ => rw [e] at h; cases h
  | no => rw [e] at h; cases h
theorem alen0 : ∀ ρ S ds S1, fNil ρ S = .ok ds S1 → ds.length = 0 := fun _ _ _ _ h => alen_nil h
end
end CB
set_option Elab.async false
set_option linter.all false
set_option maxRecDepth 100000
namespace CB
open PySem PySem.Spec PyProof.Rows L2

section
variable {X : Cx} {W : Wx} {l : Lvl} {pos : Pos}
theorem op_add4 : OpR X (binaryOp .Add) (rAdd4 X.K) := op_add.or (op_catA.or (op_cat.or op_add_str))
theorem ev_globI {x : Str} {i : Int} (C : ∃ t, X.mg x = some (.int i t)) (hg : Gl X x := by rfl) (hdd : (x == ("__debug__" : Str)) = false := by decide) : PE X (.Name x pos) (tE W l X.K (fC (.int i))) := by
  obtain ⟨t, hm⟩ := C
  exact ev_glob (v := .int i) hg hm ⟨t, rfl⟩ rfl (fun A H => CB.rI.mpr rfl) hdd
def fNeg (f : F D) : F D := fun ρ S => (f ρ S).bind fun d S => match d with
  | .int i => .ok (.int (-i)) S
  | _ => .no
theorem ev_neg {a : Expr} {f : F D} (h : PE X a (tE W .any X.K f)) : PE X (.UnaryOp .USub a pos) (tE W .any X.K (fNeg f)) :=
  PE.imp (pe_un un_neg h) fun σ H Q ⟨S0, H0, P, S, ρ, R, q⟩ => tE_seq R q fun d S1 H1 v _ E r q => by
    cases d with
    | int i => exact ⟨i, CB.rI.mp (RepAt.rep r), q H1 _ E (RepAt.of (CB.rI.mpr rfl) fun e => by cases e)⟩
    | _ => exact q.elim
theorem flat_neg {f : F D} : ∀ ρ S d S1, fNeg f ρ S = .ok d S1 → flat1 d = true := by
  intro ρ S d S1 h
  unfold fNeg at h
  cases e : f ρ S with
  | ok x S2 =>
    rw [e, Out.bind_ok] at h
    cases x <;> first | (cases h; rfl) | cases h
  | ex _ _ => rw [e] at h; cases h
  | no => rw [e] at h; cases h
/-! flat answers -/
theorem fl_gII {f : Int → Int → Option D} (h : ∀ i j d, f i j = some d → flat1 d = true) : ∀ x y d, gII f x y = some d → flat1 d = true := by
  intro x y d e
  cases x <;> cases y <;> first | exact h _ _ _ e | cases e
theorem fl_gSub : ∀ x y d, gSub x y = some d → flat1 d = true := fl_gII fun _ _ _ e => by cases e; rfl
theorem fl_gMulI : ∀ x y d, gMulI x y = some d → flat1 d = true := fl_gII fun _ _ _ e => by split at e <;> cases e; rfl
theorem fl_gDiv : ∀ x y d, gDiv x y = some d → flat1 d = true := fl_gII fun _ _ _ e => by split at e <;> cases e; rfl
theorem fl_gMod : ∀ x y d, gMod x y = some d → flat1 d = true := fl_gII fun _ _ _ e => by split at e <;> cases e; rfl
theorem fl_gPow : ∀ x y d, gPow x y = some d → flat1 d = true := fl_gII fun _ _ _ e => by split at e <;> cases e; rfl
theorem fl_gLt : ∀ x y d, gLt x y = some d → flat1 d = true := fl_gII fun _ _ _ e => by cases e; rfl
theorem fl_gLe : ∀ x y d, gLe x y = some d → flat1 d = true := fl_gII fun _ _ _ e => by cases e; rfl
theorem fl_gGt : ∀ x y d, gGt x y = some d → flat1 d = true := fl_gII fun _ _ _ e => by cases e; rfl
theorem fl_gGe : ∀ x y d, gGe x y = some d → flat1 d = true := fl_gII fun _ _ _ e => by cases e; rfl
theorem fl_gEq : ∀ x y d, gEq x y = some d → flat1 d = true := fun x y d e => by unfold gEq at e; split at e <;> cases e; rfl
theorem fl_gNe : ∀ x y d, gNe x y = some d → flat1 d = true := fun x y d e => by unfold gNe at e; split at e <;> cases e; rfl
theorem fl_gIn : ∀ x y d, gIn x y = some d → flat1 d = true := fun x y d e => by
  unfold gIn at e
  split at e
  · split at e <;> cases e; rfl
  · cases e
theorem fl_gNotIn : ∀ x y d, gNotIn x y = some d → flat1 d = true := fun x y d e => by
  unfold gNotIn at e
  split at e
  · split at e <;> cases e; rfl
  · cases e
theorem fl_gIsN : ∀ x y d, gIsN x y = some d → flat1 d = true := fun x y d e => by
  unfold gIsN at e
  split at e
  · split at e <;> first | (cases e; rfl) | cases e
  · cases e
theorem fl_gNotN : ∀ x y d, gNotN x y = some d → flat1 d = true := fun x y d e => by
  unfold gNotN at e
  split at e
  · split at e <;> first | (cases e; rfl) | cases e
  · cases e
theorem fl_len : ∀ x d, gLen x = some d → flat1 d = true := fun x d e => by
  unfold gLen at e
  split at e <;> first | (cases e; rfl) | (split at e <;> cases e; rfl) | cases e
theorem fl_all : ∀ x d, gAll x = some d → flat1 d = true := fun x d e => by
  unfold gAll at e
  split at e <;> first | (simp only [Option.map_eq_some_iff] at e; obtain ⟨_, _, rfl⟩ := e; rfl) | cases e
theorem fl_any : ∀ x d, gAny x = some d → flat1 d = true := fun x d e => by
  unfold gAny at e
  split at e <;> first | (simp only [Option.map_eq_some_iff] at e; obtain ⟨_, _, rfl⟩ := e; rfl) | cases e
theorem fl_sum : ∀ x d, gSum x = some d → flat1 d = true := fun x d e => by
  unfold gSum at e
  split at e <;> first | (simp only [Option.map_eq_some_iff] at e; obtain ⟨_, _, rfl⟩ := e; rfl) | cases e
theorem fl_isi : ∀ x d, gIsi x = some d → flat1 d = true := fun x d e => by
  unfold gIsi at e
  split at e
  · split at e
    · split at e <;> cases e; rfl
    · cases e
  · cases e
theorem fl_int : ∀ x d, gInt x = some d → flat1 d = true := fun x d e => by
  unfold gInt at e
  split at e <;> first | (cases e; rfl) | cases e
theorem fl_abs : ∀ x d, gAbs x = some d → flat1 d = true := fun x d e => by
  unfold gAbs at e
  split at e <;> first | (cases e; rfl) | cases e
theorem fl_2i {f : Int → Int → Int} : ∀ x d, g2i f x = some d → flat1 d = true := fun x d e => by
  unfold g2i at e
  split at e <;> first | (cases e; rfl) | cases e
theorem flat_chain {g g' : D → D → Option D} {fa fb fc : F D} (hg : ∀ x y d, g' x y = some d → flat1 d = true) : ∀ ρ S d S1, fChain g g' fa fb fc ρ S = .ok d S1 → flat1 d = true := by
  intro ρ S d S1 h
  unfold fChain at h
  cases e : fa ρ S with
  | ok x S2 =>
    rw [e, Out.bind_ok] at h
    cases e2 : fb ρ S2 with
    | ok y S3 =>
      rw [e2, Out.bind_ok] at h
      split at h
      · cases e3 : fc ρ S3 with
        | ok z S4 =>
          rw [e3, Out.bind_ok] at h
          cases e4 : g' y z with
          | some w => rw [e4] at h; cases h; exact hg _ _ _ e4
          | none => rw [e4] at h; cases h
        | ex _ _ => rw [e3] at h; cases h
        | no => rw [e3] at h; cases h
      · cases h; rfl
      · cases h
    | ex _ _ => rw [e2] at h; cases h
    | no => rw [e2] at h; cases h
  | ex _ _ => rw [e] at h; cases h
  | no => rw [e] at h; cases h
end
end CB
set_option Elab.async false
set_option linter.all false
set_option maxRecDepth 100000
namespace CB
open PySem PySem.Spec PyProof.Rows L2
open AutoSeq1 (wpAny_loadPart')

/-! enumerate(tuple) -/
set_option maxHeartbeats 1000000 in
theorem meets_enumerate_newT (l : Addr) (items : Array Value) (n : Nat) (dct : Option Addr) (sl : Array (Option Value)) :
    Meets (Builtin.«enumerate.__new__» ⟨[.type "enumerate", .ref l], []⟩) (fun _ R s => s.heap.get? l = some { cls := .type "tuple", dict := dct, data := .seq items n, slots := sl } ∧
      R (.ok (.ret (.ref (s.heap.push { cls := .type "tuple_iterator", data := .fields #[.ref l, .int 0 0] }).objs.size)))
        { s with heap := (s.heap.push { cls := .type "tuple_iterator", data := .fields #[.ref l, .int 0 0] }).push { cls := .type "enumerate", data := .fields #[.none, .bool false, .ref s.heap.objs.size, rawInt 0, .none, .none] } }) :=
  .of_wp fun prog w A R s h => by
    obtain ⟨hp, g, d, tk, os⟩ := s; obtain ⟨hl, h⟩ := h
    have hsub := sub_enumerate
    have hL : Heap.IsTuple (Shared.heap ⟨hp, g, d, tk, os⟩) l items := ⟨_, hl, rfl, n, rfl⟩
    wp_walk using wpAny_loadPart' hl
    refine wpAny_stack_any fun st => wpAny_pure ?_
    split
    · rename_i c _ _ _ _ _
      cases (c == Value.type "enumerate")
      · wp_walk using wpAny_loadPart' hl, wpAny_pyIter_tuple hL
        exact ⟨_, rfl, h⟩
      · wp_walk using wpAny_loadPart' hl, wpAny_pyIter_tuple hL
        exact ⟨_, rfl, h⟩
    · wp_walk using wpAny_loadPart' hl, wpAny_pyIter_tuple hL
      exact ⟨_, rfl, h⟩
section
variable {prog : Program} {w : World} {A : Around} {E : Value → Shared → Prop} {s : Shared}
theorem call_enumerate_tuple {l : Addr} {items : Array Value} {Q : Value → Shared → Prop} (hL : s.heap.IsTuple l items)
    (h : ∀ h', IsEnum h' (s.heap.objs.size + 1) s.heap.objs.size 0 .none → h'.IsTupleIter s.heap.objs.size l 0 → h'.objs.size = s.heap.objs.size + 2 →
      (∀ b o, s.heap.get? b = some o → h'.get? b = some o) → Q (.ref (s.heap.objs.size + 1)) { s with heap := h' }) :
    wpAny (model prog w) A (call (.type "enumerate") [.ref l]) Q E s := by
  obtain ⟨⟨c, dct, dt, sl⟩, hl, hc, n, hd⟩ := hL
  replace hc : c = .type "tuple" := hc
  replace hd : dt = .seq items n := hd
  subst hc hd
  refine callType_new F.called_enumerate (by decide) (F.typeCall_enumerate_1 _) (F.newCall_enumerate_1 _) (fun obj => F.args_object_init_2 obj _) F.entry_enumerate_new
    (meets_enumerate_newT l items n dct sl) ⟨hl, ?_⟩
  have hz : (s.heap.push { cls := .type "tuple_iterator", data := .fields #[.ref l, .int 0 0] }).objs.size = s.heap.objs.size + 1 := Heap.size_push ..
  show _ ∧ _
  rw [hz]
  have he : IsEnum ((s.heap.push { cls := .type "tuple_iterator", data := .fields #[.ref l, .int 0 0] }).push
      { cls := .type "enumerate", data := .fields #[.none, .bool false, .ref s.heap.objs.size, rawInt 0, .none, .none] }) (s.heap.objs.size + 1) s.heap.objs.size 0 .none := by
    have := Heap.get?_push_size (s.heap.push { cls := .type "tuple_iterator", data := .fields #[.ref l, .int 0 0] })
      (o := { cls := .type "enumerate", data := .fields #[.none, .bool false, .ref s.heap.objs.size, rawInt 0, .none, .none] }) rfl
    rw [hz] at this; exact this
  refine ⟨⟨_, he, rfl⟩, h _ he ⟨_, Heap.get?_push_of_some _ (Heap.get?_push_size _ rfl), rfl, rfl⟩ (by rw [Heap.size_push, hz]) fun b o x => Heap.get?_push_of_some _ (Heap.get?_push_of_some _ x)⟩
end
/-- the tuple at a, each item in a new pair -/
def IteT (K : PySem.W.Frag) (a : Addr) : It :=
  ⟨fun i H => ∃ (xs : List V) (x : V), SqT K H a xs ∧ xs[i]? = some x, fun i H v H' => ∃ T x, v = .ref T ∧ H T = none ∧ H' = upd H T (.tup [.int (i : Nat), x]) ∧ ∀ xs, SqT K H a xs → xs[i]? = some x, fun i H => ∃ xs : List V, SqT K H a xs ∧ xs.length ≤ i⟩
theorem turn_enumT {P : Program} {w : World} {K : PySem.W.Frag} {elts : List Expr} {kk : Nat} {tpos : Pos} (a e it : Addr) :
    Turn P w K (.Tuple elts kk tpos) (IteT K a) [e, it] e (fun i h => (∃ old, IsEnum h e it ((i : Nat) : Int) old) ∧ h.IsTupleIter it a i ∧ e ≠ it ∧ a ≠ it ∧ e ≠ a) where
  mem := by simp
  obj := fun i h st b hb => by
    obtain ⟨⟨old, he⟩, ⟨o, ho, hc, hd⟩, _⟩ := st
    have e' : b = e ∨ b = it := by simpa using hb
    rcases e' with z | z
    · rw [z]; exact ⟨_, he, fun v q => nomatch q⟩
    · rw [z]; exact ⟨o, ho, fun v q => by rw [hd] at q; cases q⟩
  keep := fun i h h' st k => let ⟨⟨old, he⟩, hi, hne⟩ := st; ⟨⟨old, k e (by simp) _ he⟩, hi.at fun o q => k it (by simp) o q, hne⟩
  item := by
    intro X hP hw hK hc i pins s σ H E I hf st hg
    subst hP hw hK
    obtain ⟨⟨old, he⟩, hit, hne, hai, hea⟩ := st
    obtain ⟨xs, x, hq, hx⟩ := hg
    obtain ⟨its, rv, p, hz⟩ := I.tuple hq
    obtain ⟨u, hu, ru⟩ := rv.get hx
    have hel : e < s.heap.objs.size := Heap.lt_size he
    have hil : it < s.heap.objs.size := by obtain ⟨_, q, _⟩ := hit; exact Heap.lt_size q
    have hin : i < its.toArray.size := by simpa using (List.getElem?_eq_some_iff.mp hu).1
    refine wpAny_pyNext_enum_itemD (Draws.tuple (A := X.A.in1) (I.ok.hd hc) it a hai its.toArray) he ⟨hit, p⟩ hin hne (by simp [hne, hea]) fun x' h' tk hx' ho hst' hT hsz hk => ?_
    have ex : x' = u := by
      have : its.toArray[i]? = some u := by simpa using hu
      rw [this] at hx'; cases hx'; rfl
    subst ex
    refine ⟨_, rfl, wpAny_letOwnedTupleGo_enum (s := { s with heap := h', toks := tk + 1 }) ho fun h'' he' sb => ?_⟩
    have hT2 : h''.get? s.heap.objs.size = some { cls := .type "tuple", data := .seq #[.int i tk, x'] } := (sb.2 _ (Nat.ne_of_gt hel)).trans hT
    have new : ObjOk X.prog X.w (upd H s.heap.objs.size (.tup [.int (i : Nat), x])) h'' s.heap.objs.size (.tup [.int (i : Nat), x]) :=
      ⟨by show 2 ≤ sizeLine; decide, [.int i tk, x'], .cons ⟨_, rfl⟩ (.cons ru .nil), ⟨_, hT2, rfl, _, rfl⟩⟩
    have I1 : Inv X pins σ (upd H s.heap.objs.size (.tup [.int (i : Nat), x])) { s with heap := h'', toks := tk + 1 } :=
      I.turnedNew (ch := [e, it]) (fun b ob hb q => (sb.2 b (fun z => hb (by simp [z]))).trans (hk b ob (fun z => hb (by simp [z])) (fun z => hb (by simp [z])) q)) hf (Nat.le_refl _) new
    refine ⟨.ref s.heap.objs.size, _, I1, rfl, ⟨_, x, rfl, I.hok.fresh (Nat.le_refl _), rfl, fun ys hy => by rw [I.tuple_inj hy hq]; exact hx⟩, ⟨⟨x', ?_⟩, hst'.1.at fun o q => (sb.2 it (Ne.symm hne)).trans q, hne, hai, hea⟩, fun b hb => ?_⟩
    · have e1 : ((i + 1 : Nat) : Int) = (i : Int) + 1 := by omega
      rw [e1]; exact he'
    · have hb' : b < s.heap.objs.size := by
        have e' : b = e ∨ b = it := by simpa using hb
        rcases e' with z | z
        · rw [z]; exact hel
        · rw [z]; exact hil
      rw [upd_ne (Nat.ne_of_lt hb')]
      exact (hf b hb).1
  done := by
    intro X hP hw hK hc i pins s σ H E I hf st hg
    subst hP hw hK
    obtain ⟨⟨old, he⟩, hit, hne, hai, hea⟩ := st
    obtain ⟨xs, hq, hx⟩ := hg
    obtain ⟨its, rv, p, hz⟩ := I.tuple hq
    obtain ⟨f0, f1, f2, f3, f4, f5⟩ := hf it (by simp)
    have hl := rv.length
    have hD : Draws X.prog X.w X.A.in1 it [it, a] i (fun i v => its.toArray[i]? = some v) (fun j h => h.IsTupleIter it a j ∧ h.IsTuple a its.toArray ∧ j = i) := {
      live := fun _ _ st => let ⟨o, ho, _⟩ := st.1; ⟨o, ho⟩
      frame := fun _ _ _ st hk => ⟨st.1.at fun o e => hk it (by simp) o e, st.2.1.at fun o e => hk a (by simp) o e, st.2.2⟩
      item := fun j s Q E hj st hQ => absurd st.2.2 (Nat.ne_of_lt hj)
      done := fun s Q E st hE => wpAny_nextOf_tuple_end (I.ok.hd hc) st.1 st.2.1 (by simp; omega) hE }
    exact wpAny_pyNext_enum_endD hD he ⟨hit, p, rfl⟩ fun h' eb => ⟨rfl, I.turned (t' := s.toks) (fun b o hb q => eb b o hb q) f0 f1 f3 f4 f5⟩
  self := fun A i s Q E st h => let ⟨⟨_, he⟩, _⟩ := st; wpAny_pyIter_enum he h
def iEnumT (K : PySem.W.Frag) (ta : TA) : TI := fun σ H R => ta σ H fun vs H1 => ∃ a xs, vs = [.ref a] ∧ SqT K H1 a xs ∧ R (IteT K a) H1
theorem pi_enumT {X : Cx} {e : Expr} {ta : TA} {p pos tpos : Pos} {elts : List Expr} {kk : Nat} (hg : Gl X "enumerate") (hm : X.mg "enumerate" = none) (ha : PA X [e] ta) (hs : starEach [e] X.env = [(false, eval e X.env)] := by rfl) :
    PI X (.Tuple elts kk tpos) (.Call (.Name "enumerate" p) [e] [] pos) (iEnumT X.K ta) := by
  refine ⟨fun pins s σ H R I h => ?_⟩
  refine Call_ (ld_blt I hg hm boot_enumerate (PyProof.Rows.callWith_type1 (thn (ha.run pos pins s σ H _ I h) fun us s1 ⟨vs, H1, I1, r1, q1⟩ => ?_) hs rfl))
  obtain ⟨a, xs, ex, hq, q⟩ := q1
  subst ex
  cases r1 with
  | cons r rr =>
    cases rr
    cases r
    obtain ⟨its, rv, p', hz⟩ := I1.tuple hq
    have ha : a < s1.heap.objs.size := by obtain ⟨o, e, _⟩ := p'; exact Heap.lt_size e
    refine call_enumerate_tuple p' fun h' he hit hsz hk => wpAny_pyIter_enum he ?_
    have I2 : Inv X pins σ H1 { s1 with heap := h' } := I1.kept (t' := s1.toks) hk
    refine ⟨s1.heap.objs.size + 1, [s1.heap.objs.size + 1, s1.heap.objs.size], _, _, H1, rfl, I2, turn_enumT a (s1.heap.objs.size + 1) s1.heap.objs.size, ⟨⟨.none, he⟩, hit, Nat.succ_ne_self _, Nat.ne_of_lt ha, Nat.ne_of_gt (Nat.lt_succ_of_lt ha)⟩, fun b hb => ?_, q⟩
    have e' : b = s1.heap.objs.size + 1 ∨ b = s1.heap.objs.size := by simpa using hb
    have hle : s1.heap.objs.size ≤ b := by
      rcases e' with z | z
      · rw [z]; exact Nat.le_add_right _ _
      · rw [z]; exact Nat.le_refl _
    exact I1.fpOk hle (I1.hok.fresh hle)
def dEnum (xs : List D) : List D := dZip (dRange 0 xs.length) xs
def gEnum : List D → Option (List D)
  | [.lst xs] => some (dEnum xs)
  | [.fro xs] => some (dEnum xs)
  | [.tup xs] => some (dEnum xs)
  | _ => none
theorem rep_range {K : PySem.W.Frag} {A : Addr → Prop} {H : Hp} (n : Nat) : RepL K A H (dRange 0 n) ((List.range n).map fun (i : Nat) => V.int (i : Int)) := by
  have : dRange 0 n = ((List.range n).map fun (i : Nat) => (i : Int)).map D.int := by simp [dRange]
  rw [this, RepL.ints]
  simp
theorem range_get {n i : Nat} (h : i < n) : ((List.range n).map fun (i : Nat) => V.int (i : Int))[i]? = some (.int (i : Int)) := by simp [h]
section
variable {X : Cx} {W : Wx} {tg : Expr} {pos : Pos}
theorem ei_enum {a : Expr} {p tpos : Pos} {elts : List Expr} {kk : Nat} {f : F (List D)} (hg : Gl X "enumerate") (hm : X.mg "enumerate" = none) (ha : PA X [a] (tA W .mu X.K f)) (hs : starEach [a] X.env = [(false, eval a X.env)] := by rfl) :
    PI X (.Tuple elts kk tpos) (.Call (.Name "enumerate" p) [a] [] pos) (tI W X.K (fAppL gEnum f)) := by
  refine PI.imp (PI.or (pi_enum hg hm ha hs) (pi_enumT hg hm ha hs)) fun σ H Q ⟨S0, H0, P, S, ρ, R, q⟩ => ?_
  unfold fAppL at q
  have q' := q
  cases e : f ρ S with
  | ok ds S1 =>
    rw [e, Out.bind_ok] at q'
    cases eg : gEnum ds with
    | none => rw [eg] at q'; exact q'.elim
    | some zs =>
      unfold gEnum at eg
      have fin : ∀ {J : It} {xs : List D} {us : List V} {H1 : Hp}, RepL X.K P H1 xs us → (∀ i Ha, i < xs.length → Kp P H1 Ha → J.go i Ha) → (∀ Ha, Kp P H1 Ha → J.stop xs.length Ha) →
          (∀ i Ha x Hb, i < xs.length → Kp P H1 Ha → J.yld i Ha x Hb → ∃ T y, x = .ref T ∧ Ha T = none ∧ Hb = upd Ha T (.tup [.int (i : Nat), y]) ∧ us[i]? = some y) → ItemsOk X.K P J H1 (dEnum xs) := fun {J xs us H1} r h1 h2 h3 => by
        refine items_pair (n := xs.length) (by simp [dRange]) (rep_range xs.length) r ⟨h1, h2, fun i Ha x Hb hi k y => ?_⟩
        obtain ⟨T, y, e1, e2, e3, e4⟩ := h3 i Ha x Hb hi k y
        exact ⟨T, .int (i : Nat), y, e1, e2, e3, range_get hi, e4⟩
      split at eg
      · cases eg
        rename_i xs _
        refine .inl (tA_I R q fun ds S1 H1 vs e' E r q => ?_)
        rw [e] at e'; cases e'
        obtain ⟨v, rfl, h1⟩ := r.one'
        obtain ⟨b, us, rfl, n1, g1, g2⟩ := rL.mp h1
        have st : ∀ Hb, Kp P H1 Hb → SqL X.K Hb b us := fun Hb k => .of (k.keep _ _ g1 n1)
        have hl := g2.len
        refine ⟨b, us, rfl, .of g1, q H1 _ E (fin g2 (fun i Ha hi k => ⟨us, us[i], st Ha k, by simp [hl, hi]⟩) (fun Ha k => ⟨us, st Ha k, by omega⟩) fun i Ha x Hb hi k y => ?_)⟩
        obtain ⟨T, x1, e1, e2, e3, e4⟩ := y
        exact ⟨T, x1, e1, e2, e3, e4 us (st Ha k)⟩
      · cases eg
        rename_i xs _
        refine .inl (tA_I R q fun ds S1 H1 vs e' E r q => ?_)
        rw [e] at e'; cases e'
        obtain ⟨v, rfl, h1⟩ := r.one'
        obtain ⟨b, us, rfl, g1, g2⟩ := rF.mp h1
        have st : ∀ Hb, Kp P H1 Hb → SqL X.K Hb b us := fun Hb k => (k.fz g1).sq
        have hl := g2.len
        refine ⟨b, us, rfl, g1.sq, q H1 _ E (fin g2 (fun i Ha hi k => ⟨us, us[i], st Ha k, by simp [hl, hi]⟩) (fun Ha k => ⟨us, st Ha k, by omega⟩) fun i Ha x Hb hi k y => ?_)⟩
        obtain ⟨T, x1, e1, e2, e3, e4⟩ := y
        exact ⟨T, x1, e1, e2, e3, e4 us (st Ha k)⟩
      · cases eg
        rename_i xs _
        refine .inr (tA_I R q fun ds S1 H1 vs e' E r q => ?_)
        rw [e] at e'; cases e'
        obtain ⟨v, rfl, h1⟩ := r.one'
        obtain ⟨b, us, rfl, g1, g2⟩ := rT.mp h1
        have st : ∀ Hb, Kp P H1 Hb → SqT X.K Hb b us := fun Hb k => .of (k.tup _ _ g1)
        have hl := g2.len
        refine ⟨b, us, rfl, .of g1, q H1 _ E (fin g2 (fun i Ha hi k => ⟨us, us[i], st Ha k, by simp [hl, hi]⟩) (fun Ha k => ⟨us, st Ha k, by omega⟩) fun i Ha x Hb hi k y => ?_)⟩
        obtain ⟨T, x1, e1, e2, e3, e4⟩ := y
        exact ⟨T, x1, e1, e2, e3, e4 us (st Ha k)⟩
      · cases eg
  | ex x S1 => exact .inl ⟨S0, H0, P, S, ρ, R, by rw [e] at q' ⊢; exact q'⟩
  | no => rw [e] at q'; exact q'.elim
end
end CB
set_option Elab.async false
set_option linter.all false
set_option maxRecDepth 100000
namespace CB
open PySem PySem.Spec PyProof.Rows L2
open AutoSeq1 (wpAny_loadPart')
set_option maxHeartbeats 1000000 in
theorem tuple_mul1 (l : Addr) (items : Array Value) (n : Nat) (dd : Option Addr) (sl : Array (Option Value)) (x : Int) (u : Tok) (c0 : (decide (x < -(2 ^ 63)) || decide (x ≥ 2 ^ 63)) = false) (c1 : (items.isEmpty || x == 1) = true) :
    Meets (Builtin.«tuple.__mul__» ⟨[.ref l, .int x u], []⟩) (fun _ R s => s.heap.get? l = some { cls := .type "tuple", dict := dd, data := .seq items n, slots := sl } ∧
      R (.ok (.ret (Value.ref l))) s) :=
  .of_wp fun prog w A R s h => by
    obtain ⟨hp, g, d, tk, os⟩ := s
    obtain ⟨hl, h⟩ := h
    have f1 := AutoSeq1.idx_int
    wp_walk using wpAny_loadPart' hl
    repeat (first
      | (refine wpAny_ite_false (decide_eq_false (by rw [c0]; exact Bool.false_ne_true)) ?_; wp_walk using wpAny_loadPart' hl)
      | (refine wpAny_ite_true (decide_eq_true c1) ?_; wp_walk using wpAny_loadPart' hl))
    exact ⟨_, rfl, h⟩
set_option maxHeartbeats 1000000 in
theorem tuple_mul0 (l : Addr) (items : Array Value) (n : Nat) (dd : Option Addr) (sl : Array (Option Value)) (x : Int) (u : Tok) (c0 : (decide (x < -(2 ^ 63)) || decide (x ≥ 2 ^ 63)) = false) (c1 : (items.isEmpty || x == 1) = false) (c2 : (decide (x ≤ 0) || items.isEmpty) = true) :
    Meets (Builtin.«tuple.__mul__» ⟨[.ref l, .int x u], []⟩) (fun _ R s => s.heap.get? l = some { cls := .type "tuple", dict := dd, data := .seq items n, slots := sl } ∧
      R (.ok (.ret (Value.ref s.heap.objs.size))) { s with heap := s.heap.push { cls := Value.type "tuple", data := Data.seq #[] }, toks := s.toks }) :=
  .of_wp fun prog w A R s h => by
    obtain ⟨hp, g, d, tk, os⟩ := s
    obtain ⟨hl, h⟩ := h
    have f1 := AutoSeq1.idx_int
    wp_walk using wpAny_loadPart' hl
    repeat (first
      | (refine wpAny_ite_false (decide_eq_false (by rw [c0]; exact Bool.false_ne_true)) ?_; wp_walk using wpAny_loadPart' hl)
      | (refine wpAny_ite_false (decide_eq_false (by rw [c1]; exact Bool.false_ne_true)) ?_; wp_walk using wpAny_loadPart' hl)
      | (refine wpAny_ite_true (decide_eq_true c2) ?_; wp_walk using wpAny_loadPart' hl))
    exact ⟨_, rfl, h⟩
def rRep01 (K : PySem.W.Frag) : R2 := fun x y H Q => ∃ l k xs, x = .ref l ∧ y = .int k ∧ SqT K H l xs ∧ xs ≠ [] ∧ -(2 ^ 63) ≤ k ∧ k ≤ 1 ∧ (k = 1 → Q (.ref l) H) ∧ (k ≠ 1 → ∀ p, H p = none → Q (.ref p) (upd H p (.tup [])))
section
variable {X : Cx}
theorem op_rep01 : OpR X (binaryOp .Mult) (rRep01 X.K) := by
  intro pins s σ H x y v u Q I rx ry h
  obtain ⟨l, k, xs, rfl, rfl, hT, hne, h1, h2, q1, q2⟩ := h
  cases rx
  obtain ⟨t, rfl⟩ := ry
  obtain ⟨its, r, ⟨⟨cls, dd, data, sl⟩, ho, hc, n, hd⟩, hs⟩ := I.tuple hT
  simp only at hc hd
  subst hc hd
  have hle : its.length = xs.length := r.length.symm
  have hn : its ≠ [] := fun e => hne (by
    rw [e] at hle
    exact List.eq_nil_of_length_eq_zero hle.symm)
  have hi : its.toArray.isEmpty = false := by
    cases its with
    | nil => exact absurd rfl hn
    | cons a b => rfl
  have c0 : (decide (k < -(2 ^ 63)) || decide (k ≥ 2 ^ 63)) = false := by
    rw [decide_eq_false (by omega), decide_eq_false (by omega)] <;> rfl
  by_cases hk : k = 1
  · have c1 : (its.toArray.isEmpty || k == 1) = true := by rw [hi, Bool.false_or]; exact beq_iff_eq.mpr hk
    refine wpAny_binaryOp_repeat_ref (T := "tuple") (U := "int") (by decide) ⟨_, ho, rfl⟩ (fun s' => typeIs_int s' k t) noFill_tuple_mul F.fills_int_mul F.slot_int_rmul repeat_tuple F.slot_int_index.lookup
      (call_meets F.slot_int_rmul (typeIs_int s k t) F.entry_int_rmul (F.args_int_rmul_2 _ _) (int_rmul_tuple k t l its.toArray n dd sl)
        ⟨ho, rfl, ⟨_, ho, rfl⟩, call_meets F.slot_tuple_mul ⟨_, ho, rfl⟩ F.entry_tuple_mul (F.args_tuple_mul_2 _ _) (tuple_mul1 l its.toArray n dd sl k t c0 c1) ⟨ho, ?_⟩⟩)
    exact ⟨.ref l, H, I, rfl, q1 hk⟩
  · have c1 : (its.toArray.isEmpty || k == 1) = false := by rw [hi, Bool.false_or]; exact beq_eq_false_iff_ne.mpr hk
    have c2 : (decide (k ≤ 0) || its.toArray.isEmpty) = true := by rw [decide_eq_true (by omega)]; rfl
    refine wpAny_binaryOp_repeat_ref (T := "tuple") (U := "int") (by decide) ⟨_, ho, rfl⟩ (fun s' => typeIs_int s' k t) noFill_tuple_mul F.fills_int_mul F.slot_int_rmul repeat_tuple F.slot_int_index.lookup
      (call_meets F.slot_int_rmul (typeIs_int s k t) F.entry_int_rmul (F.args_int_rmul_2 _ _) (int_rmul_tuple k t l its.toArray n dd sl)
        ⟨ho, rfl, ⟨_, ho, rfl⟩, call_meets F.slot_tuple_mul ⟨_, ho, rfl⟩ F.entry_tuple_mul (F.args_tuple_mul_2 _ _) (tuple_mul0 l its.toArray n dd sl k t c0 c1 c2) ⟨ho, ?_⟩⟩)
    refine ⟨.ref s.heap.objs.size, _, I.laid (t' := s.toks) (o := .tup []) (fun b ob q => Heap.get?_push_of_some _ q) (Nat.le_refl _) ?_, rfl, q2 hk _ (I.hok.fresh (Nat.le_refl _))⟩
    exact ⟨by rw [sizeLine_eq]; decide, [], .nil, IsTup.new _ _⟩
end
section
variable {K : PySem.W.Frag}
/-- a tuple or list, so many times -/
def gRepA : D → D → Option D
  | .tup a, .int k => if !a.isEmpty && decide (-(2 ^ 63) ≤ k) && decide (k ≤ 1000) && decide (a.length ≤ 1000) then some (.tup (List.replicate k.toNat a).flatten) else none
  | .lst a, .int k => if okLen (a.length * k.toNat) && decide (-(2 ^ 63) ≤ k) && decide (k < 2 ^ 63) then some (.lst (List.replicate k.toNat a).flatten) else none
  | _, _ => none
def rRepA (K : PySem.W.Frag) : R2 := fun x y H Q => rRep x y H Q ∨ rRepT K x y H Q ∨ rRep01 K x y H Q
theorem op_repA {X : Cx} : OpR X (binaryOp .Mult) (rRepA X.K) := op_rep.or (op_repT.or op_rep01)
theorem g2_repA {t : Bool} : G2 K t (rRepA K) gRepA := by
  intro A x y dx dy d H Q hA hx hy e q
  cases dx <;> cases dy <;> simp only [gRepA, reduceCtorEq] at e
  · rename_i xs k
    split at e
    · rename_i hz
      simp only [Bool.and_eq_true, Bool.not_eq_true', decide_eq_true_eq] at hz
      obtain ⟨⟨⟨z1, z2⟩, z3⟩, z4⟩ := hz
      cases e
      obtain ⟨a, vs, rfl, h1, h2⟩ := rT.mp hx
      have hl := h2.len
      have hne : vs ≠ [] := fun e => by
        subst e
        have : xs = [] := List.eq_nil_of_length_eq_zero (by simpa using hl.symm)
        subst this
        cases z1
      rw [CB.rI.mp hy]
      by_cases hk : k ≤ 1
      · refine .inr (.inr ⟨a, k, vs, rfl, rfl, .of h1, hne, z2, hk, fun e => ?_, fun e p hp => ?_⟩)
        · subst e
          refine q H _ (Same.refl H) ?_ fun _ => noFT
          simpa using hx
        · have e0 : k.toNat = 0 := by omega
          rw [e0] at q
          exact q _ _ (same_upd hp) (by simpa using newT (K := K) (A := A) hp RepL.nil) fun _ => noFT
      · exact .inr (.inl ⟨a, k, vs, rfl, rfl, .of h1, hne, by omega, z3, by omega, fun p hp => q _ _ (same_upd hp) (newT hp (h2.repl _)) fun _ => noFT⟩)
    · cases e
  · rename_i xs k
    split at e
    · rename_i hz
      simp only [Bool.and_eq_true, decide_eq_true_eq] at hz
      cases e
      obtain ⟨a, vs, rfl, _, h1, h2⟩ := rL.mp hx
      refine .inl ⟨a, k, vs, rfl, CB.rI.mp hy, h1, hz.1.2, hz.2, by rw [h2.len]; exact okLen_line hz.1.1, fun p hp => ?_⟩
      exact q _ _ (same_upd hp) (newL hA hp (h2.repl _)) fun _ => newFT hp (h2.repl _)
    · cases e
end
end CB
set_option Elab.async false
set_option linter.all false
set_option maxRecDepth 100000
namespace CB
open PySem PySem.Spec PyProof.Rows L2
def rRemD (K : PySem.W.Frag) : V → List V → Hp → VK → Prop := fun x xs H Q => ∃ (a : Addr) (ys : List V) (y : V) (d : PyData) (ds : List PyData) (j : Nat) (z : PyData), x = V.ref a ∧ xs = [y] ∧ H a = some (.lst ys) ∧ DpAll K H ys ds ∧ Dp K H y d ∧
  SeqAt.shaped (.list ds) = true ∧ SeqAt.shaped d = true ∧ ds[j]? = some z ∧ PyData.eqv z d = true ∧ (∀ (m : Nat) (z' : PyData), m < j → ds[m]? = some z' → PyData.eqv z' d = false) ∧ Q .non (upd H a (.lst (ys.eraseIdx j)))
section
variable {X : Cx}
theorem mt_removeD (hu : X.A.units + 65 < cLine) : MtR X "list.remove" (rRemD X.K) := by
  intro pins s σ H x xs v us Q I rx rxs h
  obtain ⟨a, ys, y, d, ds, j, z, rfl, rfl, hH, ha, hy, sl, sd, hz, hzj, hno, q⟩ := h
  cases rx
  obtain ⟨uy, rfl, ry⟩ := rxs.one
  obtain ⟨bs, r1⟩ := Dp.reads I d y uy hy ry
  have hxs : PyData.canLayAll0 ds = true := SeqAt.canLay_of_shaped sl
  have hroom : X.A.units + 1 + min (PyData.depthAll ds) d.depth < cLine := room_in_shaped sd hu
  obtain ⟨hlen, its, n, rv, hl, ho⟩ := I.lstM hH
  obtain ⟨as, h4⟩ := Dp.readsAll I ds _ its ha rv
  have hn : its.length = ds.length := SeqAt.ReadsAll.length ds its as h4
  have hmap : its.map (SeqAt.readOf s.heap) = ds := SeqAt.readsAll_map ds its as hxs h4
  have hvl := rv.length
  have hsl := sizeLine_eq
  obtain ⟨hjd, _⟩ := List.getElem?_eq_some_iff.mp hz
  have hjl : j < its.length := by omega
  have hj : j < its.toArray.size := by simpa using hjl
  have at_ : ∀ (m : Nat) (hm : m < its.toArray.size) (z' : PyData), ds[m]? = some z' → SeqAt.readOf s.heap its.toArray[m] = z' := by
    intro m hm z' hz'
    have hml : m < its.length := by simpa using hm
    rw [← hmap, List.getElem?_map, List.getElem?_eq_getElem hml] at hz'
    have e1 : SeqAt.readOf s.heap its[m] = z' := Option.some.inj (show some (SeqAt.readOf s.heap its[m]) = some z' from hz')
    simpa using e1
  refine call_meets PySem.F.slot_list_remove ⟨_, ho, rfl⟩ PySem.F.entry_list_remove (PySem.F.args_list_remove_2 _ _)
    (SeqAt.list_removeAt a its.toArray n none #[] uy (fun u => PyData.eqv (SeqAt.readOf s.heap u) d) j hj ?_ ?_ (by rw [List.size_toArray]; omega)) ⟨ho, SeqAt.items_eqAt (vs := its.toArray) (show ReadsAll s.heap its.toArray.toList ds as from h4) r1 hxs (SeqAt.canLay_of_shaped sd) hroom, ?_⟩
  · show PyData.eqv (SeqAt.readOf s.heap its.toArray[j]) d = true
    rw [at_ j hj z hz]
    exact hzj
  · intro m hm hmj
    have hmd : m < ds.length := by omega
    have hz' : ds[m]? = some ds[m] := List.getElem?_eq_getElem hmd
    show PyData.eqv (SeqAt.readOf s.heap its.toArray[m]) d = false
    rw [at_ m hm _ hz']
    exact hno m _ hmj hz'
  · refine ⟨.non, _, I.lset (its' := its.eraseIdx j) (t' := s.toks) hH ho ?_ (rv.eraseIdx j) ?_, rfl, q⟩
    · show its.toArray.eraseIdxIfInBounds j = (its.eraseIdx j).toArray
      rw [List.eraseIdxIfInBounds_toArray]
    · have z2 := len_erase ys j
      omega
end
/-- the first place of an equal one -/
def findEq (d : PyData) : List PyData → Option Nat
  | [] => none
  | x :: xs => if PyData.eqv x d then some 0 else (findEq d xs).map (· + 1)
theorem findEq_some {d : PyData} : ∀ {xs : List PyData} {j : Nat}, findEq d xs = some j → (∃ z, xs[j]? = some z ∧ PyData.eqv z d = true) ∧ ∀ (m : Nat) (z' : PyData), m < j → xs[m]? = some z' → PyData.eqv z' d = false
  | [], j, h => by cases h
  | x :: xs, j, h => by
    unfold findEq at h
    by_cases e : PyData.eqv x d = true
    · rw [if_pos e] at h; cases h
      exact ⟨⟨x, by simp, e⟩, fun m z' hm => absurd hm (Nat.not_lt_zero m)⟩
    · rw [if_neg e] at h
      simp only [Option.map_eq_some_iff] at h
      obtain ⟨k, hk, rfl⟩ := h
      obtain ⟨⟨z, h1, h2⟩, h3⟩ := findEq_some hk
      refine ⟨⟨z, by simpa using h1, h2⟩, fun m z' hm hz => ?_⟩
      cases m with
      | zero => simp at hz; subst hz; simpa using e
      | succ m => exact h3 m z' (by omega) (by simpa using hz)
def gRemove : D → List D → Option D
  | .lst xs, [d] => if SeqAt.shaped (.list (pyL xs)) && SeqAt.shaped d.py then (findEq d.py (pyL xs)).map fun j => .lst (xs.eraseIdx j) else none
  | _, _ => none
theorem RepL.erase {K : PySem.W.Frag} {A : Addr → Prop} {H : Hp} : ∀ {ds : List D} {vs : List V} (n : Nat), RepL K A H ds vs → RepL K A H (ds.eraseIdx n) (vs.eraseIdx n)
  | [], vs, n, h => by unfold RepL at h; subst h; simp [RepL.nil]
  | d :: ds, vs, 0, h => by
    obtain ⟨v, r, rfl, h1, h2⟩ := h.uncons
    simpa using h2
  | d :: ds, vs, n + 1, h => by
    obtain ⟨v, r, rfl, h1, h2⟩ := h.uncons
    simpa using RepL.cons h1 (RepL.erase n h2)
theorem mut_remove {K : PySem.W.Frag} : MutOk K (rRemD K) gRemove := by
  intro A B p H d vs ds d' Q hA T r e q
  obtain ⟨xs, rfl⟩ : ∃ xs, d = .lst xs := by cases d <;> first | exact ⟨_, rfl⟩ | (simp [gRemove] at e)
  obtain ⟨us, h1, h2⟩ := T
  rcases ds with _ | ⟨x, _ | ⟨y, ys⟩⟩
  · simp [gRemove] at e
  · simp only [gRemove] at e
    split at e
    · rename_i h
      simp only [Bool.and_eq_true] at h
      simp only [Option.map_eq_some_iff] at e
      obtain ⟨j, hj, rfl⟩ := e
      obtain ⟨v, rfl, h3⟩ := r.one'
      obtain ⟨⟨z, g1, g2⟩, g3⟩ := findEq_some hj
      have c := SeqAt.canLay_of_shaped h.1
      exact ⟨p, us, v, x.py, pyL xs, j, z, rfl, rfl, h1, dpL_of (by simpa [PyData.canLay0] using c) h2, dp_of (SeqAt.canLay_of_shaped h.2) h3, h.1, h.2, g1, g2, g3, q _ _ ⟨_, upd_same, RepL.kp (kp_upd hA h1) (h2.erase j)⟩⟩
    · cases e
  · simp [gRemove] at e

/-! list(range(..)) -/
def fListR (g : List D → Option (List D)) (f : F (List D)) : F D := fun ρ S => (f ρ S).bind fun ds S => ofOpt ((g ds).bind fun xs => if okLen xs.length then some (.lst xs) else none) S
section
variable {X : Cx} {W : Wx} {l : Lvl} {pos : Pos}
theorem rep_rg {K : PySem.W.Frag} {A : Addr → Prop} {H : Hp} (a b : Int) : RepL K A H (dRange a (b - a).toNat) (rgV a b) := by
  have : dRange a (b - a).toNat = ((List.range (b - a).toNat).map fun (i : Nat) => a + (i : Int)).map D.int := by simp [dRange]
  rw [this, RepL.ints]
  simp [rgV]
theorem newRg {K : PySem.W.Frag} {P : Addr → Prop} {S S1 : Store} {H0 H H1 : Hp} (E : Evo K S H S1 H1) {q : Addr} (hq : H1 q = none) (a b : Int) : RepAt K P S H0 H (upd H1 q (.lst (rgV a b))) (.lst (dRange a (b - a).toNat)) (.ref q) .fr :=
  rL.mpr ⟨q, _, rfl, fun z => E.kp.dom q z hq, upd_same, rep_rg a b⟩
theorem ev_listRange1 {a : Expr} {p p2 pos2 : Pos} {f : F D} (hl : Gl X "list") (hml : X.mg "list" = none) (hg : Gl X "range") (hm : X.mg "range" = none) (ha : PA X [a] (tA W .any X.K (fCons f fNil))) (ha' : PE X a (tE W .any X.K f)) (hc : X.calm = true := by rfl)
    (na : starEach [a] X.env = (false, eval a X.env) :: starEach [] X.env := by rfl) (na2 : starEach [.Call (.Name "range" p2) [a] [] pos2] X.env = (false, eval (.Call (.Name "range" p2) [a] [] pos2) X.env) :: starEach [] X.env := by rfl) :
    PE X (.Call (.Name "list" p) [.Call (.Name "range" p2) [a] [] pos2] [] pos) (tE W .fr X.K (fListR gRange1 (fCons f fNil))) := by
  refine PE.imp (pe_listRg hc hl hml (prg_1 hg hm ha' na) na2) fun σ H Q ⟨S0, H0, P, S, ρ, R, q⟩ => ?_
  unfold fListR fCons at q
  show tE W .any X.K f σ H _
  refine ⟨S0, H0, P, S, ρ, R, ?_⟩
  cases e : f ρ S with
  | ok d S1 =>
    rw [e] at q
    intro H1 v E r
    have q2 : OutE .fr X.K W P S H0 H Q (ofOpt ((gRange1 [d]).bind fun xs => if okLen xs.length then some (.lst xs) else none) S1) := q
    clear q
    cases eg : gRange1 [d] with
    | none => rw [eg] at q2; exact q2.elim
    | some xs =>
      rw [eg] at q2
      obtain ⟨n, hd, hn, rfl⟩ := gRange1_of eg
      cases hd
      have q : OutE .fr X.K W P S H0 H Q (ofOpt (if okLen (dRange 0 n.toNat).length then some (.lst (dRange 0 n.toNat)) else none) S1) := q2
      by_cases hz : okLen (dRange 0 n.toNat).length = true
      · rw [if_pos hz] at q
        have hz' := okLen_line hz
        rw [dRange_len, sizeLine_eq] at hz'
        have := okR_of hn
        refine ⟨n, CB.rI.mp (RepAt.rep r), ⟨by omega, by omega, this.1, this.2, by simpa using hz'⟩, fun p hp => ?_⟩
        have e0 : (n - 0).toNat = n.toNat := by simp
        have := newRg (P := P) (S := S) (H0 := H0) E hp 0 n
        rw [e0] at this
        exact q _ _ (E.trans (.alloc hp)) this
      · rw [if_neg hz] at q; exact q.elim
  | ex x S1 => rw [e] at q; exact q
  | no => rw [e] at q; exact q
/-! isinstance(x, (A, B)) -/
def fIsi2 (a b : String) (f : F D) : F D := fun ρ S => (f ρ S).bind fun d S => match tyN d with
  | some n => if a ∈ tyNames ∧ b ∈ tyNames then .ok (.bl (isB n a || isB n b)) S else .no
  | none => .no
theorem ev_isi2 {e : Expr} {p pa pb tp : Pos} {A B : Str} {a b : String} {kk : Nat} {f : F D} (hg : Gl X "isinstance") (hm : X.mg "isinstance" = none) (he : PE X e (tE W .any X.K f)) (hA : Gl X A) (mA : X.mg A = none) (vA : bootBuiltins A = some (.type a)) (hB : Gl X B) (mB : X.mg B = none) (vB : bootBuiltins B = some (.type b))
    (nA : A ≠ "__name__" := by decide) (dA : (A == ("__debug__" : Str)) = false := by decide) (nB : B ≠ "__name__" := by decide) (dB : (B == ("__debug__" : Str)) = false := by decide)
    (s2 : starEach [.Name A pa, .Name B pb] X.env = (false, eval (.Name A pa) X.env) :: starEach [.Name B pb] X.env := by rfl) (s3 : starEach [.Name B pb] X.env = (false, eval (.Name B pb) X.env) :: starEach [] X.env := by rfl)
    (he1 : starEach [e, .Tuple [.Name A pa, .Name B pb] kk tp] X.env = (false, eval e X.env) :: starEach [.Tuple [.Name A pa, .Name B pb] kk tp] X.env := by rfl) (he2 : starEach [.Tuple [.Name A pa, .Name B pb] kk tp] X.env = (false, eval (.Tuple [.Name A pa, .Name B pb] kk tp) X.env) :: starEach [] X.env := by rfl)
    (hpl : (backTo pos (starEach [.Tuple [.Name A pa, .Name B pb] kk tp] X.env)).any (·.1) = false := by rfl) :
    PE X (.Call (.Name "isinstance" p) [e, .Tuple [.Name A pa, .Name B pb] kk tp] [] pos) (tE W .any X.K (fIsi2 a b f)) := by
  refine PE.imp (pe_callB call_isiT hg hm (by decide +kernel) (pa_cons he (pa_cons (pe_tup (pa_cons (pe_bltn hA mA vA (show RelV (.ty a) (.type a) from rfl) nA dA) (pa_cons (pe_bltn hB mB vB (show RelV (.ty b) (.type b) from rfl) nB dB) pa_nil s3) s2)) pa_nil he2) he1) (by decide) (by decide) he1 hpl) fun σ H Q ⟨S0, H0, P, S, ρ, R, q⟩ => ?_
  refine tE_seq R q fun d S1 H1 v _ E r q => ?_
  cases en : tyN d with
  | none => rw [en] at q; exact q.elim
  | some n =>
    rw [en] at q
    simp only at q
    split at q
    · rename_i hh
      refine ⟨by show 2 ≤ sizeLine; decide, fun t ht => ?_⟩
      have r' := RepAt.rep r
      refine ⟨v, t, [.ty a, .ty b], .type n, [.type a, .type b], isB n a || isB n b, rfl, upd_same, .cons (.ty a) (.cons (.ty b) .nil), tyX_of en (Rep.kp (Kp.of_same (same_upd ht)) r'), ?_, ?_⟩
      · have k1 := kitB_is n (tyN_mem en) a hh.1
        have k2 := kitB_is n (tyN_mem en) b hh.2
        refine kitAny_cons (kit_ty k1) (fun e => ?_) fun e => by rw [e]; rfl
        rw [e, Bool.false_or]
        exact kitAny_cons (kit_ty k2) (fun e => by rw [e]; exact kitAny_nil) fun e => e
      · exact q _ _ (E.trans (.alloc ht)) RepAt.bl
    · exact q.elim
theorem flat_isi2 {a b : String} {f : F D} : ∀ ρ S d S1, fIsi2 a b f ρ S = .ok d S1 → flat1 d = true := by
  intro ρ S d S1 h
  unfold fIsi2 at h
  cases e : f ρ S with
  | ok x S2 =>
    rw [e, Out.bind_ok] at h
    split at h
    · split at h
      · cases h; rfl
      · cases h
    · cases h
  | ex _ _ => rw [e] at h; cases h
  | no => rw [e] at h; cases h
end
end CB
set_option Elab.async false
set_option linter.all false
set_option maxRecDepth 100000
namespace CB
open PySem PySem.Spec PyProof.Rows L2
/-! rows in order -/
def leR (a b : List Int) : Bool := !HT.lexLt b a
theorem lexLt_irrefl : ∀ a : List Int, HT.lexLt a a = false
  | [] => rfl
  | x :: xs => by unfold HT.lexLt; rw [if_pos rfl, lexLt_irrefl xs]
theorem lexLt_antisymm : ∀ {a b : List Int}, HT.lexLt a b = false → HT.lexLt b a = false → a = b
  | [], [], _, _ => rfl
  | [], _ :: _, h, _ => by simp [HT.lexLt] at h
  | _ :: _, [], _, h => by simp [HT.lexLt] at h
  | x :: xs, y :: ys, h, g => by
    unfold HT.lexLt at h g
    by_cases e : x = y
    · subst e
      rw [if_pos rfl] at h g
      rw [lexLt_antisymm h g]
    · rw [if_neg e] at h
      rw [if_neg (Ne.symm e)] at g
      have h1 := of_decide_eq_false h
      have h2 := of_decide_eq_false g
      omega
theorem leR_total (a b : List Int) : (leR a b || leR b a) = true := by
  induction a generalizing b with
  | nil => cases b <;> simp [leR, HT.lexLt]
  | cons x xs ih =>
    cases b with
    | nil => simp [leR, HT.lexLt]
    | cons y ys =>
      have := ih ys
      unfold leR HT.lexLt
      by_cases e : x = y
      · subst e; simpa [leR] using this
      · rw [if_neg e, if_neg (Ne.symm e)]
        by_cases h : x < y
        · have : ¬ y < x := by omega
          simp [h, this]
        · simp [h]
theorem leR_trans (a b c : List Int) : leR a b = true → leR b c = true → leR a c = true := by
  induction a generalizing b c with
  | nil => cases c <;> simp [leR, HT.lexLt]
  | cons x xs ih =>
    cases b with
    | nil => simp [leR, HT.lexLt]
    | cons y ys =>
      cases c with
      | nil => simp [leR, HT.lexLt]
      | cons z zs =>
        unfold leR HT.lexLt
        intro h g
        by_cases e1 : x = y
        · subst e1
          rw [if_pos rfl] at h
          by_cases e2 : x = z
          · subst e2
            rw [if_pos rfl] at g ⊢
            exact ih ys zs h g
          · rw [if_neg (Ne.symm e2)] at g ⊢
            exact g
        · rw [if_neg (Ne.symm e1)] at h
          by_cases e2 : y = z
          · subst e2
            rw [if_neg (Ne.symm e1)]
            exact h
          · rw [if_neg (Ne.symm e2)] at g
            have h1 : ¬ y < x := by simpa using h
            have h2 : ¬ z < y := by simpa using g
            have : z ≠ x := by omega
            rw [if_neg this]
            have : ¬ z < x := by omega
            simpa using this
theorem leR_antisymm {a b : List Int} (h : leR a b = true) (g : leR b a = true) : a = b := lexLt_antisymm (by simpa [leR] using g) (by simpa [leR] using h)
def sortR (xs : List (List Int)) : List (List Int) := xs.mergeSort leR
theorem sortR_perm (xs : List (List Int)) : (sortR xs).Perm xs := List.mergeSort_perm xs leR
theorem sortR_pw (xs : List (List Int)) : (sortR xs).Pairwise (fun a b => leR a b = true) := List.pairwise_mergeSort leR_trans leR_total xs
/-- two lists in order that have the same things are one -/
theorem pw_unique {α : Type} {r : α → α → Prop} (anti : ∀ a b, r a b → r b a → a = b) : ∀ {xs ys : List α}, xs.Perm ys → xs.Pairwise r → ys.Pairwise r → xs = ys
  | [], ys, p, _, _ => (List.Perm.nil_eq p)
  | x :: xs, [], p, _, _ => absurd p.symm.nil_eq (by simp)
  | x :: xs, y :: ys, p, h, g => by
    have hx : x ∈ y :: ys := p.mem_iff.mp (by simp)
    have hy : y ∈ x :: xs := p.mem_iff.mpr (by simp)
    have e : x = y := by
      rcases List.mem_cons.mp hx with e | hx
      · exact e
      · rcases List.mem_cons.mp hy with e | hy
        · exact e.symm
        · exact anti _ _ (List.rel_of_pairwise_cons h hy) (List.rel_of_pairwise_cons g hx)
    subst e
    rw [pw_unique anti (List.perm_cons x |>.mp p) (List.Pairwise.of_cons h) (List.Pairwise.of_cons g)]
theorem sortR_eq {xs ys : List (List Int)} (p : ys.Perm xs) (h : ys.Pairwise (fun a b => leR a b = true)) : ys = sortR xs :=
  pw_unique (fun _ _ => leR_antisymm) (p.trans (sortR_perm xs).symm) h (sortR_pw xs)
theorem sortR_congr {xs ys : List (List Int)} (p : xs.Perm ys) : sortR xs = sortR ys := sortR_eq ((sortR_perm xs).trans p) (sortR_pw xs)
def sortI (xs : List Int) : List Int := xs.mergeSort (fun a b => decide (a ≤ b))
theorem sortI_perm (xs : List Int) : (sortI xs).Perm xs := List.mergeSort_perm xs _
theorem sortI_pw (xs : List Int) : (sortI xs).Pairwise (· ≤ ·) := (List.pairwise_mergeSort (le := fun (a b : Int) => decide (a ≤ b)) (fun a b c h g => by simp at h g ⊢; omega) (fun a b => by simp; omega) xs).imp (fun h => by simpa using h)
theorem sortI_eq {xs ys : List Int} (p : ys.Perm xs) (h : ys.Pairwise (· ≤ ·)) : ys = sortI xs := pw_unique (fun _ _ a b => Int.le_antisymm a b) (p.trans (sortI_perm xs).symm) h (sortI_pw xs)

theorem perm_map_inv {α β : Type} (f : α → β) : ∀ {ys : List β} {zs : List β}, ys.Perm zs → ∀ xs : List α, zs = xs.map f → ∃ xs' : List α, xs'.Perm xs ∧ ys = xs'.map f := by
  intro ys zs p
  induction p with
  | nil => intro xs e; exact ⟨[], by cases xs <;> simp_all, rfl⟩
  | cons x p ih =>
    intro xs e
    cases xs with
    | nil => simp at e
    | cons a xs =>
      simp only [List.map_cons, List.cons.injEq] at e
      obtain ⟨xs', h1, h2⟩ := ih xs e.2
      exact ⟨a :: xs', h1.cons a, by simp [h2, e.1]⟩
  | swap x y l =>
    intro xs e
    match xs, e with
    | a :: b :: xs, e =>
      simp only [List.map_cons, List.cons.injEq] at e
      exact ⟨b :: a :: xs, List.Perm.swap _ _ _, by simp [e.1, e.2.1, e.2.2]⟩
    | [], e => simp at e
    | [_], e => simp at e
  | trans p q ih1 ih2 =>
    intro xs e
    obtain ⟨x1, h1, h2⟩ := ih2 xs e
    obtain ⟨x2, h3, h4⟩ := ih1 x1 h2
    exact ⟨x2, h3.trans h1, h4⟩

/-! sorted, rows of ints, any number of them -/
abbrev shI : Nat → Bool := fun _ => false
theorem tupItems_ints : ∀ {us : List Value} {ns : List Int} (i : Nat), IntsAre us ns → tupItems shI i us = some (ns.map Sum.inl)
  | _, _, _, .nil => rfl
  | _, _, i, .cons n t h => by
    simp only [tupItems, List.map_cons]
    rw [tupItems_ints (i + 1) h]
    simp
theorem lex_of_ints : ∀ (a b : List Int), PyProof.Rows.lexLt itemOrd (a.map Sum.inl) (b.map Sum.inl) = HT.lexLt a b
  | [], [] => rfl
  | [], _ :: _ => rfl
  | _ :: _, [] => rfl
  | x :: xs, y :: ys => by
    show (decide (x < y) || (!decide (y < x) && PyProof.Rows.lexLt itemOrd (xs.map Sum.inl) (ys.map Sum.inl))) = _
    rw [lex_of_ints xs ys, HT.lexLt_cons]
    by_cases e : x = y
    · subst e; simp
    · rw [if_neg e]
      by_cases h : x < y
      · simp [h]
      · have : y < x := by omega
        simp [h, this]
def rSortedR (K : PySem.W.Frag) : List V → Hp → VK → Prop := fun vs H Q => ∃ (a : Addr) (L : List (Addr × List Int)), vs = [V.ref a] ∧ SqL K H a (L.map fun p => V.ref p.1) ∧ (∀ p ∈ L, H p.1 = some (.tup (p.2.map V.int)) ∧ p.2 ≠ []) ∧
  ∀ (L' : List (Addr × List Int)) (p : Addr), L'.Perm L → (L'.map (·.2)).Pairwise (fun a b => leR a b = true) → H p = none → Q (.ref p) (upd H p (.lst (L'.map fun p => V.ref p.1)))
theorem key_of {h : Heap} {a : Addr} {its : List Value} {ns : List Int} (p : IsTup h a its.toArray) (hi : IntsAre its ns) : G.tupKeyC h shI (.ref a) = some (ns.map Sum.inl) := by
  obtain ⟨o, ho, hc, n, hd⟩ := p
  unfold G.tupKeyC
  have h1 : G.isTupObj h (.ref a) = true := by simp only [G.isTupObj, ho, hc]; rfl
  rw [if_pos h1]
  simp only [tupKey, ho, hd]
  exact tupItems_ints 0 hi
theorem vals_refs : ∀ {as : List Addr} {us : List Value}, Vals (as.map V.ref) us → us = as.map Value.ref
  | [], us, h => by cases h; rfl
  | a :: as, us, h => by
    cases h with
    | cons r t =>
      rw [vals_refs t]
      cases r
      rfl
theorem vals_of_refs : ∀ {as : List Addr}, Vals (as.map V.ref) (as.map Value.ref)
  | [] => .nil
  | a :: as => .cons rfl vals_of_refs
section
variable {X : Cx}
theorem cr_sortedR : CallR X (.builtin "sorted") (rSortedR X.K) := by
  intro pins s σ H vs us Q I r h
  obtain ⟨a, L, rfl, hs, hL, q⟩ := h
  obtain ⟨its, rv, hl, hz⟩ := I.list hs
  rw [Vals.ref1 r]
  have eits : its = L.map fun p => Value.ref p.1 := by
    have := vals_refs (as := L.map (·.1)) (us := its) (by rw [List.map_map]; exact rv)
    rw [this, List.map_map]; rfl
  subst eits
  have tup : ∀ p ∈ L, ∃ its' : List Value, IsTup s.heap p.1 its'.toArray ∧ IntsAre its' p.2 := fun p hp => by
    obtain ⟨_, its', rv', pt⟩ := I.hok _ _ (hL p hp).1
    exact ⟨its', pt, intsAre_of rv'⟩
  have key : ∀ p ∈ L, G.tupKeyC s.heap shI (.ref p.1) = some (p.2.map Sum.inl) := fun p hp => by
    obtain ⟨its', h1, h2⟩ := tup p hp
    exact key_of h1 h2
  have tps : ∀ M : List (Addr × List Int), (∀ p ∈ M, p ∈ L) → ∃ fs, TupsOf s.heap shI (M.map fun p => Value.ref p.1) fs := fun M => by
    induction M with
    | nil => exact fun _ => ⟨[], .nil⟩
    | cons p M ih =>
      intro hM
      obtain ⟨fs, h1⟩ := ih fun q hq => hM q (by simp [hq])
      obtain ⟨its', ⟨o, ho, hc, n, hd⟩, h3⟩ := tup p (hM p (by simp))
      have hne := (hL p (hM p (by simp))).2
      obtain ⟨ad, ns⟩ := p
      cases h3 with
      | nil => exact absurd rfl hne
      | cons k t hi => exact ⟨_, .cons ⟨ad, o, _, n, rfl, ho, hc, hd, rfl, fun _ => ⟨k, t, rfl⟩, fun z => by cases z⟩ h1⟩
  obtain ⟨fs, hfs⟩ := tps L fun _ h => h
  refine G.sorted_tups (shape := shI) hl.isList hfs (fun v hv => ?_) (by have := hz; simpa using this) fun st' hp hso _ => ?_
  · obtain ⟨p, hp, rfl⟩ := List.mem_map.mp hv
    exact ⟨_, key p hp⟩
  · have hdiag : ∀ z ∈ (arrOf st').toList, z.1 = z.2 := fun z hz => by
      have : z ∈ (pairsOf (L.map fun p => Value.ref p.1)).toList := (hp.toList).mem_iff.mp hz
      rw [pairsOf_toList] at this
      generalize (L.map fun p => Value.ref p.1) = l at this
      induction l with
      | nil => simp at this
      | cons b l ih =>
        simp only [List.zip_cons_cons, List.mem_cons] at this
        rcases this with rfl | this
        · rfl
        · exact ih this
    have hperm : ((arrOf st').map (·.2)).toList.Perm (L.map fun p => Value.ref p.1) := by
      have h1 := (hp.toList).map (fun (z : Keyed) => z.2)
      rw [pairsOf_toList] at h1
      have h2 : ((L.map fun p => Value.ref p.1).zip (L.map fun p => Value.ref p.1)).map (fun (z : Keyed) => z.2) = L.map fun p => Value.ref p.1 := by
        generalize (L.map fun p => Value.ref p.1) = l
        induction l with
        | nil => rfl
        | cons b l ih => simp only [List.zip_cons_cons, List.map_cons, ih]
      rw [h2] at h1
      simpa using h1
    obtain ⟨L', hpl, hout⟩ := perm_map_inv (fun p : Addr × List Int => Value.ref p.1) hperm L rfl
    have hlen' : L'.length = L.length := hpl.length_eq
    have hsz : (arrOf st').size = L'.length := by
      have := congrArg List.length hout
      simpa using this
    have hpw : (L'.map (·.2)).Pairwise (fun a b => leR a b = true) := by
      rw [List.pairwise_map, List.pairwise_iff_getElem]
      intro i j hi hj hij
      have kk : ∀ (k : Nat) (hk : k < L'.length), KK (G.tupKindC s.heap shI) (arrOf st') k = (L'[k]).2.map Sum.inl := fun k hk => by
        have hk' : k < (arrOf st').size := by omega
        have e1 : ((arrOf st')[k]).2 = Value.ref (L'[k]).1 := by
          have := congrArg (fun l => l[k]?) hout
          simp only [Array.toList_map, List.getElem?_map] at this
          rw [List.getElem?_eq_getElem (by simpa using hk'), List.getElem?_eq_getElem hk] at this
          simpa using this
        have e2 : ((arrOf st')[k]).1 = Value.ref (L'[k]).1 := by
          rw [← e1]
          exact hdiag _ (by simp)
        unfold KK
        rw [Array.getElem?_eq_getElem hk']
        simp only
        rw [e2]
        show (G.tupKeyC s.heap shI (Value.ref (L'[k]).1)).getD _ = _
        rw [key _ (hpl.mem_iff.mp (List.getElem_mem hk))]
        rfl
      have := hso i j (Nat.le_of_lt hij) (by rw [pairsOf_size]; simp; omega)
      unfold KeyOrd.kle at this
      rw [kk i hi, kk j hj] at this
      have : PyProof.Rows.lexLt itemOrd ((L'[j]).2.map Sum.inl) ((L'[i]).2.map Sum.inl) = false := this
      rw [lex_of_ints] at this
      simp [leR, this]
    obtain ⟨ep, he'⟩ := PyProof.Rows.sortedAll_at s.heap (L.map fun p => Value.ref p.1) ((arrOf st').map (·.2))
    refine ⟨.ref _, upd H (s.heap.objs.size + 1) (.lst (L'.map fun p => V.ref p.1)), I.laid (t' := s.toks) (fun _ _ => PyProof.Rows.sortedAll_old) (Nat.le_succ _) ⟨?_, ((arrOf st').map (·.2)).toList, ep, ?_, ?_⟩, rfl, q _ _ hpl hpw (I.hok.fresh (Nat.le_succ _))⟩
    · have := hz; simp only [List.length_map] at this ⊢; omega
    · rw [hout]
      have := vals_of_refs (as := L'.map (·.1))
      rw [List.map_map, List.map_map] at this
      exact this
    · rw [Array.toArray_toList]; exact he'
end
/-- rows as data -/
def encR (r : List Int) : D := .tup (r.map .int)
def rowOf1 : D → Option (List Int)
  | .tup xs => intsOf xs
  | _ => none
def rowsOf : List D → Option (List (List Int))
  | [] => some []
  | d :: ds => (rowOf1 d).bind fun r => (rowsOf ds).map (r :: ·)
theorem intsOf_eq : ∀ {xs : List D} {is : List Int}, intsOf xs = some is → xs = is.map D.int
  | [], is, h => by cases h; rfl
  | .int b :: xs, is, h => by
    simp only [intsOf, Option.map_eq_some_iff] at h
    obtain ⟨cs, e1, rfl⟩ := h
    rw [intsOf_eq e1]; rfl
  | .non :: _, _, e => by cases e
  | .bl _ :: _, _, e => by cases e
  | .str _ :: _, _, e => by cases e
  | .tup _ :: _, _, e => by cases e
  | .lst _ :: _, _, e => by cases e
  | .fro _ :: _, _, e => by cases e
  | .dK _ _ :: _, _, e => by cases e
  | .dT _ _ :: _, _, e => by cases e
  | .val _ :: _, _, e => by cases e
  | .fdk _ :: _, _, e => by cases e
  | .fdv _ :: _, _, e => by cases e
  | .lam _ :: _, _, e => by cases e
theorem rowOf1_eq {d : D} {r : List Int} (h : rowOf1 d = some r) : d = encR r := by
  cases d <;> simp only [rowOf1, reduceCtorEq] at h
  rw [intsOf_eq h]; rfl
theorem rowsOf_eq : ∀ {ds : List D} {rs : List (List Int)}, rowsOf ds = some rs → ds = rs.map encR
  | [], rs, h => by cases h; rfl
  | d :: ds, rs, h => by
    simp only [rowsOf, Option.bind_eq_some_iff, Option.map_eq_some_iff] at h
    obtain ⟨r, h1, rs', h2, rfl⟩ := h
    rw [rowOf1_eq h1, rowsOf_eq h2]; rfl
@[simp] theorem rowOf1_enc (r : List Int) : rowOf1 (encR r) = some r := intsOf_map r
@[simp] theorem rowsOf_map (rs : List (List Int)) : rowsOf (rs.map encR) = some rs := by
  induction rs with
  | nil => rfl
  | cons r rs ih => simp [rowsOf, ih]
def gSortedA : List D → Option D
  | [d] => match isL d with
    | some xs => match intsOf xs with
      | some is => some (.lst ((sortI is).map .int))
      | none => match rowsOf xs with
        | some rs => if rs.all (fun r => !r.isEmpty) then some (.lst ((sortR rs).map encR)) else none
        | none => none
    | none => none
  | _ => none
def rSortedA (K : PySem.W.Frag) : List V → Hp → VK → Prop := fun xs H Q => rSortedI K xs H Q ∨ rSortedR K xs H Q
theorem cr_sortedA {X : Cx} : CallR X (.builtin "sorted") (rSortedA X.K) := cr_sortedI.or cr_sortedR
theorem seq_of {K : PySem.W.Frag} {A : Addr → Prop} {H : Hp} {d : D} {v : V} {xs : List D} (e : isL d = some xs) (r : Rep K A H d v) : ∃ a vs, v = .ref a ∧ SqL K H a vs ∧ RepL K A H xs vs := by
  cases d <;> simp only [isL, reduceCtorEq] at e
  · cases e; obtain ⟨a, vs, rfl, _, h1, h2⟩ := rL.mp r; exact ⟨a, vs, rfl, .of h1, h2⟩
  · cases e; obtain ⟨a, vs, rfl, h1, h2⟩ := rF.mp r; exact ⟨a, vs, rfl, h1.sq, h2⟩
theorem rep_rows {K : PySem.W.Frag} {A : Addr → Prop} {H : Hp} : ∀ {rs : List (List Int)} {vs : List V}, RepL K A H (rs.map encR) vs → ∃ L : List (Addr × List Int), vs = L.map (fun p => V.ref p.1) ∧ L.map (·.2) = rs ∧ ∀ p ∈ L, H p.1 = some (.tup (p.2.map V.int))
  | [], vs, h => by unfold List.map RepL at h; subst h; exact ⟨[], rfl, rfl, fun _ h => by cases h⟩
  | r :: rs, vs, h => by
    obtain ⟨v, us, rfl, h1, h2⟩ := h.uncons
    obtain ⟨L, rfl, rfl, h3⟩ := rep_rows h2
    obtain ⟨a, ws, rfl, g1, g2⟩ := rT.mp (show Rep K A H (.tup (r.map .int)) v from h1)
    rw [RepL.ints] at g2
    subst g2
    exact ⟨(a, r) :: L, rfl, rfl, fun p hp => by
      rcases List.mem_cons.mp hp with rfl | hp
      · exact g1
      · exact h3 p hp⟩
theorem rep_of_rows {K : PySem.W.Frag} {A : Addr → Prop} {H : Hp} : ∀ {L : List (Addr × List Int)}, (∀ p ∈ L, H p.1 = some (.tup (p.2.map V.int))) → RepL K A H ((L.map (·.2)).map encR) (L.map fun p => V.ref p.1)
  | [], _ => RepL.nil
  | p :: L, h => .cons (rT.mpr ⟨p.1, _, rfl, h p (by simp), RepL.ints.mpr rfl⟩) (rep_of_rows fun q hq => h q (by simp [hq]))
theorem gn_sortedA {K : PySem.W.Frag} {t : Bool} : GN K t (rSortedA K) gSortedA := by
  intro A vs ds d H Q hA hx e q
  rcases ds with _ | ⟨x, _ | ⟨y, ys⟩⟩
  · cases e
  · obtain ⟨v, rfl, h⟩ := hx.one'
    unfold gSortedA at e
    simp only at e
    cases e1 : isL x with
    | none => rw [e1] at e; cases e
    | some xs =>
      rw [e1] at e
      simp only at e
      obtain ⟨a, us, rfl, h1, h2⟩ := seq_of e1 h
      cases e2 : intsOf xs with
      | some is =>
        rw [e2] at e
        cases e
        rw [intsOf_rep e2 h2] at h1
        refine .inl ⟨a, is, rfl, h1, fun ns' p pm pw hp => ?_⟩
        rw [sortI_eq pm pw]
        have rr : RepL K A H ((sortI is).map .int) ((sortI is).map V.int) := RepL.ints.mpr rfl
        exact q _ _ (same_upd hp) (newL hA hp rr) fun _ => newFT hp rr
      | none =>
        rw [e2] at e
        simp only at e
        cases e3 : rowsOf xs with
        | none => rw [e3] at e; cases e
        | some rs =>
          rw [e3] at e
          simp only at e
          split at e
          · rename_i hne
            cases e
            rw [rowsOf_eq e3] at h2
            obtain ⟨L, rfl, rfl, h3⟩ := rep_rows h2
            refine .inr ⟨a, L, rfl, h1, fun p hp => ⟨h3 p hp, fun z => ?_⟩, fun L' p pm pw hp => ?_⟩
            · have := List.all_eq_true.mp hne p.2 (List.mem_map_of_mem hp)
              rw [z] at this
              cases this
            · have e4 : L'.map (·.2) = sortR (L.map (·.2)) := sortR_eq (pm.map _) pw
              have rr : RepL K A H ((sortR (L.map (·.2))).map encR) (L'.map fun p => V.ref p.1) := by
                rw [← e4]
                exact rep_of_rows fun p hp => h3 p (pm.mem_iff.mp hp)
              exact q _ _ (same_upd hp) (newL hA hp rr) fun _ => newFT hp rr
          · cases e
  · cases e
end CB
set_option Elab.async false
set_option linter.all false
set_option maxRecDepth 100000
namespace CB
open PySem PySem.Spec PyProof.Rows L2
section
variable {X : Cx} {pins : List (Addr × Obj)} {σ : L2.St} {H : Hp} {s : Shared} {A : Around} {E : Value → Shared → Prop}
/-- an entry of a dict with tuple keys is set -/
theorem d_dictSetT {a b : Addr} {kvs : List (List Key × V)} {k : List Key} {v : V} {r : Value} {Q : Unit → Shared → Prop} (hu : A.units < cLine) (I : Inv X pins σ H s) (e : H a = some (.dT kvs)) (eb : H b = some (.tup (k.map kV))) (l : kvs.length < sizeLine) (rv : RelV v r)
    (h : ∀ s', Inv X pins σ (upd H a (.dT (putK kvs k v))) s' → (∀ c o, c ≠ a → s.heap.get? c = some o → s'.heap.get? c = some o) → Q () s') : wpAny (model X.prog X.w) A (dictSet a (.ref b) r) Q E s := by
  obtain ⟨z, hd, xs, rel, dd⟩ := dt_of I.hok e
  have hz : xs.length ≤ sizeLine := by rw [← Paired.length rel]; exact z
  have hl : (putK kvs k v).length ≤ sizeLine := by have := length_putK kvs k v; omega
  refine wpAny_dictSet_heap (hsz := hz) hu (L2.key_of I.hok eb) dd fun h' dd' hs => h _ ?_ fun c o hc q => (hs.2 c hc).trans q
  obtain ⟨q, es, ep, hq, h2, h3, h4, _, h5⟩ := dd'
  refine d_write I (by rw [e]; exact True.intro) hs ⟨q, hq⟩ ⟨hl, hd, _, (rel.put k eb rv).keeps fun c ys ec => ?_, q, es, ep, hq, h2, h3, h4, h5⟩
  rw [upd_ne (ne_of ec e (fun z => nomatch z))]
  exact ec
abbrev Pr := Addr × Addr × List Key × V
def mergeT (kvs : List (List Key × V)) (L : List Pr) : List (List Key × V) := L.foldl (fun acc q => putK acc q.2.2.1 q.2.2.2) kvs
theorem length_mergeT : ∀ (L : List Pr) (kvs : List (List Key × V)), (mergeT kvs L).length ≤ kvs.length + L.length
  | [], kvs => by show kvs.length ≤ kvs.length + 0; omega
  | p :: r, kvs => by
    have h1 := length_mergeT r (putK kvs p.2.2.1 p.2.2.2)
    have h2 := length_putK kvs p.2.2.1 p.2.2.2
    show (mergeT (putK kvs p.2.2.1 p.2.2.2) r).length ≤ _
    rw [List.length_cons]; omega
theorem upd_loopT {R : Result → Shared → Prop} {S I l : Addr} {L : List Pr} {res : Value} (hh : A.handled = none) (hu : A.units + 1 < cLine) (hlI : l ≠ I) (hSI : S ≠ I) (hl : SqL X.K H l (L.map fun q => V.ref q.1)) (hlS : H l ≠ none ∨ l ≠ S)
    (hL : ∀ q ∈ L, H q.1 = some (.tup [.ref q.2.1, q.2.2.2]) ∧ H q.2.1 = some (.tup (q.2.2.1.map kV))) (hSl : ∀ b xs, H b = some (.tup xs) → b ≠ S) (hsl : ∀ acc, SqL X.K (upd H S (.dT acc)) l (L.map fun q => V.ref q.1)) :
    ∀ (rest : List Pr) (i : Nat) (acc : List (List Key × V)) (ix : Int) (t : Tok) (s : Shared), L = L.take i ++ rest → i ≤ L.length → acc.length + rest.length ≤ sizeLine → Inv X pins σ (upd H S (.dT acc)) s → (FpOk X pins (upd H S (.dT acc)) I) → s.heap.IsListIter I l i →
      (∀ s', Inv X pins σ (upd H S (.dT (mergeT acc rest))) s' → R (.ok (.ret res)) s') →
      codeAny (model X.prog X.w) A (.builtin "dict.update.loop" ⟨[.ref S, .ref I, .int ix t, res], []⟩) R s
  | [], i, acc, ix, t, s, hL2, hi, hln, Iv, fp, hit, hR => by
    obtain ⟨its, rv, pl, _⟩ := Iv.list (hsl acc)
    have hlen : its.length = L.length := by rw [← rv.length]; simp
    have hiL : i = L.length := by
      have := congrArg List.length hL2
      simp at this
      omega
    refine codeAny_builtin ud_entry ?_
    rw [Around.under_plainId ud_plain _]
    show wpAny _ A.in1 (pyNext (.ref I) >>= _) _ _ s
    refine wpAny_bind (wpAny_pyNext_list_end (A := A.in1) hh hit pl.isList (by simp; omega) fun h' he => ?_)
    show wpAny _ A.in1 (Builtin.Dict.addKeywords S [] >>= _) _ _ _
    refine wpAny_bind (wpAny_pure (wpAny_pure ?_))
    obtain ⟨f0, f1, f2, f3, f4, f5⟩ := fp
    exact hR _ (Iv.turned (t' := s.toks) (fun b o hb q => he b o hb q) f0 f1 f3 f4 f5)
  | q :: rest, i, acc, ix, t, s, hL2, hi, hln, Iv, fp, hit, hR => by
    have hget : L[i]? = some q := by
      rw [hL2, List.getElem?_append_right (by simp; omega)]
      have : i - (L.take i).length = 0 := by simp; omega
      rw [this]; rfl
    have hiL : i < L.length := (List.getElem?_eq_some_iff.mp hget).1
    obtain ⟨g1, g2⟩ := hL q (List.mem_of_getElem? hget)
    obtain ⟨its, rv, pl, _⟩ := Iv.list (hsl acc)
    obtain ⟨u, hu1, hu2⟩ := rv.get (i := i) (x := V.ref q.1) (by rw [List.getElem?_map, hget]; rfl)
    cases hu2
    rw [List.length_cons] at hln
    obtain ⟨f0, f1, f2, f3, f4, f5⟩ := id fp
    refine codeAny_builtin ud_entry ?_
    rw [Around.under_plainId ud_plain _]
    show wpAny _ A.in1 (pyNext (.ref I) >>= _) _ _ s
    refine wpAny_bind (wpAny_pyNext_list_item (x := .ref q.1) hit pl.isList (by simpa using hu1) fun h1 hit1 hs1 => ?_)
    have I1 : Inv X pins σ (upd H S (.dT acc)) { s with heap := h1 } := Iv.turned (t' := s.toks) (fun b o hb e => (hs1.2 b hb).trans e) f0 f1 f3 f4 f5
    have gq : (upd H S (.dT acc)) q.1 = some (.tup [.ref q.2.1, q.2.2.2]) := by rw [upd_ne (hSl _ _ g1)]; exact g1
    have gk : (upd H S (.dT acc)) q.2.1 = some (.tup (q.2.2.1.map kV)) := by rw [upd_ne (hSl _ _ g2)]; exact g2
    obtain ⟨_, its2, rv2, ⟨o, ho, hc, n, hd⟩⟩ := I1.hok _ _ gq
    obtain ⟨w1, w2, ei, r1, r2⟩ := vals2 rv2
    subst ei
    cases r1
    show wpAny _ A.in1 (holding [Value.ref q.1] _ >>= _) _ _ _
    refine wpAny_bind (wpAny_holding ?_)
    refine wpAny_bind (wpAny_tryCatch ?_)
    unfold Builtin.Dict.pairItems
    refine wpAny_bind (wpAny_typeOf (T := "tuple") ⟨o, ho, hc⟩ ?_)
    rw [if_pos (by first | decide | rfl | simp)]
    refine wpAny_bind (wpAny_seqItems ho hd (wpAny_pure ?_))
    show wpAny _ A.in1 (holding [Value.ref q.2.1, w2] (dictSet S (Value.ref q.2.1) w2)) _ _ _
    refine wpAny_holding (d_dictSetT (k := q.2.2.1) (by show A.units + 1 < cLine; exact hu) I1 upd_same gk (by omega) r2 fun s2 I2 k2 => ?_)
    rw [upd_upd] at I2
    have fp2 : FpOk X pins (upd H S (.dT (putK acc q.2.2.1 q.2.2.2))) I := ⟨by rw [upd_ne (Ne.symm hSI)]; rw [upd_ne (Ne.symm hSI)] at f0; exact f0, f1, f2, f3, f4, f5⟩
    refine wpAny_pure ⟨plainId_quiet ud_plain _, upd_loopT hh hu hlI hSI hl hlS hL hSl hsl rest (i + 1) (putK acc q.2.2.1 q.2.2.2) (ix + 1) 0 _ ?_ (by omega) ?_ I2 fp2 ?_ hR⟩
    · have e1 : L.take (i + 1) = L.take i ++ [q] := by
        rw [List.take_add_one, hget]; rfl
      rw [e1, List.append_assoc]
      exact hL2
    · have z := length_putK acc q.2.2.1 q.2.2.2
      omega
    · exact hit1.at fun o' e => k2 I o' (Ne.symm hSI) e
end
def rDictP (K : PySem.W.Frag) : List V → Hp → VK → Prop := fun xs H Q => ∃ (a : Addr) (L : List Pr), xs = [.ref a] ∧ H a = some (.lst (L.map fun q => V.ref q.1)) ∧ (∀ q ∈ L, H q.1 = some (.tup [.ref q.2.1, q.2.2.2]) ∧ H q.2.1 = some (.tup (q.2.2.1.map kV))) ∧
    ∀ p, H p = none → Q (.ref p) (upd H p (.dT (mergeT [] L)))
section
variable {X : Cx}
theorem call_dictPT (hcalm : X.calm = true) (hu : X.A.units + 64 < cLine) : CallR X (.type "dict") (rDictP X.K) := by
  intro pins s σ H xs us Q I r q
  obtain ⟨a, L, rfl, hq, hL, q⟩ := q
  rw [Vals.ref1 r]
  have hh := I.ok.hd hcalm
  obtain ⟨hz, its, n, rv, ho⟩ := I.hok a _ hq
  rw [List.length_map] at hz
  have hlt : a < s.heap.objs.size := Heap.lt_size ho
  have hp := I.hok.fresh (Nat.le_refl s.heap.objs.size)
  refine callType_codes (Q₁ := fun obj s₁ => obj = .ref s.heap.objs.size ∧ s₁ = { s with heap := s.heap.push { cls := .type "dict", data := .dict #[] } }) PySem.F.kt_called_dict (PySem.F.kt_typeCall_dict_1 _) PySem.F.entry_dict_init (kt_code_dict_new _ ⟨rfl, rfl⟩) ?_
  rintro obj s₁ ⟨rfl, rfl⟩
  have hnew : (s.heap.push { cls := .type "dict", data := .dict #[] }).DictOf (mixKind X.prog X.w) s.heap.objs.size [] := Heap.DictOf.new s.heap
  have k0 : ∀ b o, s.heap.get? b = some o → (s.heap.push { cls := .type "dict", data := .dict #[] }).get? b = some o := fun b o e => Heap.get?_push_of_some _ e
  have I0 : Inv X pins σ (upd H s.heap.objs.size (.dT [])) { s with heap := s.heap.push { cls := .type "dict", data := .dict #[] } } := I.laid (t' := s.toks) k0 (Nat.le_refl _) (dt_empty s.heap I.big)
  refine ⟨hnew.typeIs, PySem.F.args_dict_init_2 _ _, ?_⟩
  unfold Builtin.«dict.__init__»
  refine wpAny_bind ?_
  unfold Builtin.Dict.selfAndRest
  refine wpAny_bind (wpAny_notOrdered_dict hnew.typeIs ?_)
  show wpAny _ _ (pure (s.heap.objs.size, [Value.ref a])) _ _ _
  refine wpAny_pure ?_
  show wpAny _ _ (Builtin.Dict.updateFrom "dict.__init__" s.heap.objs.size (.ref a) [] .none) _ _ _
  unfold Builtin.Dict.updateFrom
  refine wpAny_bind (wpAny_typeOf (T := "list") ⟨_, k0 _ _ ho, rfl⟩ ?_)
  rw [if_pos (by first | decide | rfl | simp)]
  refine wpAny_bind (miss_list (k0 _ _ ho) rfl rfl rfl hh fun h1 tk1 hk1 => ?_)
  rw [if_pos (show (none : Option Value).isNone = true from rfl)]
  refine wpAny_bind (wpAny_rule ?_)
  have I1 : Inv X pins σ (upd H s.heap.objs.size (.dT [])) { s with heap := h1, toks := tk1 } := I0.kept (t' := tk1) hk1
  have hl1 : h1.IsList a its.toArray := ⟨_, hk1 _ _ (k0 _ _ ho), rfl, n, rfl⟩
  have hS1 : s.heap.objs.size < h1.objs.size := by
    have e : (s.heap.push { cls := .type "dict", data := .dict #[] }).get? s.heap.objs.size = some { cls := .type "dict", data := .dict #[] } := Heap.get?_push_size _ rfl
    exact Heap.lt_size (hk1 _ _ e)
  refine wpAny_bind (wpAny_pyIter_list hl1 ?_)
  have I2 : Inv X pins σ (upd H s.heap.objs.size (.dT [])) { s with heap := h1.push { cls := .type "list_iterator", data := .fields #[.ref a, .int 0 0] }, toks := tk1 } := I1.kept (t' := tk1) fun b o e => Heap.get?_push_of_some _ e
  have fpI : FpOk X pins (upd H s.heap.objs.size (.dT [])) h1.objs.size := I1.fpOk (Nat.le_refl _) (I1.hok.fresh (Nat.le_refl _))
  have hlS : ∀ acc, SqL X.K (upd H s.heap.objs.size (.dT acc)) a (L.map fun q => V.ref q.1) := fun acc => .of (by rw [upd_ne (Nat.ne_of_lt hlt)]; exact hq)
  have key := upd_loopT (X := X) (pins := pins) (σ := σ) (H := H) (A := X.A.in1) (R := wants (fun r s₂ => r = .none ∧ EP X pins σ Q (.ref s.heap.objs.size) s₂) X.xe) (S := s.heap.objs.size) (I := h1.objs.size) (l := a) (L := L) (res := Value.none) hh
    (by show X.A.units + 1 + 1 < cLine; omega) (Nat.ne_of_lt (Nat.lt_trans hlt hS1)) (Nat.ne_of_lt hS1) (.of hq) (.inl (by rw [hq]; simp)) hL (fun b xs e z => by rw [z, hp] at e; cases e) hlS L 0 [] 0 0
    { s with heap := h1.push { cls := .type "list_iterator", data := .fields #[.ref a, .int 0 0] }, toks := tk1 } (by simp) (Nat.zero_le _) (by rw [List.length_nil, Nat.zero_add]; exact hz) I2 fpI
    ⟨_, Heap.get?_push_size _ rfl, rfl, rfl⟩ fun s' I' => ⟨rfl, .ref s.heap.objs.size, _, I', rfl, q _ hp⟩
  first
    | exact wpAny_pure ⟨plainId_quiet ud_plain _, key⟩
    | exact wpAny_bind (wpAny_pure (wpAny_pure ⟨plainId_quiet ud_plain _, key⟩))
end
end CB
set_option Elab.async false
set_option linter.all false
set_option maxRecDepth 100000
namespace CB
open PySem PySem.Spec PyProof.Rows L2

/-! keys -/
def keyD : D → Option Key
  | .int i => some (.inl i)
  | .str s => some (.inr s)
  | _ => none
def keysD : List D → Option (List Key)
  | [] => some []
  | d :: ds => (keyD d).bind fun k => (keysD ds).map (k :: ·)
def tupKD : D → Option (List Key)
  | .tup xs => keysD xs
  | _ => none
@[simp] theorem keysD_ints (is : List Int) : keysD (is.map D.int) = some (is.map Sum.inl) := by
  induction is with
  | nil => rfl
  | cons b bs ih => simp [keysD, keyD, ih]
@[simp] theorem tupKD_enc (r : List Int) : tupKD (encR r) = some (r.map Sum.inl) := keysD_ints r
section
variable {K : PySem.W.Frag} {A : Addr → Prop} {H : Hp}
theorem keyD_rep {d : D} {k : Key} {v : V} (e : keyD d = some k) (r : Rep K A H d v) : v = kV k := by
  cases d <;> simp only [keyD, reduceCtorEq] at e
  · cases e; exact CB.rI.mp r
  · cases e; exact rS.mp r
theorem keysD_rep : ∀ {ds : List D} {ks : List Key} {vs : List V}, keysD ds = some ks → RepL K A H ds vs → vs = ks.map kV
  | [], ks, vs, e, r => by cases e; unfold RepL at r; exact r
  | d :: ds, ks, vs, e, r => by
    simp only [keysD, Option.bind_eq_some_iff, Option.map_eq_some_iff] at e
    obtain ⟨k, h1, ks', h2, rfl⟩ := e
    obtain ⟨v, us, rfl, g1, g2⟩ := r.uncons
    rw [keyD_rep h1 g1, keysD_rep h2 g2]; rfl
theorem tupKD_rep {d : D} {k : List Key} {v : V} (e : tupKD d = some k) (r : Rep K A H d v) : ∃ b, v = .ref b ∧ H b = some (.tup (k.map kV)) := by
  cases d <;> simp only [tupKD, reduceCtorEq] at e
  obtain ⟨b, us, rfl, h1, h2⟩ := rT.mp r
  rw [keysD_rep e h2] at h1
  exact ⟨b, rfl, h1⟩
end
section
variable {κ : Type} [DecidableEq κ]
def memK (ks : List κ) (k : κ) : Bool := decide (k ∈ ks)
def mapV (k : κ) (v : D) : List κ → List D → List D
  | k' :: ks, x :: xs => (if k' = k then v else x) :: mapV k v ks xs
  | _, _ => []
def putKs (ks : List κ) (k : κ) : List κ := if k ∈ ks then ks else ks ++ [k]
def putVs (ks : List κ) (vs : List D) (k : κ) (v : D) : List D := if k ∈ ks then mapV k v ks vs else vs ++ [v]
def getKs (k : κ) : List κ → List D → Option D
  | k' :: ks, x :: xs => if k' = k then some x else getKs k ks xs
  | _, _ => none
theorem any_mem {kvs : List (κ × V)} {k : κ} : (kvs.any fun kv => decide (kv.1 = k)) = decide (k ∈ kvs.map Prod.fst) := by
  induction kvs with
  | nil => rfl
  | cons p ps ih =>
    simp only [List.any_cons, List.map_cons, List.mem_cons, ih]
    by_cases e : p.1 = k
    · simp [e]
    · have : ¬ k = p.1 := fun z => e z.symm
      simp [e, this]
theorem putK_keys {kvs : List (κ × V)} {k : κ} {v : V} : (putK kvs k v).map Prod.fst = putKs (kvs.map Prod.fst) k := by
  unfold putK putKs
  rw [any_mem]
  by_cases e : k ∈ kvs.map Prod.fst
  · rw [if_pos (by simpa using e), if_pos e, List.map_map]
    refine List.map_congr_left fun p _ => ?_
    show (if p.1 = k then (p.1, v) else p).1 = p.1
    split <;> rfl
  · rw [if_neg (by simpa using e), if_neg e, List.map_append]; rfl
theorem mapV_rep {K : PySem.W.Frag} {A : Addr → Prop} {H : Hp} {k : κ} {d : D} {v : V} (r : Rep K A H d v) : ∀ {kvs : List (κ × V)} {ds : List D}, RepL K A H ds (kvs.map Prod.snd) → RepL K A H (mapV k d (kvs.map Prod.fst) ds) ((kvs.map fun kv => if kv.1 = k then (kv.1, v) else kv).map Prod.snd)
  | [], ds, h => by
    have := h.len
    have e : ds = [] := List.eq_nil_of_length_eq_zero (by simpa using this.symm)
    subst e
    exact RepL.nil
  | p :: ps, [], h => by have := h.len; simp at this
  | p :: ps, d' :: ds, h => by
    obtain ⟨v', us, e, h1, h2⟩ := h.uncons
    simp only [List.map_cons, List.cons.injEq] at e
    obtain ⟨e1, e2⟩ := e
    have h2 : RepL K A H ds (ps.map Prod.snd) := by rw [e2]; exact h2
    refine RepL.cons ?_ (mapV_rep r h2)
    by_cases e : p.1 = k
    · simp only [e, if_pos]; exact r
    · simp only [if_neg e]; rw [e1]; exact h1
theorem putK_rep {K : PySem.W.Frag} {A : Addr → Prop} {H : Hp} {k : κ} {d : D} {v : V} {kvs : List (κ × V)} {ds : List D} (r : Rep K A H d v) (h : RepL K A H ds (kvs.map Prod.snd)) : RepL K A H (putVs (kvs.map Prod.fst) ds k d) ((putK kvs k v).map Prod.snd) := by
  unfold putK putVs
  rw [any_mem]
  by_cases e : k ∈ kvs.map Prod.fst
  · simp only [decide_eq_true_eq, if_pos e]
    exact mapV_rep r h
  · simp only [decide_eq_true_eq, if_neg e, List.map_append]
    exact h.append (.one r)
theorem valV_mem {kvs : List (κ × V)} {k : κ} : (valV kvs k).isSome = decide (k ∈ kvs.map Prod.fst) := by rw [← valV_any, any_mem]
theorem getKs_rep {K : PySem.W.Frag} {A : Addr → Prop} {H : Hp} {k : κ} {d : D} : ∀ {kvs : List (κ × V)} {ds : List D}, RepL K A H ds (kvs.map Prod.snd) → getKs k (kvs.map Prod.fst) ds = some d → ∃ v, valV kvs k = some v ∧ Rep K A H d v
  | [], ds, h, e => by cases e
  | p :: ps, [], h, e => by cases e
  | p :: ps, d' :: ds, h, e => by
    obtain ⟨v', us, e', h1, h2⟩ := h.uncons
    simp only [List.map_cons, List.cons.injEq] at e'
    obtain ⟨e1, e2⟩ := e'
    have h2 : RepL K A H ds (ps.map Prod.snd) := by rw [e2]; exact h2
    unfold getKs at e
    simp only [List.map_cons] at e
    by_cases z : p.1 = k
    · rw [if_pos z] at e
      cases e
      exact ⟨p.2, valV_pos z, by rw [e1]; exact h1⟩
    · rw [if_neg z] at e
      obtain ⟨v, g1, g2⟩ := getKs_rep h2 e
      exact ⟨v, by rw [valV_neg z]; exact g1, g2⟩
end
theorem immL_mapV {κ : Type} [DecidableEq κ] {k : κ} {v : D} (hv : v.imm = true) : ∀ {ks : List κ} {vs : List D}, immL vs = true → immL (mapV k v ks vs) = true
  | [], [], _ => rfl
  | [], _ :: _, _ => rfl
  | _ :: _, [], _ => rfl
  | k' :: ks, x :: xs, h => by
    simp only [immL, Bool.and_eq_true] at h
    simp only [mapV, immL, Bool.and_eq_true]
    exact ⟨by split <;> simp [hv, h.1], immL_mapV hv h.2⟩

/-! {k: v} with a tuple as its key -/
section
variable {K : PySem.W.Frag} {S0 : Store} {H0 : Hp} {P P' : Addr → Prop} {S S1 : Store} {ρ : En} {σ : L2.St} {H H1 H2 : Hp}
theorem Evo.freshWrite {p : Addr} {o u : HO} (E : Evo K S H S1 H1) (hp : H p = none) (hS : S1 p = none) (hu : H1 p = some u) (ht : ∀ xs, u ≠ .tup xs) (hf : ∀ b w, u ≠ .frz b w) (hx : ∀ φ, u ≠ .ext φ := by intro φ z; cases z) : Evo K S H S1 (upd H1 p o) := by
  have k : Kp (fun a => a = p) H1 (upd H1 p o) := Kp.write rfl hu ht hf hx
  refine ⟨⟨fun b w e n t => ?_, fun b xs e => ?_, fun b w z e => ?_, fun b e => k.dom b (E.kp.dom b e), fun b φ e => k.ext b φ (E.kp.ext b φ e)⟩, E.dom, fun h a x e => (E.st h a x e).kp k fun w q => ?_⟩
  · rw [upd_ne (fun z => by rw [z, hp] at e; cases e)]; exact E.kp.keep b w e n t
  · exact k.tup b xs (E.kp.tup b xs e)
  · exact k.frz b w z (E.kp.frz b w z e)
  · rw [upd_ne (fun z => by rw [z, hS] at e; cases e)]; exact q
end
section
variable {X : Cx} {W : Wx} {l : Lvl} {pos : Pos}
def tDispT (tk tv : TE) : TE := fun σ H Q => ∀ p, H p = none → tk σ (upd H p (.dT [])) fun x H1 => tv σ H1 fun y H2 => ∃ b k, x = .ref b ∧ H2 b = some (.tup (k.map kV)) ∧ H2 p = some (.dT []) ∧ Q (.ref p) (upd H2 p (.dT [(k, y)]))
theorem pe_dispT {k v : Expr} {tk tv : TE} (hu : X.A.units + 64 < cLine) (hk : PE X k tk) (hv : PE X v tv) : PE X (.Dict [some k] [v] pos) (tDispT tk tv) := by
  refine ⟨fun pins s σ H Q I q => ?_⟩
  have hn := I.hok.fresh (Nat.le_refl s.heap.objs.size)
  have I1 := I.laid (a := s.heap.objs.size) (o := .dT []) (h' := s.heap.push { cls := .type "dict", data := .dict #[] }) (t' := s.toks) (fun _ _ q => Heap.get?_push_of_some _ q) (Nat.le_refl _) (dt_empty s.heap I.big)
  refine wpAny_Dict_any rfl rfl (by simp) (by simp) (pairTrees_cons_walk (thn (hk.run pins _ σ _ _ I1 (q _ hn)) fun u s1 ⟨x, H1, I1, rx, q1⟩ => thn (hv.run pins s1 σ H1 _ I1 q1) fun w2 s2 ⟨y, H2, I2, ry, q2⟩ => pairTrees_nil_walk ?_))
  obtain ⟨b, kk, rfl, hb, hp, q⟩ := q2
  cases rx
  unfold storeAll
  show wpAny _ _ (forIn [(Value.ref b, w2)] PUnit.unit _) _ _ _
  simp only [List.forIn_cons, List.forIn_nil]
  refine wpAny_bind (wpAny_bind (d_dictSetT (k := kk) (by omega) I2 hp hb (by rw [sizeLine_eq]; decide) ry fun s' I' _ => wpAny_pure (wpAny_pure ⟨.ref _, _, I', rfl, ?_⟩)))
  exact q
def fDispT (fk fv : F D) : F D := fun ρ S => (fk ρ S).bind fun x S => (fv ρ S).bind fun y S => match tupKD x with
  | some k => if y.imm then .ok (.dT [k] [y]) S else .no
  | none => .no
theorem ev_dispT {k v : Expr} {fk fv : F D} (hu : X.A.units + 64 < cLine) (hk : PE X k (tE W .any X.K fk)) (hv : PE X v (tE W .any X.K fv)) : PE X (.Dict [some k] [v] pos) (tE W .fr X.K (fDispT fk fv)) := by
  refine PE.imp (pe_dispT hu hk hv) fun σ H Q ⟨S0, H0, P, S, ρ, R, q⟩ p hp => ?_
  have E0 : Evo X.K S H S (upd H p (.dT [])) := .alloc hp
  have R0 := R.step E0
  have hSp : ∀ {S' : Store}, (∀ a, S' a = none ↔ S a = none) → S' p = none := fun {S'} h => (h p).mpr (Classical.byContradiction fun z => R.pH p (R.pS p z) hp)
  unfold fDispT at q
  refine ⟨S0, H0, P, S, ρ, R0, ?_⟩
  cases e1 : fk ρ S with
  | ok x S1 =>
    rw [e1, Out.bind_ok] at q
    intro H1 vx E1 rx
    have R1 := R0.step E1
    refine ⟨S0, H0, P, S1, ρ, R1, ?_⟩
    cases e2 : fv ρ S1 with
    | ok y S2 =>
      rw [e2, Out.bind_ok] at q
      intro H2 vy E2 ry
      have R2 := R1.step E2
      cases e3 : tupKD x with
      | none => rw [e3] at q; exact q.elim
      | some kk =>
        rw [e3] at q
        simp only at q
        split at q
        · rename_i hi
          obtain ⟨b, rfl, hb⟩ := tupKD_rep e3 (RepAt.rep rx)
          have EE := (E0.trans E1).trans E2
          have hpd : H2 p = some (.dT []) := E2.kp.keep _ _ (E1.kp.keep _ _ upd_same fun z => z (hSp fun _ => Iff.rfl)) fun z => z (hSp fun a => E1.dom a)
          refine ⟨b, kk, rfl, E2.kp.tup _ _ hb, hpd, q _ _ (EE.freshWrite hp (hSp EE.dom) hpd (fun _ z => by cases z) fun _ _ z => by cases z) ?_⟩
          show Rep X.K (dH H) _ (.dT [kk] [y]) _
          unfold Rep
          refine ⟨p, [(kk, vy)], rfl, fun z => z hp, upd_same, rfl, .one ?_⟩
          exact Rep.im hi (Rep.kp (A := fun a => a = p) (Kp.write rfl hpd (fun _ z => by cases z) fun _ _ z => by cases z) (Rep.im hi (RepAt.rep ry)))
        · exact q.elim
    | ex x S2 => rw [e2] at q; exact fun H2 E2 => q H2 ((E0.trans E1).trans E2)
    | no => rw [e2] at q; exact q
  | ex x S1 => rw [e1] at q; exact fun H1 E1 => q H1 (E0.trans E1)
  | no => rw [e1] at q; exact q
/-! {} -/
theorem ev_dnewK : PE X (.Dict [] [] pos) (tE W .fr X.K (fC (.dK [] []))) := PE.imp pe_dnewK fun σ H Q ⟨S0, H0, P, S, ρ, R, q⟩ p hp => q _ _ (.alloc hp) (by
  show Rep X.K (dH H) _ (.dK [] []) _
  unfold Rep
  exact ⟨p, [], rfl, fun z => z hp, upd_same, rfl, .nil⟩)
theorem ev_dnewT : PE X (.Dict [] [] pos) (tE W .fr X.K (fC (.dT [] []))) := PE.imp pe_dnewT fun σ H Q ⟨S0, H0, P, S, ρ, R, q⟩ p hp => q _ _ (.alloc hp) (by
  show Rep X.K (dH H) _ (.dT [] []) _
  unfold Rep
  exact ⟨p, [], rfl, fun z => z hp, upd_same, rfl, .nil⟩)
/-! in, not in, d[k] -/
def hasD (k d : D) : Option Bool := match d with
  | .dT ks _ => (tupKD k).map fun kk => memK ks kk
  | .dK ks _ => (keyD k).map fun kk => memK ks kk
  | _ => none
theorem hasD_rep {K : PySem.W.Frag} {A : Addr → Prop} {H : Hp} {k d : D} {b : Bool} {x y : V} (e : hasD k d = some b) (rk : Rep K A H k x) (rd : Rep K A H d y) : ∃ a o, y = .ref a ∧ DGet H a x o ∧ o.isSome = b := by
  cases d <;> simp only [hasD, reduceCtorEq] at e
  · simp only [Option.map_eq_some_iff] at e
    obtain ⟨kk, h1, rfl⟩ := e
    unfold Rep at rd
    obtain ⟨a, kvs, rfl, _, h2, h3, h4⟩ := rd
    rw [keyD_rep h1 rk]
    exact ⟨a, _, rfl, .k h2, by rw [valV_mem, h3]; rfl⟩
  · simp only [Option.map_eq_some_iff] at e
    obtain ⟨kk, h1, rfl⟩ := e
    unfold Rep at rd
    obtain ⟨a, kvs, rfl, _, h2, h3, h4⟩ := rd
    obtain ⟨b, rfl, hb⟩ := tupKD_rep h1 rk
    exact ⟨a, _, rfl, .t h2 hb, by rw [valV_mem, h3]; rfl⟩
def gDIn (k d : D) : Option D := (hasD k d).map .bl
def gDNotIn (k d : D) : Option D := (hasD k d).map fun b => .bl (!b)
def rDIn : R2 := fun y x H Q => ∃ a o, x = .ref a ∧ DGet H a y o ∧ Q (.bl o.isSome) H
def rDNotIn : R2 := fun y x H Q => ∃ a o, x = .ref a ∧ DGet H a y o ∧ Q (.bl (!o.isSome)) H
theorem g2_din {K : PySem.W.Frag} {t : Bool} : G2 K t rDIn gDIn := G2.flat fun A x y dx dy d H Q hx hy e => by
  simp only [gDIn, Option.map_eq_some_iff] at e
  obtain ⟨b, h1, rfl⟩ := e
  obtain ⟨a, o, rfl, h2, h3⟩ := hasD_rep h1 hx hy
  exact ⟨rfl, fun q => ⟨a, o, rfl, h2, by rw [h3]; exact q _ (rB.mpr rfl)⟩⟩
theorem g2_dnotin {K : PySem.W.Frag} {t : Bool} : G2 K t rDNotIn gDNotIn := G2.flat fun A x y dx dy d H Q hx hy e => by
  simp only [gDNotIn, Option.map_eq_some_iff] at e
  obtain ⟨b, h1, rfl⟩ := e
  obtain ⟨a, o, rfl, h2, h3⟩ := hasD_rep h1 hx hy
  exact ⟨rfl, fun q => ⟨a, o, rfl, h2, by rw [h3]; exact q _ (rB.mpr rfl)⟩⟩
theorem fl_gDIn : ∀ x y d, gDIn x y = some d → flat1 d = true := fun x y d e => by
  simp only [gDIn, Option.map_eq_some_iff] at e
  obtain ⟨b, _, rfl⟩ := e; rfl
theorem fl_gDNotIn : ∀ x y d, gDNotIn x y = some d → flat1 d = true := fun x y d e => by
  simp only [gDNotIn, Option.map_eq_some_iff] at e
  obtain ⟨b, _, rfl⟩ := e; rfl
theorem ev_din {a b : Expr} {fa fb : F D} (hu : X.A.units + 64 < cLine) (ha : PE X a (tE W .any X.K fa)) (hb : PE X b (tE W .any X.K fb)) (hm : behindInMarks .In b = false := by rfl) : PE X (.Compare a [.In] [b] pos) (tE W .any X.K (fBin gDIn fa fb)) :=
  PE.imp (pe_cmp (pc_din (by omega) ha hb) hm) fun _ _ _ h => tE_bin (l := .any) (t := true) g2_din (by intro h; cases h) h
theorem ev_dnotin {a b : Expr} {fa fb : F D} (hu : X.A.units + 64 < cLine) (ha : PE X a (tE W .any X.K fa)) (hb : PE X b (tE W .any X.K fb)) (hm : behindInMarks .NotIn b = false := by rfl) : PE X (.Compare a [.NotIn] [b] pos) (tE W .any X.K (fBin gDNotIn fa fb)) :=
  PE.imp (pe_cmp (pc_dnotin (by omega) ha hb) hm) fun _ _ _ h => tE_bin (l := .any) (t := true) g2_dnotin (by intro h; cases h) h
theorem et_din {a b : Expr} {fa fb : F D} (hu : X.A.units + 64 < cLine) (ha : PE X a (tE W .any X.K fa)) (hb : PE X b (tE W .any X.K fb)) (hm : behindInMarks .In b = false := by rfl) : PT X (.Compare a [.In] [b] pos) (tT W X.K (fB (fBin gDIn fa fb))) :=
  PT.imp (pt_cmp (pc_din (by omega) ha hb) hm) fun _ _ _ h => tE_bin (l := .any) (t := true) g2_din (by intro h; cases h) (tT_of h)
theorem et_dnotin {a b : Expr} {fa fb : F D} (hu : X.A.units + 64 < cLine) (ha : PE X a (tE W .any X.K fa)) (hb : PE X b (tE W .any X.K fb)) (hm : behindInMarks .NotIn b = false := by rfl) : PT X (.Compare a [.NotIn] [b] pos) (tT W X.K (fB (fBin gDNotIn fa fb))) :=
  PT.imp (pt_cmp (pc_dnotin (by omega) ha hb) hm) fun _ _ _ h => tE_bin (l := .any) (t := true) g2_dnotin (by intro h; cases h) (tT_of h)
def gDGet (d k : D) : Option D := match d with
  | .dT ks vs => (tupKD k).bind fun kk => getKs kk ks vs
  | .dK ks vs => (keyD k).bind fun kk => getKs kk ks vs
  | _ => none
def rDGet : R2 := fun x y H Q => ∃ a v, x = .ref a ∧ DGet H a y (some v) ∧ Q v H
theorem g2_dget {K : PySem.W.Frag} : G2 K false rDGet gDGet := by
  intro A x y dx dy d H Q hA hx hy e q
  have fin : ∀ {v : V}, Rep K A H d v → Q v H := fun {v} rv => q H v (Same.refl H) rv (by intro h; cases h)
  cases dx <;> simp only [gDGet, reduceCtorEq] at e
  · simp only [Option.bind_eq_some_iff] at e
    obtain ⟨kk, h1, h5⟩ := e
    unfold Rep at hx
    obtain ⟨a, kvs, rfl, _, h2, h3, h4⟩ := hx
    rw [← h3] at h5
    obtain ⟨v, g1, g2⟩ := getKs_rep h4 h5
    rw [keyD_rep h1 hy]
    exact ⟨a, v, rfl, g1 ▸ DGet.k h2, fin g2⟩
  · simp only [Option.bind_eq_some_iff] at e
    obtain ⟨kk, h1, h5⟩ := e
    unfold Rep at hx
    obtain ⟨a, kvs, rfl, _, h2, h3, h4⟩ := hx
    rw [← h3] at h5
    obtain ⟨v, g1, g2⟩ := getKs_rep h4 h5
    obtain ⟨b, rfl, hb⟩ := tupKD_rep h1 hy
    exact ⟨a, v, rfl, g1 ▸ DGet.t h2 hb, fin g2⟩
theorem ev_dget {a b : Expr} {fa fb : F D} (hu : X.A.units + 64 < cLine) (ha : PE X a (tE W .any X.K fa)) (hb : PE X b (tE W .any X.K fb)) (hs : NoSl b := by intro _ _; rfl) : PE X (.Subscript a b pos) (tE W .any X.K (fBin gDGet fa fb)) :=
  PE.imp (pe_dget (by omega) ha hb hs) fun _ _ _ h => tE_bin (l := .any) (t := false) g2_dget (by intro h; cases h) h
/-! d[k] = v of one's own dict -/
def gDPut (d k v : D) : Option D := match d with
  | .dT ks vs => (tupKD k).bind fun kk => if v.imm && okLen (ks.length + 1) then some (.dT (putKs ks kk) (putVs ks vs kk v)) else none
  | .dK ks vs => (keyD k).bind fun kk => if v.imm && okLen (ks.length + 1) then some (.dK (putKs ks kk) (putVs ks vs kk v)) else none
  | _ => none
def sPutD (i : Nat) (fk fe : F D) : FS := fun ρ S => (fe ρ S).toS fun v S => match ρ[i]? with
  | some (.own d) => (fk ρ S).toS fun k S => match gDPut d k v with
    | some d' => .nx (ρ.set i (.own d')) S
    | none => .no
  | _ => .no
theorem es_putD (i : Nat) {x : Str} {k e : Expr} {p1 p2 : Pos} {fk fe : F D} (hu : X.A.units + 64 < cLine) (hk : PE X k (tE W .any X.K fk)) (he : PE X e (tE W .any X.K fe)) (hN : X.N[i]? = some x := by rfl) (hv : Vis X.env.scope x := by first | exact Or.inl rfl | exact Or.inr (Or.inl rfl) | exact Or.inr (Or.inr rfl))
    (hd : (x == ("__debug__" : Str)) = false := by decide) (hcd : (x == ("__classdict__" : Str)) = false := by decide) (hs : swapsWith e (some (.Subscript (.Name x p1) k p2)) pos.line X.env = pure false := by rfl) :
    PS X (.Assign [.Subscript (.Name x p1) k p2] e pos) (tS W X.K (sPutD i fk fe)) := by
  refine PS.imp (ps_dput (by omega) (pe_var hN hv hd hcd) hk he hs) fun Dn σ H ⟨S0, H0, P, S, ρ, R, q⟩ => tE_S R q fun d S1 H1 v E r q => ?_
  have R1 := R.step E
  have q := q.mono .refl (R.kpP E)
  split at q
  · rename_i dd e
    obtain ⟨p, h1, h2, h3, h4, h5⟩ := R1.own i _ e
    refine ⟨.ref p, h1, tE_S R1 q fun kd S2 H2 vk E2 r2 q => ?_⟩
    have R2 := R1.step E2
    have q := q.mono .refl (R1.kpP E2)
    obtain ⟨p', g1, g2, g3, g4, g5⟩ := R2.own i _ e
    rw [h1] at g1; cases g1
    have rv := Rep.im (K := X.K) (A := avo P S H0 H .any) (H := H1) (d := d) (v := v) (B := avo P S1 H0 H1 .any)
    cases dd with
    | lst xs => exact q.elim
    | dK ks0 vs0 =>
      cases eg : gDPut _ kd d with
      | none => rw [eg] at q; exact q.elim
      | some d' =>
        rw [eg] at q
        simp only [gDPut, Option.bind_eq_some_iff] at eg
        obtain ⟨kk, k1, k2⟩ := eg
        split at k2
        · rename_i hi
          cases k2
          simp only [Bool.and_eq_true] at hi
          obtain ⟨kvs, t1, t2, t3⟩ := g5
          have hl := okLen_line hi.2
          rw [keyD_rep k1 (RepAt.rep r2)]
          refine ⟨p, _, rfl, .k t1 (by rw [← t2, List.length_map] at hl; omega), ?_⟩
          have kp : Kp (fun a => P a ∨ H0 a ≠ none) H2 (upd H2 p (.dK (putK kvs kk v))) := Kp.write (.inl g2) t1 (fun _ z => by cases z) fun _ _ z => by cases z
          have T : Top X.K (fun a => P a ∨ H0 a ≠ none) (upd H2 p (.dK (putK kvs kk v))) p (.dK (putKs ks0 kk) (putVs ks0 vs0 kk d)) := by
            refine ⟨_, upd_same, by rw [putK_keys, t2], RepL.kp kp ?_⟩
            rw [← t2]
            exact putK_rep (Rep.im hi.1 (Rep.kp E2.kp (Rep.im hi.1 (RepAt.rep r)))) t3
          obtain ⟨kk', R3⟩ := R2.write e h1 T
          exact q P σ _ .refl kk' R3
        · cases k2
    | dT ks0 vs0 =>
      cases eg : gDPut _ kd d with
      | none => rw [eg] at q; exact q.elim
      | some d' =>
        rw [eg] at q
        simp only [gDPut, Option.bind_eq_some_iff] at eg
        obtain ⟨kk, k1, k2⟩ := eg
        split at k2
        · rename_i hi
          cases k2
          simp only [Bool.and_eq_true] at hi
          obtain ⟨kvs, t1, t2, t3⟩ := g5
          have hl := okLen_line hi.2
          obtain ⟨b, rfl, hb⟩ := tupKD_rep k1 (RepAt.rep r2)
          refine ⟨p, _, rfl, .t t1 hb (by rw [← t2, List.length_map] at hl; omega), ?_⟩
          have kp : Kp (fun a => P a ∨ H0 a ≠ none) H2 (upd H2 p (.dT (putK kvs kk v))) := Kp.write (.inl g2) t1 (fun _ z => by cases z) fun _ _ z => by cases z
          have T : Top X.K (fun a => P a ∨ H0 a ≠ none) (upd H2 p (.dT (putK kvs kk v))) p (.dT (putKs ks0 kk) (putVs ks0 vs0 kk d)) := by
            refine ⟨_, upd_same, by rw [putK_keys, t2], RepL.kp kp ?_⟩
            rw [← t2]
            exact putK_rep (Rep.im hi.1 (Rep.kp E2.kp (Rep.im hi.1 (RepAt.rep r)))) t3
          obtain ⟨kk', R3⟩ := R2.write e h1 T
          exact q P σ _ .refl kk' R3
        · cases k2
    | _ => exact g5.elim
  · exact q.elim
end
end CB
set_option Elab.async false
set_option linter.all false
set_option maxRecDepth 100000
namespace CB
open PySem PySem.Spec PyProof.Rows L2
section
variable {K : PySem.W.Frag}
/-! dict(pairs) with tuple keys -/
def dictOf : List D → List (List Key) → List D → Option (List (List Key) × List D)
  | [], ks, vs => some (ks, vs)
  | .tup [k, v] :: r, ks, vs => (tupKD k).bind fun kk => dictOf r (putKs ks kk) (putVs ks vs kk v)
  | _ :: _, _, _ => none
def gDict : List D → Option D
  | [.lst ps] => (dictOf ps [] []).map fun p => .dT p.1 p.2
  | _ => none
theorem dictOf_rep {A : Addr → Prop} {H : Hp} : ∀ {ds : List D} {vs : List V} {ks : List (List Key)} {xs : List D} {r : List (List Key) × List D} {kvs : List (List Key × V)}, RepL K A H ds vs → dictOf ds ks xs = some r → kvs.map Prod.fst = ks → RepL K A H xs (kvs.map Prod.snd) →
    ∃ L : List Pr, vs = L.map (fun q => V.ref q.1) ∧ (∀ q ∈ L, H q.1 = some (.tup [.ref q.2.1, q.2.2.2]) ∧ H q.2.1 = some (.tup (q.2.2.1.map kV))) ∧ (mergeT kvs L).map Prod.fst = r.1 ∧ RepL K A H r.2 ((mergeT kvs L).map Prod.snd)
  | [], vs, ks, xs, r, kvs, h, e, hk, hx => by
    unfold RepL at h
    subst h
    cases e
    exact ⟨[], rfl, (fun _ h => by cases h), hk, hx⟩
  | d :: ds, vs, ks, xs, r, kvs, h, e, hk, hx => by
    obtain ⟨k, v, rfl⟩ : ∃ k v, d = .tup [k, v] := by
      cases d <;> try (cases e)
      rename_i zs
      rcases zs with _ | ⟨a, _ | ⟨b, _ | ⟨c, zs⟩⟩⟩
      · cases e
      · cases e
      · exact ⟨a, b, rfl⟩
      · cases e
    unfold dictOf at e
    simp only [Option.bind_eq_some_iff] at e
    obtain ⟨kk, h1, e⟩ := e
    obtain ⟨u, us, rfl, g1, g2⟩ := h.uncons
    obtain ⟨p, ws, rfl, g3, g4⟩ := rT.mp g1
    obtain ⟨w1, w2, rfl, g5, g6⟩ := g4.two'
    obtain ⟨b, rfl, g7⟩ := tupKD_rep h1 g5
    have hx' : RepL K A H (putVs ks xs kk v) ((putK kvs kk w2).map Prod.snd) := by rw [← hk]; exact putK_rep g6 hx
    obtain ⟨L, rfl, hL, m1, m2⟩ := dictOf_rep g2 e (by rw [putK_keys, hk]) hx'
    refine ⟨(p, b, kk, w2) :: L, rfl, fun q hq => ?_, m1, m2⟩
    rcases List.mem_cons.mp hq with rfl | hq
    · exact ⟨g3, g7⟩
    · exact hL q hq
theorem gn_dict {t : Bool} : GN K t (rDictP K) gDict := by
  intro A vs ds d H Q hA hx e q
  unfold gDict at e
  split at e
  · rename_i ps
    simp only [Option.map_eq_some_iff] at e
    obtain ⟨r, h1, rfl⟩ := e
    obtain ⟨v, rfl, h⟩ := hx.one'
    obtain ⟨a, us, rfl, _, h2, h3⟩ := rL.mp h
    obtain ⟨L, rfl, hL, m1, m2⟩ := dictOf_rep (kvs := []) h3 h1 rfl RepL.nil
    refine ⟨a, L, rfl, h2, hL, fun p hp => q _ _ (same_upd hp) ?_ fun _ _ => ?_⟩
    · unfold Rep
      exact ⟨p, _, rfl, fun z => hA p z hp, upd_same, m1, RepL.kp (Kp.of_same (same_upd hp)) m2⟩
    · exact ⟨p, rfl, hp, _, upd_same, m1, RepL.kp (Kp.of_same (same_upd hp)) m2⟩
  · cases e
/-! list(d), sorted(d) -/
def keyV : Key → D
  | .inl i => .int i
  | .inr s => .str s
def tupKV (k : List Key) : D := .tup (k.map keyV)
theorem rep_keyV {A : Addr → Prop} {H : Hp} : ∀ k : List Key, RepL K A H (k.map keyV) (k.map kV)
  | [] => .nil
  | .inl i :: r => .cons (CB.rI.mpr rfl) (rep_keyV r)
  | .inr i :: r => .cons (rS.mpr rfl) (rep_keyV r)
def gListD : List D → Option D
  | [.dT ks _] => some (.lst (ks.map tupKV))
  | _ => none
theorem rep_keys {A : Addr → Prop} {H : Hp} : ∀ {kvs : List (List Key × V)} {bs : List Addr}, IsKeys H kvs bs → RepL K A H ((kvs.map Prod.fst).map tupKV) (bs.map V.ref)
  | _, _, .nil => .nil
  | _, _, .cons h t => .cons (rT.mpr ⟨_, _, rfl, h, rep_keyV _⟩) (rep_keys t)
theorem gn_listD {t : Bool} : GN K t (fun xs H Q => ∃ d kvs, xs = [V.ref d] ∧ Rd H d (.dT kvs) ∧ ∀ p bs, H p = none → IsKeys H kvs bs → Q (.ref p) (upd H p (.lst (bs.map V.ref)))) gListD := by
  intro A vs ds d H Q hA hx e q
  unfold gListD at e
  split at e
  · cases e
    obtain ⟨v, rfl, h⟩ := hx.one'
    unfold Rep at h
    obtain ⟨a, kvs, rfl, _, h2, h3, h4⟩ := h
    refine ⟨a, kvs, rfl, .of h2, fun p bs hp hk => ?_⟩
    have rr : RepL K A H _ (bs.map V.ref) := rep_keys hk
    rw [h3] at rr
    exact q _ _ (same_upd hp) (newL hA hp rr) fun _ => newFT hp rr
  · cases e
def inlsOf : List Key → Option (List Int)
  | [] => some []
  | .inl i :: r => (inlsOf r).map (i :: ·)
  | .inr _ :: _ => none
theorem inlsOf_eq : ∀ {ks : List Key} {is : List Int}, inlsOf ks = some is → ks = is.map Sum.inl
  | [], is, h => by cases h; rfl
  | .inl i :: r, is, h => by
    simp only [inlsOf, Option.map_eq_some_iff] at h
    obtain ⟨js, h1, rfl⟩ := h
    rw [inlsOf_eq h1]; rfl
  | .inr _ :: _, _, h => by cases h
@[simp] theorem inlsOf_map (is : List Int) : inlsOf (is.map Sum.inl) = some is := by
  induction is with
  | nil => rfl
  | cons i is ih => simp [inlsOf, ih]
def gSortedD : List D → Option D
  | [.dK ks _] => (inlsOf ks).bind fun is => if is.length < 64 then some (.lst ((sortI is).map .int)) else none
  | _ => none
theorem gn_sortedD {t : Bool} : GN K t (fun xs H Q => ∃ (a : Addr) (kvs : List (Key × V)) (ks : List Int), xs = [.ref a] ∧ Rd H a (.dK kvs) ∧ kvs.map (·.1) = ks.map Sum.inl ∧ ks.length < 64 ∧
    ∀ (ys : List Int) (p : Addr), ys.Perm ks → ys.Pairwise (· ≤ ·) → H p = none → Q (.ref p) (upd H p (.lst (ys.map V.int)))) gSortedD := by
  intro A vs ds d H Q hA hx e q
  unfold gSortedD at e
  split at e
  · simp only [Option.bind_eq_some_iff] at e
    obtain ⟨is, h1, e⟩ := e
    split at e
    · rename_i h64
      cases e
      obtain ⟨v, rfl, h⟩ := hx.one'
      unfold Rep at h
      obtain ⟨a, kvs, rfl, _, h2, h3, h4⟩ := h
      refine ⟨a, kvs, is, rfl, .of h2, by rw [← inlsOf_eq h1, ← h3], h64, fun ys p pm pw hp => ?_⟩
      rw [sortI_eq pm pw]
      have rr : RepL K A H ((sortI is).map .int) ((sortI is).map V.int) := RepL.ints.mpr rfl
      exact q _ _ (same_upd hp) (newL hA hp rr) fun _ => newFT hp rr
    · cases e
  · cases e
end
/-! the store's lists -/
section
variable {X : Cx} {W : Wx} {l : Lvl} {pos : Pos}
def fIxSt (fa fb : F D) : F D := fun ρ S => (fa ρ S).bind fun x S => (fb ρ S).bind fun y S => match x, y with
  | .val (.ref a), .int i => match S a with
    | some (.lst xs) => ofOpt (atI xs i) S
    | _ => .no
  | _, _ => .no
theorem immL_get {xs : List D} {i : Nat} {d : D} (h : immL xs = true) (e : xs[i]? = some d) : d.imm = true := by
  induction xs generalizing i with
  | nil => simp at e
  | cons x xs ih =>
    simp only [immL, Bool.and_eq_true] at h
    cases i with
    | zero => simp at e; rw [← e]; exact h.1
    | succ i => exact ih h.2 (by simpa using e)
theorem ev_ixSt {a b : Expr} {fa fb : F D} (ha : PE X a (tE W .any X.K fa)) (hb : PE X b (tE W .any X.K fb)) (hs : PlainIx b := by intro _ _; rfl) : PE X (.Subscript a b pos) (tE W l X.K (fIxSt fa fb)) := by
  refine PE.imp (pe_ix ix_seq ha hb hs) fun σ H Q ⟨S0, H0, P, S, ρ, R, q⟩ => ?_
  unfold fIxSt at q
  refine tE_seq R q fun x S1 H1 vx z1 E1 r1 q => ?_
  clear z1
  have R1 := R.step E1
  have q := OutE.step R E1 q
  refine tE_seq R1 q fun y S2 H2 vy z2 E2 r2 q => ?_
  clear z2
  have R2 := R1.step E2
  have q := OutE.step R1 E2 q
  have fin : ∀ (a : Addr) (i : Int), x = .val (.ref a) → y = .int i → rIx X.K vx vy H2 Q := by
    intro a i ex ey
    subst ex
    subst ey
    simp only at q
    cases es : S2 a with
    | none => rw [es] at q; exact q.elim
    | some so =>
      cases so with
      | ins _ _ _ _ => rw [es] at q; exact q.elim
      | tbl _ => rw [es] at q; exact q.elim
      | xd _ => rw [es] at q; exact q.elim
      | lst xs =>
        rw [es] at q
        simp only at q
        obtain ⟨hi, vs, h1, h2⟩ := R2.st a _ es
        have r1' := RepAt.rep r1
        unfold Rep at r1'
        subst r1'
        cases e3 : atI xs i with
        | none => rw [e3] at q; exact q.elim
        | some d =>
          rw [e3, ofOpt_some] at q
          obtain ⟨v, g1, g2⟩ := h2.at e3
          have di : d.imm = true := by
            obtain ⟨j, _, hj, _⟩ := atI_get e3
            exact immL_get hi hj
          refine .inl ⟨a, vs, i, v, rfl, CB.rI.mp (RepAt.rep r2), .of h1, g1, q H2 v .refl (.of (Rep.im di g2) fun _ ic => ?_)⟩
          cases d <;> simp [D.imm, isC] at di ic
  match x, y, q, fin with
  | .val (.ref a), .int i, _, fin => exact fin a i rfl rfl
  | .val (.ref a), .non, q, _ => exact q.elim
  | .val (.ref a), .bl _, q, _ => exact q.elim
  | .val (.ref a), .str _, q, _ => exact q.elim
def updS' (S : Store) (a : Addr) (o : SO) : Store := updS S a o
/-- row[k] = e of a list of the store -/
def sPutSt (i : Nat) (fk fe : F D) : FS := fun ρ S => (fe ρ S).toS fun d S => match ρ[i]? with
  | some (.ro (.val (.ref a))) => (fk ρ S).toS fun k S => match k with
    | .int k => match S a with
      | some (.lst xs) => match ixN xs.length k with
        | some j => if d.imm then .nx ρ (updS S a (.lst (xs.set j d))) else .no
        | none => .no
      | _ => .no
    | _ => .no
  | _ => .no
theorem immL_set {xs : List D} {j : Nat} {d : D} (h : immL xs = true) (hd : d.imm = true) : immL (xs.set j d) = true := by
  induction xs generalizing j with
  | nil => rfl
  | cons x xs ih =>
    simp only [immL, Bool.and_eq_true] at h
    cases j with
    | zero => simp [immL, hd, h.2]
    | succ j => simp [immL, h.1, ih h.2]
/-- a list of the store is written -/
theorem Evo.storeWrite {K : PySem.W.Frag} {S : Store} {H : Hp} {a : Addr} {xs ys : List D} {us : List V} (st : StOk K S H) (es : S a = some (.lst xs)) (hi : immL ys = true) (hr : RepL K (fun _ => False) H ys us) : Evo K S H (updS S a (.lst ys)) (upd H a (.lst us)) := by
  obtain ⟨_, vs, h1, _⟩ := st a _ es
  have hS : S a ≠ none := by rw [es]; simp
  have k : Kp (dS S) H (upd H a (.lst us)) := kp_upd hS h1
  refine ⟨k, fun b => ?_, fun st b o e => ?_⟩
  · unfold updS
    by_cases e : b = a
    · subst e; simp [es]
    · rw [if_neg e]
  · unfold updS at e
    by_cases eb : b = a
    · subst eb
      rw [if_pos rfl] at e
      cases e
      exact ⟨hi, us, upd_same, RepL.im hi (RepL.kp (A := dS S) k (RepL.im hi hr))⟩
    · rw [if_neg eb] at e
      exact (st b o e).kp (A := dS S) k fun u q => by rw [upd_ne eb]; exact q
theorem es_putSt (i : Nat) {x : Str} {k e : Expr} {p1 p2 : Pos} {fk fe : F D} (hk : PE X k (tE W .any X.K fk)) (he : PE X e (tE W .any X.K fe)) (hN : X.N[i]? = some x := by rfl) (hv : Vis X.env.scope x := by first | exact Or.inl rfl | exact Or.inr (Or.inl rfl) | exact Or.inr (Or.inr rfl))
    (hd : (x == ("__debug__" : Str)) = false := by decide) (hcd : (x == ("__classdict__" : Str)) = false := by decide)
    (ha : ∀ v, assign (.Subscript (.Name x p1) k p2) X.env v = (do
      let ov ← holding [v] (eval (.Name x p1) X.env)
      let iv ← holding [v, ov] (eval k X.env)
      standAt p2
      holding [v, ov, iv] (setItem ov iv v)
      release [v, ov, iv] []) := by intro _; rfl)
    (hs : swapsWithSole [.Subscript (.Name x p1) k p2] e pos.line X.env = pure false := by rfl) (hw : swappedStores [.Subscript (.Name x p1) k p2] e X.env = pure none := by rfl)
    (h1 : (assignEach [.Subscript (.Name x p1) k p2] X.env).map (·.2) = [assign (.Subscript (.Name x p1) k p2) X.env] := by rfl) :
    PS X (.Assign [.Subscript (.Name x p1) k p2] e pos) (tS W X.K (sPutSt i fk fe)) := by
  refine PS.imp (ps_asg he (pg_sub (pe_var hN hv hd hcd) hk set_list ha) hs hw h1) fun Dn σ H ⟨S0, H0, P, S, ρ, R, q⟩ => tE_S R q fun d S1 H1 v E r q => ?_
  have R1 := R.step E
  have q := q.mono .refl (R.kpP E)
  split at q
  · rename_i a e
    obtain ⟨v1, h1, h2⟩ := R1.ro i _ e
    unfold Rep at h2
    subst h2
    refine ⟨.ref a, h1, tE_S R1 q fun kd S2 H2 vk E2 r2 q => ?_⟩
    have R2 := R1.step E2
    have q := q.mono .refl (R1.kpP E2)
    cases kd with
    | int kk =>
      simp only at q
      cases es : S2 a with
      | none => rw [es] at q; exact q.elim
      | some so =>
        cases so with
        | ins _ _ _ _ => rw [es] at q; exact q.elim
        | tbl _ => rw [es] at q; exact q.elim
        | xd _ => rw [es] at q; exact q.elim
        | lst xs =>
          rw [es] at q
          simp only at q
          split at q
          · rename_i j ej
            split at q
            · rename_i di
              obtain ⟨hi, us, g1, g2⟩ := R2.st a _ es
              have E3 := Evo.storeWrite R2.st es (immL_set (j := j) hi di) (g2.set j (Rep.im di (Rep.kp E2.kp (Rep.im di (RepAt.rep r)))))
              exact ⟨a, us, kk, j, rfl, CB.rI.mp (RepAt.rep r2), g1, by rw [g2.len]; exact ej, q P σ _ .refl (R2.kpP E3) (R2.step E3)⟩
            · exact q.elim
          · exact q.elim
    | _ => exact q.elim
  · exact q.elim
end
end CB
set_option Elab.async false
set_option linter.all false
set_option maxRecDepth 100000
namespace CB
open PySem PySem.Spec PyProof.Rows L2

/-! a, b = x, y: each is one's own where it is a list or dict -/
def putSl (i : Nat) (d : D) (ρ : En) : Option En := if isC d then (if topImm d then some (ρ.set i (.own d)) else none) else if d.imm then some (ρ.set i (.ro d)) else none
section
variable {K : PySem.W.Frag} {S0 : Store} {H0 : Hp} {P P' : Addr → Prop} {S S1 : Store} {ρ ρ1 : En} {σ : L2.St} {H H1 H2 : Hp}
theorem Rel.put2 (R : Rel K S0 H0 P S ρ σ H) (E : Evo K S H S1 H1) {i : Nat} {d : D} {v : V} (r : RepAt K P S H0 H H1 d v .top) (h : putSl i d ρ = some ρ1) :
    ∃ P1, Grow P P1 H ∧ Rel K S0 H0 P1 S1 ρ1 (σ.set i (some v)) H1 := by
  unfold putSl at h
  split at h
  · rename_i hc
    split at h
    · rename_i ht
      cases h
      obtain ⟨p, rfl, h2, h3⟩ := r.2 hc
      obtain ⟨u, hu, _⟩ := h3.there
      exact ⟨_, grow_new h2, R.setOwn E i h2 (by rw [hu]; simp) (Top.im ht h3)⟩
    · cases h
  · split at h
    · rename_i hi
      cases h
      exact ⟨P, .refl, (R.step E).setRo i (Rep.im hi r.1)⟩
    · cases h
end
def sPar2 (i j : Nat) (f g : F D) : FS := fun ρ S => (f ρ S).toS fun a S => (g ρ S).toS fun b S => match (putSl i a ρ).bind fun ρ1 => putSl j b ρ1 with
  | some ρ2 => .nx ρ2 S
  | none => .no
section
variable {X : Cx} {W : Wx} {pos : Pos}
theorem par2_ok {S0 H0 P S ρ σ H Dn} {i j : Nat} {f g : F D} {R : List V → Hp → Prop} {ta tb : TE} (Rl : Rel X.K S0 H0 P S ρ σ H) (q : Good X.K W S0 H0 P H Dn (sPar2 i j f g ρ S))
    (hR : ∀ v1 v2 S2 H2 P2 ρ2, Grow P P2 H → Kp P H H2 → Rel X.K S0 H0 P2 S2 ρ2 ((σ.set i (some v1)).set j (some v2)) H2 → Good X.K W S0 H0 P H Dn (.nx ρ2 S2) → R [v1, v2] H2) :
    tCons (tE W .top X.K f) (tCons (tE W .top X.K g) tNil) σ H R := by
  unfold sPar2 at q
  refine tE_S Rl q fun d1 S1 H1 v1 E r q => ?_
  have R1 := Rl.step E
  refine ⟨S0, H0, P, S1, ρ, R1, ?_⟩
  cases e2 : g ρ S1 with
  | ex x S2 =>
    rw [e2] at q
    exact fun H2 E2 => q H2 (R1.evo.trans E2)
  | no => rw [e2] at q; exact q.elim
  | ok d2 S2 =>
    rw [e2, Out.toS_ok] at q
    intro H2 v2 E2 r2
    cases e3 : putSl i d1 ρ with
    | none => rw [e3] at q; exact q.elim
    | some ρ1 =>
      rw [e3, Option.bind_some] at q
      cases e4 : putSl j d2 ρ1 with
      | none => rw [e4] at q; exact q.elim
      | some ρ2 =>
        rw [e4] at q
        obtain ⟨P1, g1, Q1⟩ := Rl.put2 E r e3
        obtain ⟨P2, g2, Q2⟩ := Q1.put2 E2 (show RepAt X.K P1 S1 H0 H1 H2 d2 v2 .top from r2) e4
        have k1 := Rl.kpP E
        exact hR v1 v2 S2 H2 P2 ρ2 (g1.trans k1.dom g2) (k1.trans (R1.kpP E2)) Q2 q
theorem es_par2 (i j : Nat) {x y : Str} {a b : Expr} {px py pt : Pos} {kt k2 pt2} {f g : F D} (hN : X.N.Nodup) (hij : i ≠ j) (ha : PE X a (tE W .top X.K f)) (hb : PE X b (tE W .top X.K g)) (hc : X.calm = true := by rfl) (hi : X.N[i]? = some x := by rfl) (hj : X.N[j]? = some y := by rfl)
    (hx : X.env.scope.names.lookup x = some .local := by rfl) (hy : X.env.scope.names.lookup y = some .local := by rfl)
    (hw : swappedStores [.Tuple [.Name x px, .Name y py] kt pt] (.Tuple [a, b] k2 pt2) X.env = pure (some [x, y]) := by rfl)
    (hs : swapsWithSole [.Tuple [.Name x px, .Name y py] kt pt] (.Tuple [a, b] k2 pt2) pos.line X.env = pure false := by rfl) (h1 : starEach [a, b] X.env = (false, eval a X.env) :: starEach [b] X.env := by rfl) (h2 : starEach [b] X.env = (false, eval b X.env) :: starEach [] X.env := by rfl) :
    PS X (.Assign [.Tuple [.Name x px, .Name y py] kt pt] (.Tuple [a, b] k2 pt2) pos) (tS W X.K (sPar2 i j f g)) :=
  PS.imp (ps_par hc hN hi hj hij hx hy (pa_cons ha (pa_cons hb pa_nil h2) h1) hw hs) fun Dn σ H ⟨S0, H0, P, S, ρ, R, q⟩ => par2_ok (ta := tE W .top X.K f) (tb := tE W .top X.K g) R q fun v1 v2 S2 H2 P2 ρ2 g k R2 q => ⟨v1, v2, rfl, q P2 _ H2 g k R2⟩
/-- .. by way of the pair (a cell among the names) -/
theorem es_par2c (i j : Nat) {x y : Str} {a b : Expr} {px py pt : Pos} {kt k2 pt2} {f g : F D} (hN : X.N.Nodup) (ha : PE X a (tE W .top X.K f)) (hb : PE X b (tE W .top X.K g)) (hc : X.calm = true := by rfl) (hi : X.N[i]? = some x := by rfl) (hj : X.N[j]? = some y := by rfl)
    (hx : Loc X.env.scope x := by first | exact Or.inl rfl | exact Or.inr rfl) (hy : Loc X.env.scope y := by first | exact Or.inl rfl | exact Or.inr rfl)
    (hfx : X.fn x = true ∨ X.env.scope.names.lookup x = some .local := by first | exact .inl rfl | exact .inr rfl | assumption) (hfy : X.fn y = true ∨ X.env.scope.names.lookup y = some .local := by first | exact .inl rfl | exact .inr rfl | assumption)
    (hw : swappedStores [.Tuple [.Name x px, .Name y py] kt pt] (.Tuple [a, b] k2 pt2) X.env = pure none := by rfl)
    (hs : swapsWithSole [.Tuple [.Name x px, .Name y py] kt pt] (.Tuple [a, b] k2 pt2) pos.line X.env = pure false := by rfl) (h1 : starEach [a, b] X.env = (false, eval a X.env) :: starEach [b] X.env := by rfl) (h2 : starEach [b] X.env = (false, eval b X.env) :: starEach [] X.env := by rfl) :
    PS X (.Assign [.Tuple [.Name x px, .Name y py] kt pt] (.Tuple [a, b] k2 pt2) pos) (tS W X.K (sPar2 i j f g)) := by
  refine PS.imp (ps_asg (pe_tup (pa_cons ha (pa_cons hb pa_nil h2) h1)) (pg_tup hc (pgs_cons (pg_name (i := i) hN hi hx hfx) (pgs_cons (pg_name (i := j) hN hj hy hfy) pgs_nil))) hs hw) fun Dn σ H ⟨S0, H0, P, S, ρ, R, q⟩ => ?_
  unfold tAsg tTup
  refine par2_ok (ta := tE W .top X.K f) (tb := tE W .top X.K g) R q fun v1 v2 S2 H2 P2 ρ2 g k R2 q => ?_
  refine ⟨by show 2 ≤ sizeLine; decide, fun p hp => ?_⟩
  refine ⟨p, [v1, v2], rfl, .of upd_same, rfl, v1, [v2], rfl, v2, [], rfl, rfl, ?_⟩
  exact q P2 _ _ g (k.trans (Kp.of_same (same_upd hp))) (R2.step (.alloc hp))
end
end CB
set_option Elab.async false
set_option linter.all false
set_option maxRecDepth 100000
namespace CB
open PySem PySem.Spec PyProof.Rows L2

/-! a dict of one's own while its keys are gone through -/
def keysF : D → Option (List D)
  | .dK ks _ => some (ks.map kD)
  | .dT ks _ => some (ks.map fun k => .tup (k.map kD))
  | _ => none
section
variable {K : PySem.W.Frag} {S0 : Store} {H0 : Hp} {P P' A : Addr → Prop} {S S1 : Store} {ρ ρ1 : En} {σ : L2.St} {H H1 H2 : Hp} {p : Addr} {od : Obj} {u : HO}
mutual
theorem Rep.unlock (hp : H p = some (.frz od u)) (hu : ∀ vs, u ≠ .lst vs) : ∀ {d : D} {v : V}, d.imm = true → Rep K A H d v → Rep K A (upd H p u) d v
  | .non, _, _, h => h
  | .bl _, _, _, h => h
  | .int _, _, _, h => h
  | .str _, _, _, h => h
  | .val _, _, _, h => h
  | .tup ds, v, i, h => by
    unfold Rep at h ⊢
    obtain ⟨a, vs, e, s, r⟩ := h
    exact ⟨a, vs, e, by rw [upd_ne (fun z => by rw [z, hp] at s; cases s)]; exact s, RepL.unlock hp hu (by simpa [D.imm] using i) r⟩
  | .lst ds, v, i, h => by simp [D.imm] at i
  | .fro ds, v, i, h => by
    unfold Rep at h ⊢
    obtain ⟨a, vs, e, s, r⟩ := h
    refine ⟨a, vs, e, ?_, RepL.unlock hp hu (by simpa [D.imm] using i) r⟩
    rcases s with ⟨o, s⟩ | s
    · exact .inl ⟨o, by rw [upd_ne (fun z => by rw [z, hp] at s; cases s; exact hu _ rfl)]; exact s⟩
    · exact .inr s
  | .dK ks ds, v, i, h => by simp [D.imm] at i
  | .dT ks ds, v, i, h => by simp [D.imm] at i
  | .fdk ks, v, i, h => by simp [D.imm] at i
  | .fdv ks, v, i, h => by simp [D.imm] at i
  | .lam l, v, i, h => by
    unfold Rep at h ⊢
    obtain ⟨a, e, q⟩ := h
    exact ⟨a, e, q.kept (fun b φ z => by rw [upd_ne (fun w => by rw [w, hp] at z; cases z)]; exact z) fun b xs z => by rw [upd_ne (fun w => by rw [w, hp] at z; cases z)]; exact z⟩
theorem RepL.unlock (hp : H p = some (.frz od u)) (hu : ∀ vs, u ≠ .lst vs) : ∀ {ds : List D} {vs : List V}, immL ds = true → RepL K A H ds vs → RepL K A (upd H p u) ds vs
  | [], _, _, h => h
  | d :: ds, vs, i, h => by
    unfold RepL at h ⊢
    obtain ⟨v, r, e, h1, h2⟩ := h
    simp [immL] at i
    exact ⟨v, r, e, Rep.unlock hp hu i.1 h1, RepL.unlock hp hu i.2 h2⟩
end
theorem StOk.unlock (hp : H p = some (.frz od u)) (hu : ∀ vs, u ≠ .lst vs) (h : StOk K S H) : StOk K S (upd H p u) := fun a o e => by
  have := h a o e
  cases o with
  | lst xs =>
    obtain ⟨hi, vs, h1, h2⟩ := this
    exact ⟨hi, vs, by rw [upd_ne (fun z => by rw [z, hp] at h1; cases h1)]; exact h1, RepL.unlock hp hu hi h2⟩
  | ins c dx ks ds =>
    obtain ⟨hi, fs, h1, h3, h2⟩ := this
    exact ⟨hi, fs, by rw [upd_ne (fun z => by rw [z, hp] at h1; cases h1)]; exact h1, h3, RepL.unlock hp hu hi h2⟩
  | xd fs => exact (upd_ne (fun z => by have this : H a = some (.xd fs) := this; rw [z, hp] at this; cases this)).trans this
  | tbl q =>
    obtain ⟨ps, h1, h2, h3⟩ := this
    exact ⟨ps, by rw [upd_ne (fun z => by rw [z, hp] at h1; cases h1)]; exact h1, h2, fun pos cv hc => let ⟨c, e1, e2⟩ := h3 pos cv hc; ⟨c, e1, by rw [upd_ne (fun z => by rw [z, hp] at e2; cases e2)]; exact e2⟩⟩
/-- a list or dict that no slot has is written -/
theorem Rel.writeG (R : Rel K S0 H0 P S ρ σ H) {o : HO} (hP : P p) (hl : H p = some u) (ht : ∀ xs, u ≠ .tup xs) (hf : ∀ b w, u ≠ .frz b w) (hx : ∀ φ, u ≠ .ext φ) (h0 : H0 p = none) (hS : S p = none) (hown : ∀ (j : Nat) (d : D), ρ[j]? = some (.own d) → σ[j]? ≠ some (some (.ref p))) :
    Rel K S0 H0 P S ρ σ (upd H p o) := by
  have k : Kp P H (upd H p o) := Kp.write hP hl ht hf hx
  have k0 : Kp (dS S0) H0 (upd H p o) := by
    refine ⟨fun b w e n t => ?_, fun b xs e => ?_, fun b w z e => ?_, fun b e => k.dom b (R.evo.kp.dom b e), fun b φ e => k.ext b φ (R.evo.kp.ext b φ e)⟩
    · rw [upd_ne (fun z => by rw [z, h0] at e; cases e)]; exact R.evo.kp.keep b w e n t
    · exact k.tup b xs (R.evo.kp.tup b xs e)
    · exact k.frz b w z (R.evo.kp.frz b w z e)
  have stK : StOk K S (upd H p o) := fun a x e => (R.st a x e).kp (A := P) k fun w q => by
    rw [upd_ne (fun z => by rw [z, hS] at e; cases e)]; exact q
  exact {
    len := R.len
    ro := fun j d h => by
      obtain ⟨w, g1, g2⟩ := R.ro j d h
      exact ⟨w, g1, Rep.kp k g2⟩
    own := fun j d h => by
      obtain ⟨q, g1, g2, g3, g4, g5⟩ := R.own j d h
      refine ⟨q, g1, g2, g3, g4, g5.kp (k.mono fun a z => .inl z) fun w z _ => ?_⟩
      rw [upd_ne]
      · exact z
      · rintro rfl
        exact hown j d h g1
    inj := R.inj
    pS := R.pS
    pH := fun a h => k.dom a (R.pH a h)
    s0 := R.s0
    st := stK
    evo := ⟨k0, R.evo.dom, fun _ => stK⟩ }
theorem keysF_top {d : D} {xs : List D} (e : keysF d = some xs) (T : Top K A H p d) : ∃ u, H p = some u ∧ Mut (some u) ∧ KeysOf u xs ∧ (∀ vs, u ≠ .tup vs) ∧ (∀ b w, u ≠ .frz b w) ∧ (∀ vs, u ≠ .lst vs) ∧ ∀ φ, u ≠ .ext φ := by
  cases d <;> simp only [keysF, reduceCtorEq, Option.some.injEq] at e
  · obtain ⟨kvs, h1, h2, h3⟩ := T
    refine ⟨_, h1, trivial, ?_, (fun _ z => by cases z), (fun _ _ z => by cases z), (fun _ z => by cases z), fun _ z => by cases z⟩
    show xs = _
    rw [← e, ← h2, List.map_map]; rfl
  · obtain ⟨kvs, h1, h2, h3⟩ := T
    refine ⟨_, h1, trivial, ?_, (fun _ z => by cases z), (fun _ _ z => by cases z), (fun _ z => by cases z), fun _ z => by cases z⟩
    show xs = _
    rw [← e, ← h2, List.map_map]; rfl
theorem Rel.lock (R : Rel K S0 H0 P S ρ σ H) {i : Nat} {d : D} {xs : List D} (e : ρ[i]? = some (.own d)) (h : σ[i]? = some (some (.ref p))) (hk : keysF d = some xs) : ∃ u, H p = some u ∧ Mut (some u) ∧ KeysOf u xs ∧ (∀ vs, u ≠ .lst vs) ∧ (∀ vs, u ≠ .tup vs) ∧ (∀ b w, u ≠ .frz b w) ∧ P p ∧ H0 p = none ∧ S p = none ∧ (∀ φ, u ≠ .ext φ) ∧ ∀ od, Rel K S0 H0 P S (ρ.set i (.ro (.fdk xs))) σ (upd H p (.frz od u)) := by
  obtain ⟨q, h1, h2, h3, h4, h5⟩ := R.own i _ e
  rw [h] at h1; cases h1
  obtain ⟨u, g1, g2, g3, g4, g5, g6, g7⟩ := keysF_top hk h5
  refine ⟨u, g1, g2, g3, g6, g4, g5, h2, h3, h4, g7, fun od => ?_⟩
  have R1 := (R.drop i).writeG (o := .frz od u) h2 g1 g4 g5 g7 h3 h4 fun j d hj hs => by
    rcases get_set hj with ⟨_, z⟩ | ⟨ne, hj⟩
    · cases z
    · exact ne (R.inj i j _ _ _ e hj h hs)
  have R2 := R1.setRo i (d := .fdk xs) (v := .ref p) (by unfold Rep; exact ⟨p, od, u, rfl, upd_same, g3⟩)
  have e1 : (ρ.set i .no).set i (.ro (.fdk xs)) = ρ.set i (.ro (.fdk xs)) := by simp
  have e2 : σ.set i (some (.ref p)) = σ := by
    refine List.ext_getElem? fun j => ?_
    by_cases hj : i = j
    · subst hj; rw [set_at (lt_of_get h), h]
    · rw [List.getElem?_set_ne hj]
  rw [e1, e2] at R2
  exact R2
theorem Evo.unlock {S' : Store} (hp : H p = some u) (ht : ∀ xs, u ≠ .tup xs) (hf : ∀ b w, u ≠ .frz b w) (hu : ∀ vs, u ≠ .lst vs) (hx : ∀ φ, u ≠ .ext φ) (hS : S p = none) (st : StOk K S (upd H p (.frz od u))) (E : Evo K S (upd H p (.frz od u)) S' H1) : Evo K S H S' (upd H1 p u) := by
  have f1 : H1 p = some (.frz od u) := E.kp.frz _ _ _ upd_same
  refine ⟨⟨fun b o h n t => ?_, fun b xs h => ?_, fun b o w h => ?_, fun b h => ?_, fun b φ h => by
    have e : b ≠ p := fun e => by rw [e, hp] at h; exact hx _ (Option.some.inj h)
    rw [upd_ne e]; exact E.kp.ext b φ (by rw [upd_ne e]; exact h)⟩, E.dom, fun _ => (E.st st).unlock f1 hu⟩
  · by_cases e : b = p
    · subst e; rw [upd_same, ← h, hp]
    · rw [upd_ne e]; exact E.kp.keep b o (by rw [upd_ne e]; exact h) n t
  · have e : b ≠ p := fun e => by rw [e, hp] at h; exact ht _ (Option.some.inj h)
    rw [upd_ne e]; exact E.kp.tup b xs (by rw [upd_ne e]; exact h)
  · have e : b ≠ p := fun e => by rw [e, hp] at h; exact hf _ _ (Option.some.inj h)
    rw [upd_ne e]; exact E.kp.frz b o w (by rw [upd_ne e]; exact h)
  · by_cases e : b = p
    · subst e; rw [upd_same]; simp
    · rw [upd_ne e]; exact E.kp.dom b (by rw [upd_ne e]; exact h)
end
def fLock (i : Nat) (f : F D) : F D := fun ρ S => match ρ[i]? with
  | some (.own d) => match keysF d with
    | some xs => (f (ρ.set i (.ro (.fdk xs))) S).bindN fun y S => if flat1 y then .ok y S else .no
    | none => .no
  | _ => .no
section
variable {X : Cx} {W : Wx} {l : Lvl} {pos : Pos} {tg : Expr}
/-- an expression that goes through the keys of one's own dict and answers no thing -/
theorem ev_lock (i : Nat) {e : Expr} {f : F D} (h : PE X e (tE W .any X.K f)) : PE X e (tE W l X.K (fLock i f)) := by
  refine PE.imp (pe_lock h) fun σ H Q ⟨S0, H0, P, S, ρ, R, q⟩ => ?_
  unfold fLock at q
  split at q
  · rename_i d e
    split at q
    · rename_i xs ek
      obtain ⟨p, h1, _⟩ := R.own i _ e
      obtain ⟨u, g1, g2, g3, g4, g5, g6, g7, g8, g9, gx, RR⟩ := R.lock e h1 ek
      refine ⟨p, u, g1, g2, fun od => ⟨S0, H0, P, S, _, RR od, ?_⟩⟩
      cases ef : f (ρ.set i (.ro (.fdk xs))) S with
      | ex x S1 => rw [ef] at q; exact q.elim
      | no => rw [ef] at q; exact q.elim
      | ok y S1 =>
        rw [ef, Out.bindN_ok] at q
        intro H1 v E r
        refine ⟨E.kp.frz _ _ _ upd_same, ?_⟩
        split at q
        · rename_i fl
          refine q _ v (E.unlock g1 g5 g6 g4 gx g9 (RR od).st) (.of (Rep.flat fl (RepAt.rep r)) fun _ ic => ?_)
          cases y <;> simp [flat1, isC] at fl ic
        · exact q.elim
    · exact q.elim
  · exact q.elim
def tLockT (t : TT) : TT := fun σ H Q => ∃ d u, H d = some u ∧ Mut (some u) ∧ ∀ od, t σ (upd H d (.frz od u)) fun v H' => H' d = some (.frz od u) ∧ Q v (upd H' d u)
theorem pt_lock {e : Expr} {t : TT} (h : PT X e t) : PT X e (tLockT t) := by
  refine ⟨fun pins s σ H Q I hw => ?_⟩
  obtain ⟨d, u, hd, mu, hw⟩ := hw
  obtain ⟨od, I1⟩ := I.lock hd mu
  refine thn (h.run pins s σ _ _ I1 (hw od)) fun v s1 ⟨H1, I2, e2, q⟩ => ?_
  exact ⟨_, I2.unlock e2 (I.nofrz hd mu), q⟩
def fLockT (i : Nat) (f : F Bool) : F Bool := fun ρ S => match ρ[i]? with
  | some (.own d) => match keysF d with
    | some xs => (f (ρ.set i (.ro (.fdk xs))) S).bindN fun y S => .ok y S
    | none => .no
  | _ => .no
/-- a test that goes through the keys of one's own dict -/
theorem et_lock (i : Nat) {e : Expr} {f : F Bool} (h : PT X e (tT W X.K f)) : PT X e (tT W X.K (fLockT i f)) := by
  refine PT.imp (pt_lock h) fun σ H Q ⟨S0, H0, P, S, ρ, R, q⟩ => ?_
  unfold fLockT at q
  split at q
  · rename_i d e
    split at q
    · rename_i xs ek
      obtain ⟨p, h1, _⟩ := R.own i _ e
      obtain ⟨u, g1, g2, g3, g4, g5, g6, g7, g8, g9, gx, RR⟩ := R.lock e h1 ek
      refine ⟨p, u, g1, g2, fun od => ⟨S0, H0, P, S, _, RR od, ?_⟩⟩
      cases ef : f (ρ.set i (.ro (.fdk xs))) S with
      | ex x S1 => rw [ef] at q; exact q.elim
      | no => rw [ef] at q; exact q.elim
      | ok y S1 =>
        rw [ef, Out.bindN_ok] at q
        intro H1 E
        exact ⟨E.kp.frz _ _ _ upd_same, q _ (E.unlock g1 g5 g6 g4 gx g9 (RR od).st)⟩
    · exact q.elim
  · exact q.elim
theorem flat_lock {i : Nat} {f : F D} : ∀ ρ S d S', fLock i f ρ S = .ok d S' → flat1 d = true := fun ρ S d S' e => by
  unfold fLock at e
  split at e
  · split at e
    · cases ef : f (ρ.set i (.ro (.fdk _))) S with
      | ex x S1 => rw [ef] at e; cases e
      | no => rw [ef] at e; cases e
      | ok y S1 =>
        rw [ef, Out.bindN_ok] at e
        split at e
        · cases e; assumption
        · cases e
    · cases e
  · cases e
def fKeysF (f : F D) : F (List D) := fun ρ S => (f ρ S).bind fun d S => match d with
  | .fdk xs => .ok xs S
  | _ => .no
theorem kD_rep {K : PySem.W.Frag} {A : Addr → Prop} {H : Hp} (k : Key) : Rep K A H (kD k) (kV k) := by
  cases k
  · exact CB.rI.mpr rfl
  · exact rS.mpr rfl
theorem kDs_rep {K : PySem.W.Frag} {A : Addr → Prop} {H : Hp} : ∀ ks : List Key, RepL K A H (ks.map kD) (ks.map kV)
  | [] => .nil
  | k :: ks => .cons (kD_rep k) (kDs_rep ks)
theorem ei_keys {e : Expr} {f : F D} (h : PE X e (tE W .mu X.K f)) : PI X tg e (tI W X.K (fKeysF f)) := by
  refine PI.imp (pi_keys h) fun σ H Q ⟨S0, H0, P, S, ρ, R, q⟩ => tE_I R q fun d S1 H1 v _ E r q => ?_
  cases d with
  | fdk xs =>
    have r' := RepAt.rep r
    unfold Rep at r'
    obtain ⟨a, o, u, rfl, h1, h2⟩ := r'
    cases u with
    | dK kvs =>
      have h2 : xs = kvs.map fun kv => kD kv.1 := h2
      refine ⟨a, o, rfl, .inl ⟨kvs, h1, q H1 _ E ?_⟩⟩
      refine ⟨fun i H x H' => H' = H ∧ ∃ k v, kvs[i]? = some (k, v) ∧ x = kV k, ?_, fun i Ha x Hb hi k y => ?_⟩
      · have w := (walk_keys (d := a) (o := o) (kvs := kvs)).mono (G' := Kp P H1) (Y' := fun i H x H' => H' = H ∧ ∃ k v, kvs[i]? = some (k, v) ∧ x = kV k) (fun Hb k => k.frz _ _ _ h1) fun i H x H' _ _ y => y
        rwa [h2, List.length_map]
      · obtain ⟨rfl, kk, vv, e1, rfl⟩ := y
        exact ⟨Same.refl _, fun P' g => ⟨kD kk, by rw [h2, List.getElem?_map, e1]; rfl, kD_rep kk⟩⟩
    | dT kvs =>
      have h2 : xs = kvs.map fun kv => .tup (kv.1.map kD) := h2
      refine ⟨a, o, rfl, .inr ⟨kvs, h1, q H1 _ E ?_⟩⟩
      refine ⟨fun i H x H' => H' = H ∧ ∃ (k : List Key) (v : V) (q : Addr), kvs[i]? = some (k, v) ∧ x = .ref q ∧ H q = some (.tup (k.map kV)), ?_, fun i Ha x Hb hi k y => ?_⟩
      · have w := (walk_keysT (d := a) (o := o) (kvs := kvs)).mono (G' := Kp P H1) (Y' := fun i H x H' => H' = H ∧ ∃ (k : List Key) (v : V) (q : Addr), kvs[i]? = some (k, v) ∧ x = .ref q ∧ H q = some (.tup (k.map kV))) (fun Hb k => k.frz _ _ _ h1) fun i H x H' _ _ y => y
        rwa [h2, List.length_map]
      · obtain ⟨rfl, kk, vv, qq, e1, rfl, e2⟩ := y
        exact ⟨Same.refl _, fun P' g => ⟨.tup (kk.map kD), by rw [h2, List.getElem?_map, e1]; rfl, rT.mpr ⟨qq, _, rfl, e2, kDs_rep kk⟩⟩⟩
    | _ => exact h2.elim
  | _ => exact q.elim
end
end CB
set_option Elab.async false
set_option linter.all false
set_option maxRecDepth 100000
namespace CB
open PySem PySem.Spec PyProof.Rows L2

/-! the law: its first statement makes the row, which is an object from then on -/
def noOwn : En → Bool
  | [] => true
  | .own _ :: r => false
  | _ :: r => noOwn r
theorem noOwn_get : ∀ {ρ : En} {i : Nat} {d : D}, noOwn ρ = true → ρ[i]? ≠ some (.own d)
  | [], i, d, _ => by simp
  | .own _ :: r, _, _, h => by cases h
  | .no :: r, 0, d, h => by simp
  | .no :: r, i + 1, d, h => by simpa using noOwn_get (ρ := r) (i := i) (d := d) (by simpa [noOwn] using h)
  | .ro _ :: r, 0, d, h => by simp
  | .ro _ :: r, i + 1, d, h => by simpa using noOwn_get (ρ := r) (i := i) (d := d) (by simpa [noOwn] using h)
def S0e : Store := fun _ => none
/-- what the law's text does with the row's address -/
def LawRuns (i : Nat) (f1 f2 : FS) (ρ : En) : Prop := ∃ ρ1 ys, f1 ρ S0e = .nx ρ1 S0e ∧ ρ1[i]? = some (.own (.lst ys)) ∧ noOwn (ρ1.set i .no) = true ∧ immL ys = true ∧
  ∀ p, ∃ S2, f2 (ρ1.set i (.ro (.val (.ref p)))) (updS S0e p (.lst ys)) = .rt (.bl true) S2
section
variable {K : PySem.W.Frag} {S0 : Store} {H0 : Hp} {P P' A : Addr → Prop} {S S1 : Store} {ρ ρ1 : En} {σ : L2.St} {H H1 H2 : Hp} {p : Addr}
theorem Rel.promote (R : Rel K S0 H0 P S ρ σ H) {i : Nat} {ys : List D} (e : ρ[i]? = some (.own (.lst ys))) (hn : noOwn (ρ.set i .no) = true) (hi : immL ys = true) : ∃ p, S p = none ∧ Rel K (updS S p (.lst ys)) H P (updS S p (.lst ys)) (ρ.set i (.ro (.val (.ref p)))) σ H := by
  obtain ⟨p, h1, h2, h3, h4, vs, h5, h6⟩ := R.own i _ e
  refine ⟨p, h4, ?_⟩
  have no : ∀ (x : Sl) (j : Nat) (d : D), (∀ d, x ≠ .own d) → (ρ.set i x)[j]? ≠ some (.own d) := fun x j d hx h => by
    rcases get_set h with ⟨_, z⟩ | ⟨ne, h⟩
    · exact hx d z
    · exact noOwn_get (i := j) (d := d) hn (by rw [List.getElem?_set_ne ne]; exact h)
  exact {
    len := by simpa using R.len
    ro := fun j d h => by
      rcases get_set h with ⟨rfl, z⟩ | ⟨ne, h⟩
      · cases z; exact ⟨.ref p, h1, by unfold Rep; rfl⟩
      · exact R.ro j d h
    own := fun j d h => absurd h (no _ j d (by simp))
    inj := fun j k d e p h => absurd h (no _ j d (by simp))
    pS := fun a h => by
      unfold updS at h
      split at h
      · rename_i z; rw [z]; exact h2
      · exact R.pS a h
    pH := R.pH
    s0 := fun a h => by
      unfold updS at h
      split at h
      · rename_i z; rw [z, h5]; simp
      · exact R.pH a (R.pS a h)
    st := fun a o h => by
      unfold updS at h
      split at h
      · rename_i z
        cases h
        subst z
        exact ⟨hi, vs, h5, RepL.im hi h6⟩
      · exact R.st a o h
    evo := .refl }
end
def spLaw (K : PySem.W.Frag) : Sp := fun vs H Q _ => ∃ (a : Addr) (ns : List Int), vs = [.ref a] ∧ Only H ∧ SqL K H a (ns.map V.int) ∧ ns.length ≤ 63 ∧ ∀ H', Q (.bl true) H'
section
variable {X : Cx} {W : Wx} {pos : Pos}
def tLaw (K : PySem.W.Frag) (i : Nat) (f1 f2 : FS) : TS := fun Dn σ H => ∃ H0 ρ, Rel K S0e H0 (dS S0e) S0e ρ σ H ∧ LawRuns i f1 f2 ρ ∧ ∀ H', Dn.rt (.bl true) H'
theorem es_law (i : Nat) {st : Stmt} {rest : List Stmt} {f1 f2 : FS} (h1 : PS X st (tS W X.K f1)) (h2 : PSs X rest (tS W X.K f2)) : PSs X (st :: rest) (tLaw X.K i f1 f2) := by
  refine PSs.imp (pss_cons h1 h2) fun Dn σ H ⟨H0, ρ, R, ⟨ρ1, ys, e1, e2, e3, e4, e5⟩, q⟩ => ⟨S0e, H0, _, S0e, ρ, R, ?_⟩
  rw [e1]
  intro P' σ' H' g k R'
  obtain ⟨p, hp, R2⟩ := R'.promote e2 e3 e4
  obtain ⟨S2, e6⟩ := e5 p
  refine ⟨_, _, _, _, _, R2, ?_⟩
  rw [e6]
  intro H2 v E r
  unfold Rep at r
  rw [r]
  exact q H2
end
section
variable {K : PySem.W.Frag} {P : Program} {w : World} {mg : Str → Option Value} {base : Heap}
theorem only_frz {H : Hp} {a : Addr} {vs : List V} (h : Only H) (s : SqL K H a vs) : Frz K H a vs := by
  rcases s with (s | ⟨o, s⟩) | s
  · exfalso
    rcases h a with h | ⟨o, xs, h⟩
    · rw [h] at s; cases s
    · rw [h] at s; cases s
  · exact .inl ⟨o, s⟩
  · exact .inr s
theorem law_ok {st : Stmt} {f : Addr} {fd : FuncData} {N : List Str} {p : Str} (i : Nat) {k : Nat} {f1 f2 : FS} {s1 : Stmt} {rest : List Stmt} (F : Fun K "law" "law" st f fd) (S : FnScope N [p] (defScope st)) (eb : defBody st = s1 :: rest)
    (h1 : ∀ (cdv : Value) (A : Around) (outer : List Env) (s : Shared) (H : Hp) (E : XK), Room k (A.deeper (envOfC "law" (defScope st) s.heap.objs.size f cdv)) →
      PS (cxOf CX0 P w K mg base N "law" (defScope st) f cdv A outer s H E).nox s1 (tS (fun _ _ => False) K f1))
    (h2 : ∀ (cdv : Value) (A : Around) (outer : List Env) (s : Shared) (H : Hp) (E : XK), Room k (A.deeper (envOfC "law" (defScope st) s.heap.objs.size f cdv)) →
      PSs (cxOf CX0 P w K mg base N "law" (defScope st) f cdv A outer s H E).nox rest (tS (fun _ _ => False) K f2))
    (sem : ∀ ns : List Int, ns.length ≤ 63 → LawRuns i f1 f2 (.ro (.fro (ns.map D.int)) :: List.replicate (N.length - 1) Sl.no)) : FnOk P w K mg base CX0 (k + 1) f fd [p] (spLaw K) := by
  refine F.ok S (fun vs H Q E ⟨a, ns, e, _⟩ => by rw [e]; rfl) fun cdv A outer s H vs Q E hr ⟨a, ns, e, ho, hs, hl, q⟩ => ⟨tLaw K i f1 f2, ?_, ?_⟩
  · rw [eb]
    exact es_law i (h1 cdv A outer s H E hr) (h2 cdv A outer s H E hr)
  · subst e
    refine ⟨H, _, rel_start (n := N.length) (ds := [.fro (ns.map D.int)]) (S := S0e) (RepL.one ?_) (fun a o e => by cases e) (fun a h => absurd rfl h), ?_, q⟩
    · exact rF.mpr ⟨a, _, rfl, only_frz ho hs, RepL.ints.mpr rfl⟩
    · exact sem ns hl
end
/-- a def called at no depth at all -/
theorem def_none {P : Program} {w : World} {K : PySem.W.Frag} {mg : Str → Option Value} {base : Heap} {x : Str} {st : Stmt} {N ps : List Str} (k : Nat) (A : At K mg x st ps) (S : FnScope N ps (defScope st)) : Def1 P w K mg base x (k + 1) ps.length (runB N.length sNo) :=
  def_mk k A S fun f cdv A outer s H E hr => ess_never
end CB
set_option Elab.async false
set_option linter.all false
set_option maxRecDepth 100000
namespace CB
open PySem PySem.Spec PyProof.Rows L2

/-! what is raised, as data: a class by its name, the ints of its fields -/
def exD (x : Str) (is : List Int) : D := .tup [.str x, .tup (is.map .int)]
/-- the fields' names, the last one first -/
def exFlds (x : Str) : List Str :=
  if x = "BadCode" then ["number", "part"] else if x = "Halted" then ["done", "number"] else if x = "BadDeed" then ["number"] else ["row"]
/-- an exception with such a class and dict is what e tells -/
def XAt (mg : Str → Option Value) (e : D) (cls : Value) (d : Option Addr) (H : Hp) : Prop := ∃ (x : Str) (is : List Int) (C : Addr), e = exD x is ∧ mg x = some (.ref C) ∧ cls = .ref C ∧
  ((is = [] ∧ d = none) ∨ (is ≠ [] ∧ ∃ a, d = some a ∧ H a = some (.xd ((exFlds x).zip (is.map V.int)))))
/-- a wish of what is raised, of the data -/
def WofE (mg : Str → Option Value) (E : XK) : Wx := fun e H => ∀ cls d, XAt mg e cls d H → E cls d H
abbrev Wno : Wx := fun _ _ => False
/-- the promise of a def by data; it may raise -/
def spX (K : PySem.W.Frag) (mg : Str → Option Value) (n : Nat) (f : Sem1) : Sp := fun vs H Q E => vs.length = n ∧ ∃ ds S, RepL K (dS S) H ds vs ∧ StOk K S H ∧ (∀ a, S a ≠ none → H a ≠ none) ∧ match f ds S with
  | .ok d S' => ∀ H' v, Evo K S H S' H' → Rep K (dH H) H' d v → Q v H'
  | .ex e S' => ∀ H', Evo K S H S' H' → WofE mg E e H'
  | .no => False
section
variable {P : Program} {w : World} {K : PySem.W.Frag} {mg : Str → Option Value} {base : Heap}
theorem fn_okX {x qual : Str} {st : Stmt} {f : Addr} {fd : FuncData} {N ps : List Str} {k : Nat} {fs : FS} (F : Fun K x qual st f fd) (S : FnScope N ps (defScope st))
    (hbody : ∀ (cdv : Value) (A : Around) (outer : List Env) (s : Shared) (H : Hp) (E : XK), Room k (A.deeper (envOfC qual (defScope st) s.heap.objs.size f cdv)) →
      PSs (cxOf (L2.CX P w) P w K mg base N qual (defScope st) f cdv A outer s H E) (defBody st) (tS (WofE mg E) K fs)) : FnOk P w K mg base (L2.CX P w) (k + 1) f fd ps (spX K mg ps.length (runB N.length fs)) := by
  refine F.okX S (fun vs H Q E h => h.1) fun cdv A outer s H vs Q E hr h => ⟨_, hbody cdv A outer s H E hr, ?_⟩
  obtain ⟨hl, ds, Sx, r, st, sd, q⟩ := h
  refine ⟨Sx, H, dS Sx, Sx, _, rel_start (n := N.length) r st sd, ?_⟩
  unfold runB at q
  cases e : fs (ds.map Sl.ro ++ List.replicate (N.length - ds.length) Sl.no) Sx with
  | nx ρ S' => rw [e] at q; exact fun P' σ' H' g k R => q H' .non R.evo (by unfold Rep; rfl)
  | rt d S' => rw [e] at q; exact q
  | bk ρ S' => rw [e] at q; exact q.elim
  | ct ρ S' => rw [e] at q; exact q.elim
  | ex d S' => rw [e] at q; exact q
  | no => rw [e] at q; exact q.elim
/-- a def that may raise, by what it does -/
structure DefX (P : Program) (w : World) (K : PySem.W.Frag) (mg : Str → Option Value) (base : Heap) (x : Str) (k n : Nat) (sem : Sem1) : Prop where
  ex : ∃ f fd ps, FnOk P w K mg base (L2.CX P w) k f fd ps (spX K mg n sem) ∧ mg x = some (.ref f) ∧ PySem.W.keepIn K (.ref f) = true ∧ Binds K fd ps [] ∧ ps.length = n
theorem def_mkX {x : Str} {st : Stmt} {N ps : List Str} {fs : FS} (k : Nat) (A : At K mg x st ps) (S : FnScope N ps (defScope st))
    (hbody : ∀ (f : Addr) (cdv : Value) (A : Around) (outer : List Env) (s : Shared) (H : Hp) (E : XK), Room k (A.deeper (envOfC x (defScope st) s.heap.objs.size f cdv)) →
      PSs (cxOf (L2.CX P w) P w K mg base N x (defScope st) f cdv A outer s H E) (defBody st) (tS (WofE mg E) K fs)) : DefX P w K mg base x (k + 1) ps.length (runB N.length fs) := by
  obtain ⟨f, fd, F, hm, hb⟩ := A.ex
  exact ⟨f, fd, ps, fn_okX F S fun cdv A outer s H E hr => hbody f cdv A outer s H E hr, hm, F.kp, hb, rfl⟩
/-- where nothing is raised -/
theorem DefX.one {x : Str} {k n : Nat} {sem : Sem1} (h : DefX P w K mg base x k n sem) : Def1 P w K mg base x k n sem := by
  obtain ⟨f, fd, ps, F, h1, h2, h3, h4⟩ := h.ex
  refine ⟨f, fd, ps, ?_, h1, h2, h3, h4⟩
  refine ⟨fun vs H Q E z => z.1.trans h4.symm, fun A outer s H args us vs Q E hr e0 hb r q => codeAny_mono (F.run A outer s H args us vs Q (fun _ _ _ => False) hr e0 hb r ?_) fun r s' hq => ?_⟩
  · obtain ⟨hl, ds, S, r, st, sd, q⟩ := q
    refine ⟨hl, ds, S, r, st, sd, ?_⟩
    cases e : sem ds S with
    | ok d S' => rw [e] at q; exact q
    | ex d S' => rw [e] at q; exact q.elim
    | no => rw [e] at q; exact q.elim
  · cases r with
    | ok fl => cases fl <;> exact hq
    | error e =>
      obtain ⟨_, _, _, _, _, _, _, _, _, _, _, _, z⟩ := hq
      exact z.elim
end
section
variable {X : Cx} {E : XK} {pos : Pos} {k : Nat} {x : Str} {p : Pos} {e : Expr} {es : List Expr} {n : Nat} {sem : Sem1} {fa : F (List D)}
/-- f(..) of a def that may raise -/
theorem ev_callX (Dx : DefX X.prog X.w X.K X.mg X.base x k n sem) (tk : Takes X (fun cls d _ H => E cls d H)) (hr : Room k X.A) (hg : Gl X x) (ha : PA X (e :: es) (tA (WofE X.mg E) .any X.K fa))
    (hnl : ∀ ρ S ds S1, fa ρ S = .ok ds S1 → ds.length = n) (hdb : (x == ("__debug__" : Str)) = false := by decide) (he : starEach (e :: es) X.env = (false, eval e X.env) :: starEach es X.env := by rfl) (hpl : (backTo pos (starEach es X.env)).any (·.1) = false := by rfl) :
    PE X (.Call (.Name x p) (e :: es) [] pos) (tE (WofE X.mg E) .fr X.K (fCall sem fa)) := by
  obtain ⟨f, fd, ps, F, hm, hk, hb, hn⟩ := Dx.ex
  refine PE.imp (pe_callS (E := fun σ => WE (fun cls d _ H => E cls d H) σ) F hr hg hm hk hb (fun σ => passAt tk σ) ha hdb he hpl) fun σ H Q ⟨S0, H0, P, S, ρ, R, q⟩ => ?_
  refine ⟨S0, H0, P, S, ρ, R, ?_⟩
  cases e1 : fa ρ S with
  | ok ds S1 =>
    rw [fCall_ok e1] at q
    intro H1 vs E r
    have R1 := R.step E
    have r1 : RepL X.K (dS S1) H1 ds vs := RepL.av (fun a z => (dS_of E.dom a).mp z) r
    refine ⟨by rw [r.len]; exact hnl _ _ _ _ e1, ds, S1, r1, R1.st, fun a z => R1.pH a (R1.pS a z), ?_⟩
    cases e2 : sem ds S1 with
    | ok d S2 =>
      rw [e2] at q
      exact fun H' v E2 r2 => q H' v (E.trans E2) (Rep.av (fun a z => E.kp.dom a z) r2)
    | ex x S2 =>
      rw [e2] at q
      exact fun H' E2 => q H' (E.trans E2)
    | no => rw [e2] at q; exact q.elim
  | ex x S1 => unfold fCall at q; rw [e1] at q; exact q
  | no => unfold fCall at q; rw [e1] at q; exact q
end
/-! raise X('..'), X without an __init__ of its own -/
structure ExcAt (K : PySem.W.Frag) (mg : Str → Option Value) (x : Str) : Prop where
  ex : ∃ C, mg x = some (.ref C) ∧ PySem.W.excIn K C [.type "ValueError", .type "Exception", .type "BaseException", .type "object"] "ValueError.__new__" = true ∧ PySem.W.keepIn K (.ref C) = true ∧ PySem.W.subIn K (.ref C) (.type "BaseException") = some true ∧ PySem.W.typeIn K (.ref C) = some (.type "type")
def sRaise (x : Str) : FS := fun _ S => .ex (exD x []) S
section
variable {X : Cx} {E : XK} {x m : Str} {j : Nat} {p p2 p3 pos : Pos}
theorem es_raise (c : ExcAt X.K X.mg x) (hc : X.calm = true) (tk : Takes X (fun cls d _ H => E cls d H)) (hg : Gl X x) (hdb : (x == ("__debug__" : Str)) = false := by decide) :
    PS X (.Raise (some (.Call (.Name x p) [.Constant (.str m) j p2] [] p3)) none pos) (tS (WofE X.mg E) X.K (sRaise x)) := by
  obtain ⟨C, g, xi, k, b, t⟩ := c.ex
  refine PS.imp (ps_raise hc tk (pmk_own PySem.F.excBase_ValueError xi g k (raises_own b t) hg hdb)) fun Dn σ H ⟨S0, H0, P, S, ρ, R, q⟩ => ?_
  exact q H R.evo (.ref C) none ⟨x, [], C, rfl, g, rfl, .inl ⟨rfl, rfl⟩⟩
end
end CB
set_option Elab.async false
set_option linter.all false
set_option maxRecDepth 100000
namespace CB
open PySem PySem.Spec PyProof.Rows L2

/-! methods of lists, in expressions -/
def fMethL (g : List D → List D → Option D) (fo : F D) (fa : F (List D)) : F D := fun ρ S => (fo ρ S).bind fun x S => match x with
  | .lst xs => (fa ρ S).bind fun ds S => ofOpt (g xs ds) S
  | _ => .no
def GM (K : PySem.W.Frag) (r : V → List V → Hp → VK → Prop) (g : List D → List D → Option D) : Prop :=
  ∀ (A : Addr → Prop) (x : V) (vs : List V) (xs ds : List D) (d : D) (H : Hp) (Q : VK), Rep K A H (.lst xs) x → RepL K A H ds vs → g xs ds = some d → flat1 d = true ∧ ((∀ v, Rep K A H d v → Q v H) → r x vs H Q)
section
variable {X : Cx} {W : Wx} {l : Lvl}
theorem ev_bmL {o e : Expr} {es : List Expr} {id : String} {name : Str} {apos cpos : Pos} {r : V → List V → Hp → VK → Prop} {g : List D → List D → Option D} {fo : F D} {fa : F (List D)}
    (slot : Slot "list" name id) (hty : typeOf (.builtin id) = pure (.type "method_descriptor")) (hm : MtR X id r) (hg : GM X.K r g) (ho : PE X o (tE W .any X.K fo)) (ha : PA X (e :: es) (tA W .any X.K fa))
    (hbase : attributeBase o name X.env (eval o X.env) = eval o X.env := by rfl)
    (hfew : ((backTo cpos (starEach (e :: es) X.env)).all (fun x => !x.1) && (backToKw cpos (keywordEach [] X.env)).all (fun x => x.1.isSome)
      && decide ((e :: es).length + ([] : List Keyword).length + (if ([] : List Keyword).isEmpty then 0 else 1) < 30)) = true := by rfl)
    (hline : (apos.endLine == cpos.line) = true := by rfl) (hs : starEach (e :: es) X.env = (false, eval e X.env) :: starEach es X.env := by rfl) (hplain : (backTo cpos (starEach es X.env)).any (·.1) = false := by rfl) :
    PE X (.Call (.Attribute o name apos) (e :: es) [] cpos) (tE W .any X.K (fMethL g fo fa)) := by
  refine PE.imp (pe_bm PySem.F.plainAttrs_list slot hty hm ho ha hbase hfew hline hs hplain) fun σ H Q ⟨S0, H0, P, S, ρ, R, q⟩ => ?_
  unfold fMethL at q
  refine tE_seq R q fun d S1 H1 v _ E1 r1 q => ?_
  cases d with
  | lst xs =>
    have R1 := R.step E1
    have q : OutE .any X.K W P S1 H0 H1 Q ((fa ρ S1).bind fun ds S => ofOpt (g xs ds) S) := OutE.step R E1 q
    obtain ⟨a, vs, rfl, n1, h1, h2⟩ := rL.mp (RepAt.rep r1)
    refine ⟨.inl ⟨rfl, _, .of h1⟩, S0, H0, P, S1, ρ, R1, ?_⟩
    cases e2 : fa ρ S1 with
    | ok ds S2 =>
      rw [e2, Out.bind_ok] at q
      intro H2 us E2 r2
      cases eg : g xs ds with
      | none => rw [eg] at q; exact q.elim
      | some d =>
        rw [eg, ofOpt_some] at q
        have r1' : Rep X.K (dS S1) H1 (.lst xs) (.ref a) := Rep.av (fun a z => (dS_of E1.dom a).mp z) (RepAt.rep r1)
        obtain ⟨fl, k⟩ := hg _ (.ref a) us xs ds d H2 Q (Rep.kp E2.kp r1') r2 eg
        exact k fun v rv => q H2 v E2 rv
    | ex x S2 => rw [e2] at q; exact q
    | no => rw [e2] at q; exact q
  | _ => exact q.elim
theorem flat_methL {g : List D → List D → Option D} {fo : F D} {fa : F (List D)} (hg : ∀ xs ds d, g xs ds = some d → flat1 d = true) : ∀ ρ S d S1, fMethL g fo fa ρ S = .ok d S1 → flat1 d = true := by
  intro ρ S d S1 h
  unfold fMethL at h
  cases e : fo ρ S with
  | ok x S2 =>
    rw [e, Out.bind_ok] at h
    cases x with
    | lst xs =>
      simp only at h
      cases e2 : fa ρ S2 with
      | ok y S3 =>
        rw [e2, Out.bind_ok] at h
        cases e3 : g xs y with
        | some z => rw [e3] at h; cases h; exact hg _ _ _ e3
        | none => rw [e3] at h; cases h
      | ex _ _ => rw [e2] at h; cases h
      | no => rw [e2] at h; cases h
    | _ => cases h
  | ex _ _ => rw [e] at h; cases h
  | no => rw [e] at h; cases h
end
/-! xs.count(e), xs.index(e) -/
def rCountD (K : PySem.W.Frag) : V → List V → Hp → VK → Prop := fun x xs H Q => ∃ (a : Addr) (y : V) (d : PyData) (ds : List PyData), x = V.ref a ∧ xs = [y] ∧ Dp K H (V.ref a) (.list ds) ∧ Dp K H y d ∧
  SeqAt.shaped (.list ds) = true ∧ SeqAt.shaped d = true ∧ Q (.int (ds.countP fun z => PyData.eqv z d : Nat)) H
theorem mt_countD {X : Cx} (hu : X.A.units + 65 < cLine) : MtR X "list.count" (rCountD X.K) := by
  intro pins s σ H x xs v us Q I rx rxs h
  obtain ⟨a, y, d, ds, rfl, rfl, hl, hy, sl, sd, q⟩ := h
  cases rx
  obtain ⟨uy, rfl, ry⟩ := rxs.one
  obtain ⟨bs, r1⟩ := Dp.reads I d y uy hy ry
  have lay : PyData.canLayAll0 ds = true := SeqAt.canLay_of_shaped sl
  cases hl with
  | lst hs ha =>
    obtain ⟨its, rv, ⟨⟨cls, dd, data, sls⟩, n, ho, hc, hdn, hdt⟩, hlen⟩ := I.list hs
    simp only at hc hdt
    subst hc hdt
    obtain ⟨as, h4⟩ := Dp.readsAll I ds _ its ha rv
    have hmap := SeqAt.readsAll_map ds its as lay h4
    refine call_meets PySem.F.slot_list_count ⟨_, ho, rfl⟩ PySem.F.entry_list_count (PySem.F.args_list_count_2 _ _) (SeqAt.list_countAt a its.toArray n dd sls uy fun u => PyData.eqv (SeqAt.readOf s.heap u) d)
      ⟨ho, SeqAt.items_eqAt (vs := its.toArray) (show ReadsAll s.heap its.toArray.toList ds as from h4) r1 lay (SeqAt.canLay_of_shaped sd) (room_in_shaped sd hu), ?_⟩
    refine ⟨.int (ds.countP fun z => PyData.eqv z d : Nat), H, I.tok _, ⟨s.toks, ?_⟩, q⟩
    have e : its.toArray.toList.countP (fun u => PyData.eqv (SeqAt.readOf s.heap u) d) = ds.countP fun z => PyData.eqv z d := by
      rw [← hmap, List.countP_map]; rfl
    show Value.int ((its.toArray.toList.countP (fun u => PyData.eqv (SeqAt.readOf s.heap u) d) : Nat) : Int) s.toks = _
    rw [e]
def gCount (xs : List D) : List D → Option D
  | [d] => if SeqAt.shaped (.list (pyL xs)) && SeqAt.shaped d.py then some (.int ((pyL xs).countP fun z => PyData.eqv z d.py : Nat)) else none
  | _ => none
def gIndex (xs : List D) : List D → Option D
  | [d] => if SeqAt.shaped (.list (pyL xs)) && SeqAt.shaped d.py then (findEq d.py (pyL xs)).map fun j => .int (j : Nat) else none
  | _ => none
section
variable {K : PySem.W.Frag}
theorem gm_count : GM K (rCountD K) gCount := by
  intro A x vs xs ds d H Q rx rs e
  unfold gCount at e
  split at e
  · rename_i y
    split at e
    · rename_i hh
      cases e
      simp only [Bool.and_eq_true] at hh
      obtain ⟨v, rfl, hv⟩ := rs.one'
      obtain ⟨a, us, rfl, _, _, _⟩ := rL.mp rx
      have lay := SeqAt.canLay_of_shaped hh.1
      exact ⟨rfl, fun q => ⟨a, v, y.py, pyL xs, rfl, rfl, dp_of (d := .lst xs) lay rx, dp_of (SeqAt.canLay_of_shaped hh.2) hv, hh.1, hh.2, q _ (CB.rI.mpr rfl)⟩⟩
    · cases e
  · cases e
theorem gm_index : GM K (rIndexD K) gIndex := by
  intro A x vs xs ds d H Q rx rs e
  unfold gIndex at e
  split at e
  · rename_i y
    split at e
    · rename_i hh
      simp only [Option.map_eq_some_iff] at e
      obtain ⟨j, hj, rfl⟩ := e
      simp only [Bool.and_eq_true] at hh
      obtain ⟨v, rfl, hv⟩ := rs.one'
      obtain ⟨a, us, rfl, _, _, _⟩ := rL.mp rx
      obtain ⟨⟨z, g1, g2⟩, g3⟩ := findEq_some hj
      have lay := SeqAt.canLay_of_shaped hh.1
      exact ⟨rfl, fun q => ⟨a, v, y.py, pyL xs, j, z, rfl, rfl, dp_of (d := .lst xs) lay rx, dp_of (SeqAt.canLay_of_shaped hh.2) hv, hh.1, hh.2, g1, g2, g3, q _ (CB.rI.mpr rfl)⟩⟩
    · cases e
  · cases e
end
end CB
set_option Elab.async false
set_option linter.all false
set_option maxRecDepth 100000
namespace CB
open PySem PySem.Spec PyProof.Rows L2
open PySem.W in
/-- e.__class__ of an exception of an own class, with or without a dict -/
theorem exc_class {prog : Program} {w : World} {A : Around} {E : Value → Shared → Prop} {s : Shared} {K : Frag} {x D : Addr} {ox : Obj} {od : Option Obj} {Q : Option Value → Shared → Prop} (C : L2.ExcC K D) (X : K.In s.heap) (I : InstAt s.heap x ox D od)
    (h : Q (some (.ref D)) { s with toks := s.toks + 1 }) : wpAny (model prog w) A (getAttr? (.ref x) "__class__") Q E s := by
  obtain ⟨cdD, hcD, _⟩ := any_some C.hd
  have hf : findObj K D od "__class__" = some (.bind (.builtin "getset_descriptor.__get__") (.builtin "object.__class__")) := by
    unfold findObj; rw [hcD, Option.bind_some, C.ha, Option.bind_some]; simp [C.hn, C.ht]
  obtain ⟨hp, g, d, t, os⟩ := s
  have L0 := I.type (M := model prog w)
  have L1 := looks_findIn (M := model prog w) X C.hg
  have L2 := looks_findIn (M := model prog w) X C.hk
  have L3 := looks_find (M := model prog w) X I hf
  have sub : Looks (model prog w) hp (isInstance (.ref x) (.type "BaseException")) true := L0.andThen (looks_subIn X C.hs)
  have z1 : (false && onTheHeap (Value.builtin "BaseException.__getattribute__")) = false := rfl
  have z2 : (onTheHeap (Value.ref D) && Value.builtin "BaseException.__getattribute__" == Value.builtin "object.__getattribute__") = false := by rw [show (Value.builtin "BaseException.__getattribute__" == Value.builtin "object.__getattribute__") = false from by decide +kernel]; rfl
  unfold getAttr? getAttrBy? getAttrBy
  refine wpAny_bind (wpAny_mkText (wpAny_bind (wpAny_attempt (wpAny_holding (wpAny_bind (L0.at (wpAny_bind (L1.at (by
    show wpAny _ _ (if (onTheHeap (Value.ref D) && Value.builtin "BaseException.__getattribute__" == Value.builtin "object.__getattribute__") = true then _ else _) _ _ _
    rw [z2, if_neg Bool.false_ne_true]
    unfold getAttrByItsOwn hookBefore
    refine wpAny_bind (by
      rw [if_pos (show onTheHeap (Value.ref D) = true from rfl)]
      refine L2.at (wpAny_bind (wpAny_attempt (wpAny_holding ?_)))
      unfold callGetattribute
      rw [z1, if_neg Bool.false_ne_true]
      unfold boundAndCalled
      rw [PySem.F.excAttr_ValueError.ga.bind (.ref x)]
      refine wpAny_bind (wpAny_pure ?_)
      show wpAny _ _ (call (.builtin "BaseException.__getattribute__") [.ref x, .str "__class__" t]) _ _ _
      refine wpAny_call (codeAny_call_builtin PySem.F.excAttr_ValueError.ga.plain PySem.F.entry_bexc_ga (@check_slot (model prog w) _ _ ⟨hp, g, d, t + 1, os⟩ "BaseException.__getattribute__" "BaseException" "__getattribute__" (.ref x) [.str "__class__" t] [] _ (by decide +kernel) (by decide +kernel) sub (PySem.F.args_bexc_ga (.ref x) (.str "__class__" t)) ?_))
      unfold Builtin.«object.__getattribute__»
      refine wpAny_bind (wpAny_of_eq (a := ((Value.ref x : Value), [Value.str "__class__" t])) (by first | rfl | (simp only [slotArgs]; rfl)) (wpAny_bind (wpAny_pure (wpAny_bind (L0.at (wpAny_bind (L3.at ?_)))))))
      show wpAny _ _ (holding [Value.builtin "object.__class__"] (call (.builtin "getset_descriptor.__get__") [.builtin "object.__class__", .ref x, .ref D]) >>= ret) _ _ _
      refine wpAny_bind (wpAny_holding (wpAny_call (class_get (s := ⟨hp, g, d, t + 1, os⟩) (ox := ox) (od := od) X I C.hm (wpAny_pure ?_))))
      show wpAny _ _ (handedOut (.ref D)) _ _ _
      rw [handedOut_of (v := .ref D) rfl]
      first | exact wpAny_pure (wpAny_pure h) | exact wpAny_pure h | exact wpAny_pure (wpAny_bind (wpAny_pure (wpAny_pure h)))))))))))))
open PySem.W in
theorem exc_kit {K : Frag} {x D : Addr} {ox : Obj} {od : Option Obj} (C : L2.ExcC K D) : KitX K (.ref x) (.ref D) (fun h => InstAt h x ox D od) where
  ty := fun _ _ _ I => I.type
  it := fun _ h X _ => by
    obtain ⟨cdD, hcD, _⟩ := any_some C.hd
    unfold clsIn at hcD
    split at hcD
    · rename_i ho
      intro A' Q' E' s' k q
      unfold isType loadHead
      exact wpAny_bind (wpAny_loadPart (k _ _ (X _ _ ho)) (wpAny_pure q))
    · cases hcD
  ne := fun h tp dd its n sl X htp => Bool.eq_false_iff.mpr fun q => by
    obtain ⟨cdD, hcD, _⟩ := any_some C.hd
    cases (Value.ref.inj (beq_iff_eq.mp q))
    unfold clsIn at hcD
    split at hcD
    · rename_i ho
      have z := (X _ _ ho).symm.trans htp
      cases z
    · cases hcD
  ca := fun X I k => exc_class C X I k
/-- isinstance(e, c), e the exception that the suite holds -/
def rIsG (K : PySem.W.Frag) (D a : Addr) (d : Option Addr) : List V → Hp → VK → Prop := fun xs H Q => ∃ (c : V) (cv : Value) (b : Bool), xs = [.ref a, c] ∧ (∀ u, RelV c u → u = cv) ∧ PySem.W.kitOne K (.ref D) cv = some b ∧ (∀ q, d = some q → ∃ fs, H q = some (.xd fs)) ∧ Q (.bl b) H
theorem call_isG {X : Cx} {a D : Addr} {d : Option Addr} {oe : Obj} {pn : List (Addr × Obj)} (C : ExcC X.K D) (hz : Zc (.ref D) d oe) (hf : ∃ vs, oe.data = .fields vs) : CallR (X.suite a ((a, oe) :: pn)) (.builtin "isinstance") (rIsG X.K D a d) := by
  intro pins s σ H xs us Q I r h
  obtain ⟨c, cv, b, rfl, hcv, e, hd, q⟩ := h
  cases r with
  | cons rx rr =>
    cases rr with
    | cons rt rr =>
    cases rr
    cases rx
    cases hcv _ rt
    obtain ⟨hget, _⟩ := I.pin (a, oe) (List.mem_append.mpr (.inl List.mem_cons_self))
    obtain ⟨vs, hv⟩ := hf
    have J : ∃ od, PySem.W.InstAt s.heap a oe D od := by
      obtain ⟨oc, od, oda, osl⟩ := oe
      obtain ⟨h1, h2⟩ := hz
      dsimp only at h1 h2 hv
      subst h1 h2 hv
      cases od with
      | none => exact ⟨none, hget, rfl, rfl, trivial⟩
      | some q =>
        obtain ⟨fs, hq⟩ := hd q rfl
        have hx : ObjOk X.prog X.w H s.heap q (.xd fs) := I.hok q _ hq
        obtain ⟨mA, hns, hr⟩ := hx
        obtain ⟨oo, ho, _⟩ := lookIn_ns hns
        exact ⟨some oo, hget, rfl, rfl, ho⟩
    obtain ⟨od, J⟩ := J
    exact PySem.W.kia_one (exc_kit C) I.kIn J e (fun z => nomatch z) fun tk => ⟨.bl b, H, I.kept (t' := tk) fun _ _ z => z, rfl, q⟩
/-! the classes of the program -/
def excNames : List Str := ["BadCode", "BadWord", "NotIn", "BadPlace", "BadSlips", "BadMeet", "BadCount", "BadWeights", "BadPrices", "BadDeed", "Halted", "BadText"]
def excKeys : List Str := ["code", "word", "notin", "place", "slips", "meet", "count", "weights", "prices", "deed", "halted", "text"]
/-- a class whose exceptions may be met -/
structure LiveX (K : PySem.W.Frag) (mg : Str → Option Value) (x : Str) (D : Addr) : Prop where
  hmg : mg x = some (.ref D)
  exc : ExcC K D
  xf : XfC K D
  is_ : ∀ c ∈ excNames, ∃ C, mg c = some (.ref C) ∧ PySem.W.kitOne K (.ref D) (.ref C) = some (decide (x = c))
  ve : PySem.W.kitOne K (.ref D) (.type "ValueError") = some true
  ce : ∃ C, mg "CodeError" = some (.ref C) ∧ PySem.W.exmOne K (.ref D) (.ref C) = some true
  fld : ∀ f ∈ exFlds x, PySem.W.findIn K (.ref D) f = some none
/-! words of the suite -/
def dOk (dd : Option Addr) (S : Store) : Bool := match dd with
  | none => true
  | some q => match S q with
    | some (.xd _) => true
    | _ => false
def slotA (ρ : En) (i : Nat) : Option Addr := match ρ[i]? with
  | some (.ro (.val (.ref a))) => some a
  | _ => none
theorem slotA_of {ρ : En} {i : Nat} {a : Addr} (h : slotA ρ i = some a) : ρ[i]? = some (.ro (.val (.ref a))) := by
  unfold slotA at h
  split at h
  · rename_i e; cases h; exact e
  · cases h
def fIsE (i : Nat) (a : Addr) (dd : Option Addr) (b : Bool) : F D := fun ρ S => if slotA ρ i = some a ∧ dOk dd S = true then .ok (.bl b) S else .no
def fFldE (x : Str) (i : Nat) (a : Addr) (dd : Option Addr) (f : Str) : F D := fun ρ S => if f ∈ exFlds x then (match dd with
  | some q => match S q with
    | some (.xd fs) => match fs.lookup f with
      | some (.int v) => if slotA ρ i = some a then .ok (.int v) S else .no
      | _ => .no
    | _ => .no
  | none => .no) else .no
theorem flat_isE {i a dd b} : ∀ ρ S d S1, fIsE i a dd b ρ S = .ok d S1 → flat1 d = true := by
  intro ρ S d S1 h
  unfold fIsE at h
  split at h
  · cases h; rfl
  · cases h
theorem dOk_of {K : PySem.W.Frag} {dd : Option Addr} {S : Store} {H : Hp} (st : StOk K S H) (h : dOk dd S = true) : ∀ q, dd = some q → ∃ fs, H q = some (.xd fs) := by
  rintro q rfl
  unfold dOk at h
  simp only at h
  split at h
  · rename_i fs e; exact ⟨fs, st q _ e⟩
  · cases h
section
variable {X : Cx} {W : Wx} {a D : Addr} {d : Option Addr} {oe : Obj} {pn : List (Addr × Obj)} {n x c : Str} {p p1 p2 pos : Pos} {l : Lvl}
theorem is_read {i : Nat} {b : Bool} {cv : Value} {c : V} {R1 : List V → Hp → Prop} {σ : L2.St} {H : Hp} {Q : VK} (hcv : ∀ u, RelV c u → u = cv) (hk : PySem.W.kitOne X.K (.ref D) cv = some b) (h : tE W .any X.K (fIsE i a d b) σ H Q) :
    tCB (rIsG X.K D a d) (tCons (tVar i) (tCons (tC c) tNil)) σ H Q := by
  obtain ⟨S0, H0, P, S, ρ, R, q⟩ := h
  unfold fIsE at q
  split at q
  · rename_i hh
    obtain ⟨v, h1, h2⟩ := R.ro i _ (slotA_of hh.1)
    unfold Rep at h2
    subst h2
    exact ⟨.ref a, h1, c, cv, b, rfl, hcv, hk, dOk_of R.st hh.2, q H _ .refl RepAt.bl⟩
  · exact q.elim
theorem ev_isE (i : Nat) (L : LiveX X.K X.mg x D) (hz : Zc (.ref D) d oe) (hf : ∃ vs, oe.data = .fields vs) (hc : c ∈ excNames) (hg : Gl X "isinstance") (hm : X.mg "isinstance" = none) (hgc : Gl X c)
    (hN : X.N[i]? = some n := by rfl) (hv : Vis X.env.scope n := by first | exact Or.inl rfl | exact Or.inr (Or.inl rfl) | exact Or.inr (Or.inr rfl)) (hd : (n == ("__debug__" : Str)) = false := by decide) (hcd : (n == ("__classdict__" : Str)) = false := by decide) (hdc : (c == ("__debug__" : Str)) = false := by decide)
    (s1 : starEach [.Name n p1, .Name c p2] (X.suite a ((a, oe) :: pn)).env = (false, eval (.Name n p1) (X.suite a ((a, oe) :: pn)).env) :: starEach [.Name c p2] (X.suite a ((a, oe) :: pn)).env := by rfl)
    (s2 : starEach [.Name c p2] (X.suite a ((a, oe) :: pn)).env = (false, eval (.Name c p2) (X.suite a ((a, oe) :: pn)).env) :: starEach [] (X.suite a ((a, oe) :: pn)).env := by rfl)
    (hpl : (backTo pos (starEach [.Name c p2] (X.suite a ((a, oe) :: pn)).env)).any (·.1) = false := by rfl) :
    PE (X.suite a ((a, oe) :: pn)) (.Call (.Name "isinstance" p) [.Name n p1, .Name c p2] [] pos) (tE W l X.K (fIsE i a d (decide (x = c)))) := by
  obtain ⟨C, g, k⟩ := L.is_ c hc
  refine ev_flat (X := X.suite a ((a, oe) :: pn)) flat_isE (PE.imp (pe_callB (X := X.suite a ((a, oe) :: pn)) (call_isG L.exc hz hf) hg hm (by decide +kernel) (pa_cons (pe_var (i := i) hN hv hd hcd) (pa_cons (pe_glob (v := .ref C) hgc g rfl hdc) pa_nil s2) s1) (by decide) (by decide) s1 hpl) fun σ H Q h => is_read (R1 := fun _ _ => True) (fun u r => r) k h)
theorem ev_isEV (i : Nat) (L : LiveX X.K X.mg x D) (hz : Zc (.ref D) d oe) (hf : ∃ vs, oe.data = .fields vs) (hg : Gl X "isinstance") (hm : X.mg "isinstance" = none) (hgc : Gl X "ValueError") (hmc : X.mg "ValueError" = none)
    (hN : X.N[i]? = some n := by rfl) (hv : Vis X.env.scope n := by first | exact Or.inl rfl | exact Or.inr (Or.inl rfl) | exact Or.inr (Or.inr rfl)) (hd : (n == ("__debug__" : Str)) = false := by decide) (hcd : (n == ("__classdict__" : Str)) = false := by decide)
    (s1 : starEach [.Name n p1, .Name "ValueError" p2] (X.suite a ((a, oe) :: pn)).env = (false, eval (.Name n p1) (X.suite a ((a, oe) :: pn)).env) :: starEach [.Name "ValueError" p2] (X.suite a ((a, oe) :: pn)).env := by rfl)
    (s2 : starEach [.Name "ValueError" p2] (X.suite a ((a, oe) :: pn)).env = (false, eval (.Name "ValueError" p2) (X.suite a ((a, oe) :: pn)).env) :: starEach [] (X.suite a ((a, oe) :: pn)).env := by rfl)
    (hpl : (backTo pos (starEach [.Name "ValueError" p2] (X.suite a ((a, oe) :: pn)).env)).any (·.1) = false := by rfl) :
    PE (X.suite a ((a, oe) :: pn)) (.Call (.Name "isinstance" p) [.Name n p1, .Name "ValueError" p2] [] pos) (tE W l X.K (fIsE i a d true)) := by
  refine ev_flat (X := X.suite a ((a, oe) :: pn)) flat_isE (PE.imp (pe_callB (X := X.suite a ((a, oe) :: pn)) (call_isG L.exc hz hf) hg hm (by decide +kernel) (pa_cons (pe_var (i := i) hN hv hd hcd) (pa_cons (pe_bltn (v := .ty "ValueError") hgc hmc PyProof.Rows.Boot.«ValueError» rfl (by decide) (by decide)) pa_nil s2) s1) (by decide) (by decide) s1 hpl) fun σ H Q h => is_read (R1 := fun _ _ => True) (fun u r => r) L.ve h)
theorem ev_fldE (i : Nat) {f : Str} (L : LiveX X.K X.mg x D) (hz : Zc (.ref D) d oe) (hf : ∃ vs, oe.data = .fields vs)
    (hN : X.N[i]? = some n := by rfl) (hv : Vis X.env.scope n := by first | exact Or.inl rfl | exact Or.inr (Or.inl rfl) | exact Or.inr (Or.inr rfl)) (hd : (n == ("__debug__" : Str)) = false := by decide) (hcd : (n == ("__classdict__" : Str)) = false := by decide)
    (hb : attributeBase (.Name n p1) f X.env (eval (.Name n p1) X.env) = eval (.Name n p1) X.env := by rfl) :
    PE (X.suite a ((a, oe) :: pn)) (.Attribute (.Name n p1) f pos) (tE W l X.K (fFldE x i a d f)) := by
  by_cases hff : f ∈ exFlds x
  case neg => exact ⟨fun pins s σ H Q I ⟨S0, H0, P, S, ρ, R, q⟩ => by unfold fFldE at q; rw [if_neg hff] at q; exact q.elim⟩
  refine PE.imp (pe_xf L.xf (L.fld f hff) hz hf (pe_var (X := X.suite a ((a, oe) :: pn)) (i := i) hN hv hd hcd) hb) fun σ H Q ⟨S0, H0, P, S, ρ, R, q⟩ => ?_
  unfold fFldE at q
  rw [if_pos hff] at q
  cases d with
  | none => exact q.elim
  | some dd =>
    simp only at q
    split at q
    · rename_i fs es
      split at q
      · rename_i v el
        split at q
        · rename_i hh
          obtain ⟨w, h1, h2⟩ := R.ro i _ (slotA_of hh)
          unfold Rep at h2
          subst h2
          exact ⟨.ref a, h1, rfl, rfl, dd, fs, .int v, rfl, R.st dd _ es, el, q H _ .refl (.of (CB.rI.mpr rfl) fun _ => noFT)⟩
        · exact q.elim
      · exact q.elim
    · exact q.elim
end
end CB
set_option Elab.async false
set_option linter.all false
set_option maxRecDepth 100000
namespace CB
open PySem PySem.Spec PyProof.Rows L2 LamX

/-! a lambda is made: only the table at Tb is other than before, its new entry's code object known -/
structure LamStep (H H1 : Hp) (Tb : Addr) (q : Str) : Prop where
  keep : ∀ b o, H b = some o → b ≠ Tb → H1 b = some o
  tab : TabS H1 Tb q
section
variable {X : Cx} {pins : List (Addr × Obj)} {σ : L2.St} {H : Hp} {s : Shared}
theorem lam_make3 {c P : Addr} {q : Str} {params : Arguments} {body : Expr} {scope : Scope} {pos : Pos} {E : Value → Shared → Prop} {Q : Value → Shared → Prop} (I : Inv X pins σ H s) (TB : TabB X.base X.mg c P) (hcode : X.env.code = .ref c) (eq : q = X.env.qual ++ "<lambda>") (hT : TabS H P q)
    (hdef : defaultsOf params X.env = ([], [])) (hfree : ∀ y ∈ scope.names, y.2 = .free → ∃ c, X.env.cells.lookup y.1 = some c)
    (k : ∀ (f c' : Addr) (pm ctv : Value) (H1 : Hp) (s' : Shared), Inv X pins σ H1 s' → LamStep H H1 P q → s'.heap.get? f = some (PySem.W.kla_obj "<lambda>" (X.env.qual ++ "<lambda>") params body scope (cloFrom X.env.cells scope.names []) pm c' ctv) → H1 f = none → f ∉ frs X.stack → H1 c' = some (CodeO c' (X.env.qual ++ "<lambda>")) → Q (.ref f) s') :
    wpAny (model X.prog X.w) X.A (eval (.Lambda params body scope pos) X.env) Q E s := by
  subst eq
  obtain ⟨ps, hP, ht, ha⟩ := hT
  have bP := TB.bm.keeps I.bk
  have hP' : s.heap.get? P = some { cls := .none, data := .fields ps } := I.hok P _ hP
  have nofr : ∀ f, s.heap.objs.size ≤ f → f ∉ frs X.stack := fun f hf z => (List.mem_cons.mp (I.stkSub _ z)).elim (fun e => Nat.lt_irrefl _ (Nat.lt_of_lt_of_le (e ▸ I.lt) hf)) (I.nofs hf)
  refine PySem.W.kla_eval hdef ?_
  cases hc : codeAmong pos ps.toList with
  | some cv =>
    obtain ⟨c', rfl, hco⟩ := ha pos cv hc
    exact PySem.W.kla_makeFunctionHit (mg := X.mg) (c := c) (P := P) (ps := ps) (closure_ok hfree) I.ok.glob (I.mod.glob.keeps I.bk) hcode (TB.code.keeps I.bk) hP' ht hc bP fun ctv h' tk hx hsz =>
      k h'.objs.size c' _ ctv H _ (I.kept (t' := tk) fun b o e => Heap.get?_push_of_some _ (hx b o e)) ⟨fun b o e _ => e, ps, hP, ht, ha⟩ (Heap.get?_push_size _ rfl) (I.hok.fresh hsz) (nofr _ hsz) hco
  | none =>
    refine PySem.W.kla_makeFunction (mg := X.mg) (c := c) (P := P) (ps := ps) (closure_ok hfree) I.ok.glob (I.mod.glob.keeps I.bk) hcode (TB.code.keeps I.bk) hP' ht hc TB.gP bP fun c' ctv h' tk hx hge hlt ⟨c2, oc, vs, t, e2, hoc, hd, hv⟩ htb => ?_
    cases e2
    have nC : H c' = none := I.hok.fresh hge
    have hsz : s.heap.objs.size ≤ h'.objs.size := Nat.le_trans hge (Nat.le_of_lt hlt)
    have J := inv_table (t' := tk) (q := X.env.qual ++ "<lambda>") (more := #[rawInt pos.line, rawInt pos.col, .ref c']) (h' := h'.push (PySem.W.kla_obj "<lambda>" (X.env.qual ++ "<lambda>") params body scope (cloFrom X.env.cells scope.names []) ((X.mg "__name__").getD .none) c' ctv)) I hP (fun b o hb e => Heap.get?_push_of_some _ (hx b o hb e)) (Heap.get?_push_of_some _ htb) hge ⟨oc, vs, t, Heap.get?_push_of_some _ hoc, hd, hv⟩
    have st : ∀ b o, H b = some o → b ≠ P → upd (upd H P (.tbl (ps ++ #[rawInt pos.line, rawInt pos.col, .ref c']))) c' (CodeO c' (X.env.qual ++ "<lambda>")) b = some o := fun b o e n => by rw [upd_ne (ne_of_none e nC), upd_ne n]; exact e
    have eL : (ps ++ #[rawInt pos.line, rawInt pos.col, .ref c']).toList = ps.toList ++ [rawInt pos.line, rawInt pos.col, .ref c'] := by simp
    refine k h'.objs.size c' _ ctv _ _ J ⟨st, _, (upd_ne (ne_of_none hP nC)).trans upd_same, by rw [eL]; exact PySem.TriplesOk_snoc _ _ _ _ ht, fun p' cv z => ?_⟩ (Heap.get?_push_size _ rfl) ?_ (nofr _ hsz) upd_same
    · rw [eL] at z
      rcases among_app _ ht z with z | z
      · obtain ⟨c0, e1, e2⟩ := ha p' cv z
        exact ⟨c0, e1, st _ _ e2 fun w => by rw [w, hP] at e2; exact codeO_ne ps (Option.some.inj e2).symm⟩
      · exact ⟨c', z, upd_same⟩
    · rw [upd_ne (Nat.ne_of_gt hlt), upd_ne (Nat.ne_of_gt (Nat.lt_of_lt_of_le (Heap.lt_size hP') hsz))]
      exact I.hok.fresh hsz
end
def tLam3 (P : Addr) (q : Str) (TT : (XK → Hp → VK → Prop) → Hp → VK → Prop) (t : XK → TE) : TE := fun σ H Q => TabS H P q ∧ ∀ H1, LamStep H H1 P q → TT (fun E H' Q' => t E σ H' Q') H1 Q
section
variable {X : Cx}
/-- x(lambda: body) -/
theorem pe_lam3 {TT : (XK → Hp → VK → Prop) → Hp → VK → Prop} {x a q : Str} {g c P : Addr} {k : Nat} {st : Stmt} {fd : FuncData} {Ng : List Str} {params : Arguments} {body : Expr} {scope : Scope} {t : XK → TE} {p lpos pos : Pos} (hg : Gl X x) (hm : X.mg x = some (.ref g)) (Fg : Fun X.K x x st g fd) (hb : L2.Binds X.K fd [a] [])
    (Sg : FnScope Ng [a] (defScope st)) (hNg : Ng[0]? = some a) (hva : Vis (defScope st) a) (hG : ∀ cdg, GivesTo X Ng x (defScope st) g cdg (defBody st) a (X.env.qual ++ "<lambda>") TT) (TB : TabB X.base X.mg c P) (hcode : X.env.code = .ref c) (eq : q = X.env.qual ++ "<lambda>") (hr : Room (k + 2) X.A) (L : LamS X.env.scope scope) (hdef : defaultsOf params X.env = ([], []))
    (hbind : ∀ (q : Str) (cl : List (Str × Addr)) (pm cv ctv : Value), bindArgs (PySem.W.kla_fn "<lambda>" q params body scope cl pm cv ctv) ⟨[], []⟩ = pure [])
    (hbody : ∀ (A : Around) (outer : List Env) (s : Shared) (H : Hp) (E : XK) (f c' : Addr), Room k (A.deeper (lamEnv X scope s.heap.objs.size f c')) → PE (lamCx X A outer s H E scope f c') body (t E))
    (hdb : (x == ("__debug__" : Str)) = false := by decide) (hd : (a == ("__debug__" : Str)) = false := by decide) (hcd : (a == ("__classdict__" : Str)) = false := by decide) : PE X (.Call (.Name x p) [.Lambda params body scope lpos] [] pos) (tLam3 P q TT t) := by
  obtain ⟨oc, od, kV, doc, pm, an, cdv, ct, osl, rfl, lk, hcg⟩ := Fg.ex
  refine ⟨fun pins s σ H Q I ⟨hT, h⟩ => wpAny_Call_Name_kw (ld_glob I hg hm (PySem.W.callWith_K (h₀ := X.base) I.ok.mod.kin Fg.kp ?_ (by rfl) (by rfl)) hdb)⟩
  show wpAny _ _ (spliced ((false, eval (.Lambda params body scope lpos) X.env) :: backTo pos (starEach [] X.env))) _ _ s
  refine Calls.spliced_cons (lam_make3 I TB hcode eq hT hdef (L.has I.ok) fun f c' pm' ctv H1 s' I1 step hf hfn hfr hco => Calls.spliced_nil ⟨I1.kIn, wpAny_call (codeAny_mono (run_ofS (N := Ng) (ps := [a]) (us := [.ref f]) (vs := [.ref f]) (CX := C8.CX0) (E := C8.E0) (Q := Q) lk hcg Sg hr I1.env0 (hb s' [.ref f] I1.kIn rfl) (.cons rfl .nil) rfl fun hr' => ?_) fun r s2 hq => ?_)⟩)
  · obtain ⟨t', ht', hq'⟩ := hG cdv f c' s' H1 Q (fun E H' Q' => t E σ H' Q') (fun W pn xe E p1 p2 tk hW => pe_act (i := 0) I1 L hf hfn hfr (hbind _ _ _ _ _) tk hW hr' (fun A outer s H hr2 => hbody A outer s H E f c' hr2) hNg hva hd hcd) hco (h H1 step)
    exact ⟨t', ht'.nox, hq'⟩
  · cases r with
    | error e => exact (show False from hq).elim
    | ok fl =>
      cases fl with
      | ret u => exact I1.after hq
      | next => exact False.elim hq
      | brk => exact False.elim hq
      | cont => exact False.elim hq
end
end CB
set_option Elab.async false
set_option linter.all false
set_option maxRecDepth 100000
namespace CB
open PySem PySem.Spec PyProof.Rows L2 LamX

/-! the handler of _law_refused, by data: x the class met, a the exception, d its dict -/
def fs_refsuite (x : Str) (a : Addr) (d : Option Addr) : FS :=
(sSeq (sSet 3 (fImm1 (fLst (fCons (fIsE 2 a d (decide (x = "BadCode"))) (fCons (fIsE 2 a d (decide (x = "BadWord"))) (fCons (fIsE 2 a d (decide (x = "NotIn"))) (fCons (fIsE 2 a d (decide (x = "BadPlace"))) fNil)))))))
 (sSeq (sSet 3 (fImm1 (fBin gAdd (fVar 3) (fLst (fCons (fIsE 2 a d (decide (x = "BadSlips"))) (fCons (fIsE 2 a d (decide (x = "BadMeet"))) (fCons (fIsE 2 a d (decide (x = "BadCount"))) fNil)))))))
 (sSeq (sSet 3 (fImm1 (fBin gAdd (fVar 3) (fLst (fCons (fIsE 2 a d (decide (x = "BadWeights"))) (fCons (fIsE 2 a d (decide (x = "BadPrices"))) (fCons (fIsE 2 a d (decide (x = "BadDeed"))) fNil)))))))
 (sSeq (sSet 3 (fImm1 (fBin gAdd (fVar 3) (fLst (fCons (fIsE 2 a d (decide (x = "Halted"))) (fCons (fIsE 2 a d (decide (x = "BadText"))) fNil))))))
 (sSeq (sSet 4 (fImm1 (fLst (fCons (fC (.str (Str.ofString "code"))) (fCons (fC (.str (Str.ofString "word"))) (fCons (fC (.str (Str.ofString "notin"))) (fCons (fC (.str (Str.ofString "place"))) (fCons (fC (.str (Str.ofString "slips"))) (fCons (fC (.str (Str.ofString "meet"))) (fCons (fC (.str (Str.ofString "count"))) (fCons (fC (.str (Str.ofString "weights"))) (fCons (fC (.str (Str.ofString "prices"))) (fCons (fC (.str (Str.ofString "deed"))) (fCons (fC (.str (Str.ofString "halted"))) fNil))))))))))))))
 (sSeq (sIf (fOr (fB (fBin gNe (fMethL gCount (fVar 3) (fCons (fC (.bl true)) fNil)) (fC (.int 1)))) (fNot (fB (fIsE 2 a d true)))) (sRet (fTup (fCons (fC (.str (Str.ofString "other"))) (fCons (fC .non) fNil))))
 sSkip)
 (sSeq (sSet 5 (fImm (fBin gIx (fBin gAdd (fVar 4) (fLst (fCons (fC (.str (Str.ofString "text"))) fNil))) (fMethL gIndex (fVar 3) (fCons (fC (.bl true)) fNil)))))
 (sSeq (sIf (fB (fBin gEq (fVar 5) (fC (.str (Str.ofString "code"))))) (sRet (fTup (fCons (fImm (fVar 5)) (fCons (fTup (fCons (fFldE x 2 a d "part") (fCons (fFldE x 2 a d "number") fNil))) fNil))))
 sSkip)
 (sSeq (sIf (fB (fBin gEq (fVar 5) (fC (.str (Str.ofString "halted"))))) (sRet (fTup (fCons (fImm (fVar 5)) (fCons (fTup (fCons (fFldE x 2 a d "number") (fCons (fFldE x 2 a d "done") fNil))) fNil))))
 sSkip)
 (sSeq (sIf (fB (fBin gEq (fVar 5) (fC (.str (Str.ofString "text"))))) (sRet (fTup (fCons (fImm (fVar 5)) (fCons (fFldE x 2 a d "row") fNil))))
 sSkip)
 (sRet (fTup (fCons (fImm (fVar 5)) (fCons (fIf (fB (fBin gEq (fVar 5) (fC (.str (Str.ofString "deed"))))) (fFldE x 2 a d "number") (fC .non)) fNil))))))))))))))
def arX (x : Str) : Nat := if x = "BadCode" then 2 else if x = "Halted" then 2 else if x = "BadDeed" then 1 else if x = "BadText" then 1 else 0
def keyX (x : Str) : Str := if x = "BadCode" then "code" else if x = "BadWord" then "word" else if x = "NotIn" then "notin" else if x = "BadPlace" then "place" else if x = "BadSlips" then "slips" else if x = "BadMeet" then "meet" else
  if x = "BadCount" then "count" else if x = "BadWeights" then "weights" else if x = "BadPrices" then "prices" else if x = "BadDeed" then "deed" else if x = "Halted" then "halted" else "text"
/-- what _law_refused tells of such an exception -/
def refAns (x : Str) (is : List Int) : D := .tup [.str (keyX x), match is with
  | [] => .non
  | [k] => .int k
  | l => .tup (l.reverse.map .int)]
def xdOf (x : Str) (is : List Int) : List (Str × V) := (exFlds x).zip (is.map V.int)
end CB
set_option Elab.async false
set_option linter.all false
set_option maxRecDepth 100000
namespace CB
open PySem PySem.Spec PyProof.Rows L2
section
variable {X : Cx} {W : Wx} {pos : Pos}
/-- x = [a, .., b], new things among them, too: one's own -/
def sSetL (i : Nat) (f : F (List D)) : FS := fun ρ S => (f ρ S).toS fun ds S => if okLen ds.length then .nx (ρ.set i (.own (.lst ds))) S else .no
theorem es_setL (i : Nat) {x : Str} {es : List Expr} {p2 pos' : Pos} {f : F (List D)} (hN : X.N.Nodup) (he : PA X es (tA W .fr X.K f)) (hi : X.N[i]? = some x := by rfl) (hx : Loc X.env.scope x := by first | exact Or.inl rfl | exact Or.inr rfl)
    (hs : swapsWith (.List es p2) (some (.Name x pos')) pos.line X.env = pure false := by rfl) (hf : X.fn x = true ∨ X.env.scope.names.lookup x = some .local := by first | exact .inl rfl | exact .inr rfl | assumption) :
    PS X (.Assign [.Name x pos'] (.List es p2) pos) (tS W X.K (sSetL i f)) := by
  refine PS.imp (ps_set hN hi hx (pe_lst he) hs hf) fun Dn σ H ⟨S0, H0, P, S, ρ, R, q⟩ => ?_
  refine ⟨S0, H0, P, S, ρ, R, ?_⟩
  unfold sSetL at q
  cases e1 : f ρ S with
  | ok ds S1 =>
    rw [e1, Out.toS_ok] at q
    intro H1 vs E r1
    split at q
    · rename_i hz
      refine ⟨by rw [RepL.len r1]; exact okLen_line hz, fun p hp => ?_⟩
      have pn : H p = none := Classical.byContradiction fun z => E.kp.dom p z hp
      have E2 : Evo X.K S H S1 (upd H1 p (.lst vs)) := E.trans (.alloc hp)
      have kk : Kp (dH H) H1 (upd H1 p (.lst vs)) := .of_same (same_upd hp)
      refine q _ _ _ (grow_new pn) (R.kpP E2) (R.setOwn E2 i pn (by rw [upd_same]; simp) ⟨vs, upd_same, RepL.move kk (fun a ha z => ?_) (show RepL X.K (dH H) H1 ds vs from r1)⟩)
      rcases z with (z | rfl) | z
      · exact R.pH a z
      · exact absurd hp ha
      · exact R.dom0 a z
    · exact q.elim
  | ex x S1 =>
    rw [e1] at q
    exact fun H1 E => q H1 (R.evo.trans E)
  | no => rw [e1] at q; exact q
/-- x = x + e, x one's own, e new -/
def sAddL (i : Nat) (f : F D) : FS := fun ρ S => match ρ[i]? with
  | some (.own (.lst xs)) => (f ρ S).toS fun d S => match d with
    | .lst ys => if okLen (xs.length + ys.length) then .nx (ρ.set i (.own (.lst (xs ++ ys)))) S else .no
    | _ => .no
  | _ => .no
theorem es_addL (i : Nat) {x : Str} {e : Expr} {p1 p2 pos' : Pos} {f : F D} (hN : X.N.Nodup) (he : PE X e (tE W .fr X.K f)) (hi : X.N[i]? = some x := by rfl) (hx : Loc X.env.scope x := by first | exact Or.inl rfl | exact Or.inr rfl)
    (hv : Vis X.env.scope x := by first | exact Or.inl rfl | exact Or.inr (Or.inl rfl) | exact Or.inr (Or.inr rfl)) (hd : (x == ("__debug__" : Str)) = false := by decide) (hcd : (x == ("__classdict__" : Str)) = false := by decide)
    (hs : swapsWith (.BinOp (.Name x p1) .Add e p2) (some (.Name x pos')) pos.line X.env = pure false := by rfl) (hf : X.fn x = true ∨ X.env.scope.names.lookup x = some .local := by first | exact .inl rfl | exact .inr rfl | assumption) :
    PS X (.Assign [.Name x pos'] (.BinOp (.Name x p1) .Add e p2) pos) (tS W X.K (sAddL i f)) := by
  refine PS.imp (ps_set hN hi hx (pe_op op_cat (pe_var hi hv hd hcd) he) hs hf) fun Dn σ H ⟨S0, H0, P, S, ρ, R, q⟩ => ?_
  unfold sAddL at q
  split at q
  · rename_i xs eo
    obtain ⟨p, h1, h2, h3, h4, vs, h6, h7⟩ := R.own i _ eo
    refine ⟨.ref p, h1, ⟨S0, H0, P, S, ρ, R, ?_⟩⟩
    cases e1 : f ρ S with
    | ok d S1 =>
      rw [e1, Out.toS_ok] at q
      intro H1 v E r1
      split at q
      · rename_i ys
        split at q
        · rename_i hz
          obtain ⟨b, us, rfl, n, g1, g2⟩ := rL.mp (show Rep X.K (dH H) H1 (.lst ys) v from r1)
          have kP : Kp (fun a => P a ∨ H0 a ≠ none) H H1 := E.kp.mono fun a z => .inl (R.pS a z)
          have g6 : H1 p = some (.lst vs) := E.kp.keep _ _ h6 fun z => z h4
          refine ⟨p, b, vs, us, rfl, rfl, g6, g1, by rw [RepL.len h7, RepL.len g2]; exact okLen_line hz, fun q1 hq => ?_⟩
          have qn : H q1 = none := Classical.byContradiction fun z => E.kp.dom q1 z hq
          have E2 : Evo X.K S H S1 (upd H1 q1 (.lst (vs ++ us))) := E.trans (.alloc hq)
          have k1 : Kp (fun a => P a ∨ H0 a ≠ none) H (upd H1 q1 (.lst (vs ++ us))) := E2.kp.mono fun a z => .inl (R.pS a z)
          have k2 : Kp (dH H) H1 (upd H1 q1 (.lst (vs ++ us))) := .of_same (same_upd hq)
          refine q _ _ _ (grow_new qn) (R.kpP E2) (R.setOwn E2 i qn (by rw [upd_same]; simp) ⟨vs ++ us, upd_same, RepL.append (RepL.move k1 (fun a ha z => ?_) h7) (RepL.move k2 (fun a ha z => ?_) g2)⟩)
          · rcases z with (z | rfl) | z
            · exact .inl z
            · exact absurd qn ha
            · exact .inr z
          · rcases z with (z | rfl) | z
            · exact R.pH a z
            · exact absurd hq ha
            · exact R.dom0 a z
        · exact q.elim
      · exact q.elim
    | ex x S1 =>
      rw [e1] at q
      exact fun H1 E => q H1 (R.evo.trans E)
    | no => rw [e1] at q; exact q
  · exact q.elim
end
end CB
set_option Elab.async false
set_option linter.all false
set_option maxRecDepth 100000
namespace CB
open PySem PySem.Spec PyProof.Rows L2
section
variable {X : Cx} {W : Wx} {pos : Pos}
/-- x = y.pop(k), y one's own -/
def sPopAt (j i : Nat) (f : F (List D)) : FS := fun ρ S => match ρ[i]? with
  | some (.own (.lst xs)) => (f ρ S).toS fun ds S => match ds with
    | [.int k] => match ixN xs.length k with
      | some m => match xs[m]? with
        | some d => if d.imm && okR k then .nx ((ρ.set i (.own (.lst (xs.eraseIdx m)))).set j (.ro d)) S else .no
        | none => .no
      | none => .no
    | _ => .no
  | _ => .no
theorem es_popAt (j i : Nat) {x y : Str} {e : Expr} {p1 p2 apos cpos : Pos} {f : F (List D)} (ha : PA X [e] (tA W .any X.K f)) (hND : X.N.Nodup) (hij : i ≠ j) (hN : X.N[i]? = some y := by rfl) (hj : X.N[j]? = some x := by rfl) (hx : Loc X.env.scope x := by first | exact Or.inl rfl | exact Or.inr rfl)
    (hv : Vis X.env.scope y := by first | exact Or.inl rfl | exact Or.inr (Or.inl rfl) | exact Or.inr (Or.inr rfl))
    (hd : (y == ("__debug__" : Str)) = false := by decide) (hcd : (y == ("__classdict__" : Str)) = false := by decide)
    (hbase : attributeBase (.Name y p1) "pop" X.env (eval (.Name y p1) X.env) = eval (.Name y p1) X.env := by rfl)
    (hfew : ((backTo cpos (starEach [e] X.env)).all (fun x => !x.1) && (backToKw cpos (keywordEach [] X.env)).all (fun x => x.1.isSome)
      && decide ([e].length + ([] : List Keyword).length + (if ([] : List Keyword).isEmpty then 0 else 1) < 30)) = true := by rfl)
    (hline : (apos.endLine == cpos.line) = true := by rfl) (hs : starEach [e] X.env = (false, eval e X.env) :: starEach [] X.env := by rfl) (hplain : (backTo cpos (starEach [] X.env)).any (·.1) = false := by rfl)
    (hsw : swapsWith (.Call (.Attribute (.Name y p1) "pop" apos) [e] [] cpos) (some (.Name x p2)) pos.line X.env = pure false := by rfl) (hf : X.fn x = true ∨ X.env.scope.names.lookup x = some .local := by first | exact .inl rfl | exact .inr rfl | assumption) :
    PS X (.Assign [.Name x p2] (.Call (.Attribute (.Name y p1) "pop" apos) [e] [] cpos) pos) (tS W X.K (sPopAt j i f)) := by
  refine PS.imp (ps_set hND hj hx (pe_bm PySem.F.plainAttrs_list PySem.F.slot_list_pop PySem.F.type_list_pop mt_popAt (pe_var hN hv hd hcd) ha hbase hfew hline hs hplain) hsw hf) fun Dn σ H ⟨S0, H0, P, S, ρ, R, q⟩ => ?_
  unfold sPopAt at q
  split at q
  · rename_i xs e
    obtain ⟨p, h1, h2, h3, h4, h5⟩ := R.own i _ e
    have h5' := h5
    obtain ⟨vs, h6, h7⟩ := h5
    refine ⟨.ref p, h1, .inl ⟨rfl, _, .of h6⟩, S0, H0, P, S, ρ, R, ?_⟩
    cases ef : f ρ S with
    | ok ds S1 =>
      rw [ef, Out.toS_ok] at q
      intro H1 us E r1
      split at q
      · rename_i k
        split at q
        · rename_i m hm
          split at q
          · rename_i d hxm
            split at q
            · rename_i hc
              simp only [Bool.and_eq_true] at hc
              have R1 := R.step E
              obtain ⟨p', g1, g2, g3, g4, vs1, k6, k7⟩ := R1.own i _ e
              rw [h1] at g1; cases g1
              obtain ⟨u, rfl, ru⟩ := RepL.one' r1
              have hu := CB.rI.mp ru
              subst hu
              obtain ⟨v, hv1, hv2⟩ := k7.get (i := m) (d := d) hxm
              have hk := okR_of hc.2
              refine ⟨p, vs1, k, m, v, rfl, rfl, k6, by omega, by omega, by rw [k7.len]; exact (ixN_seq hm).1, hv1, ?_⟩
              obtain ⟨kk, R2⟩ := R1.write e h1 (o := .lst (vs1.eraseIdx m)) (d' := .lst (xs.eraseIdx m)) ⟨_, upd_same, RepL.kp (kp_upd (.inl h2) k6) (k7.erase m)⟩
              exact q P _ _ .refl ((R.kpP E).trans kk) (R2.setRo j (Rep.kp (kp_upd h2 k6) (Rep.im hc.1 hv2)))
            · exact q.elim
          · exact q.elim
        · exact q.elim
      · exact q.elim
    | ex x S1 => rw [ef] at q; exact fun H1 E => q H1 (R.evo.trans E)
    | no => rw [ef] at q; exact q
  · exact q.elim
theorem es_setLcR (i : Nat) {y : Str} {py spos : Pos} {elt tg iter : Expr} {ifs : List Expr} {scope : Scope} {own : List (Str × Nat)} {g : TG} {b : Bd} {it : F (List D)} {c : F Bool} {fe : F D} (hN : X.N.Nodup) (hi : PI X tg iter (tIc W X.K it)) (ok : BlkOk X.N X.env.scope scope own)
    (hgb : TGok X.K (own.map (·.2)) g b)
    (hg : ∀ (s : Shared) (H : Hp) (C : Addr) (cl : List (Str × Addr)) (fp : List Addr), PG (X.blk s H scope (compEnvC scope cl C X.env) fp) tg g) (ht : ∀ (s : Shared) (H : Hp) (C : Addr) (cl : List (Str × Addr)) (fp : List Addr), PTs (X.blk s H scope (compEnvC scope cl C X.env) fp) ifs (tTs X.K c))
    (he : ∀ (s : Shared) (H : Hp) (C : Addr) (cl : List (Str × Addr)) (fp : List Addr), PE (X.blk s H scope (compEnvC scope cl C X.env) fp) elt (tE (fun _ _ => False) .mu X.K fe)) (hc : X.calm = true)
    (hsw : swapsWith (.ListComp elt [⟨tg, iter, ifs, 0⟩] scope pos) (some (.Name y py)) spos.line X.env = pure true) (hy : X.N[i]? = some y := by rfl) (hyl : X.env.scope.names.lookup y = some .local := by rfl) (hs : ∀ x, foldedSetIterable iter X.env x = pure x := by intro _; rfl) :
    PS X (.Assign [.Name y py] (.ListComp elt [⟨tg, iter, ifs, 0⟩] scope pos) spos) (tS W X.K (sSet i (fComp it b c fe (own.map (·.2))))) :=
  PS.imp (ps_setLc hc hN hy hyl hsw hi ok hg ht he hs) fun Dn σ H ⟨S0, H0, P, S, ρ, R, q⟩ => lc_read (l := .mu) hgb (tE_S R q fun d S1 H1 v E r q => q P _ H1 .refl (R.kpP E) ((R.step E).setRo i r))
/-! len(set(xs)) -/
theorem pe_lenSet2 {a : Expr} {ta : TE} {p p2 q pos : Pos} (hg : Gl X "len") (hm : X.mg "len" = none) (hg2 : Gl X "set") (hm2 : X.mg "set" = none) (ha : PE X a ta) (hc : X.calm = true := by rfl)
    (na : starEach [a] X.env = (false, eval a X.env) :: starEach [] X.env := by rfl) : PE X (.Call (.Name "len" p) [.Call (.Name "set" p2) [a] [] q] [] pos)
      (fun σ H Q => ta σ H fun x H1 => ∃ (l : Addr) (ns : List Int), x = .ref l ∧ SqL X.K H1 l (ns.map V.int) ∧ ns.length ≤ 4000 ∧ Q (.int ((PyProof.Rows.firstMet (fun i => ns.getD i 0) ns.length).length : Nat)) H1) := by
  refine ⟨fun pins s σ H Q I h => ?_⟩
  refine Call_ (ld_blt I hg hm boot_len ?_)
  refine PyProof.Rows.callWith_builtin1 (PyProof.Rows.args_cons ?_ rfl) rfl rfl
  refine Call_ (ld_blt I hg2 hm2 boot_set ?_)
  refine PyProof.Rows.callWith_type1 (PyProof.Rows.args_cons (thn (ha.run pins s σ H _ I h) fun v s1 ⟨x, H1, I1, r1, q1⟩ => PyProof.Rows.args_nil ?_) na) na rfl
  obtain ⟨l, ns, rfl, hq, hl, q1⟩ := q1
  cases r1
  obtain ⟨its, r, pl, hz⟩ := I1.list hq
  have hlen : its.toArray.size = ns.length := by rw [List.size_toArray, ← r.length, List.length_map]
  refine call_set_list (I1.ok.hd hc) pl.isList (by simpa using RZ.intsAre_vals r) (by rw [hlen]; unfold scanBound; omega) fun h' tk hS hk => ?_
  refine PyProof.Rows.args_nil ?_
  rw [hlen] at hS
  have hle := PyProof.Rows.firstMet_length_le (fun i => ns.getD i 0) ns.length
  obtain ⟨o, es, ep, t, ho, hex, hd, _, _, _, hf, hn⟩ := hS
  have I2 : Inv X pins σ H1 { s1 with heap := h', toks := tk } := I1.kept fun b o e => hk b o (Heap.lt_size e) e
  exact call_len_set ho hex hd hf (by rw [hn] <;> omega) ⟨.int _, H1, I2.tok _, ⟨_, by rw [hn]⟩, q1⟩
def dcount (ns : List Int) : Nat := (PyProof.Rows.firstMet (fun i => ns.getD i 0) ns.length).length
def fLenSet (f : F D) : F D := fun ρ S => (f ρ S).bind fun d S => match d with
  | .lst xs => match intsOf xs with
    | some ns => if ns.length ≤ 4000 then .ok (.int (dcount ns)) S else .no
    | none => .no
  | _ => .no
theorem ev_lenSet {a : Expr} {f : F D} {p p2 q : Pos} (hg : Gl X "len") (hm : X.mg "len" = none) (hg2 : Gl X "set") (hm2 : X.mg "set" = none) (ha : PE X a (tE W .any X.K f)) (hc : X.calm = true := by rfl)
    (na : starEach [a] X.env = (false, eval a X.env) :: starEach [] X.env := by rfl) : PE X (.Call (.Name "len" p) [.Call (.Name "set" p2) [a] [] q] [] pos) (tE W .any X.K (fLenSet f)) := by
  refine PE.imp (pe_lenSet2 hg hm hg2 hm2 ha hc na) fun σ H Q ⟨S0, H0, P, S, ρ, R, h⟩ => ⟨S0, H0, P, S, ρ, R, ?_⟩
  unfold fLenSet at h
  cases e : f ρ S with
  | ok d S1 =>
    rw [e, Out.bind_ok] at h
    intro H1 v E r
    split at h
    · rename_i xs
      cases ei : intsOf xs with
      | none => rw [ei] at h; exact h.elim
      | some ns =>
        rw [ei] at h
        simp only at h
        split at h
        · rename_i hl
          obtain ⟨b, us, rfl, n, g1, g2⟩ := rL.mp (RepAt.rep r)
          rw [intsOf_eq ei] at g2
          have hu := RepL.ints.mp g2
          subst hu
          exact ⟨b, ns, rfl, .of g1, hl, h H1 _ E (show Rep X.K (dS S) H1 (.int ((dcount ns : Nat) : Int)) _ from CB.rI.mpr rfl)⟩
        · exact h.elim
    · exact h.elim
  | ex x S1 => rw [e] at h; exact h
  | no => rw [e] at h; exact h
end
end CB
set_option Elab.async false
set_option linter.all false
set_option maxRecDepth 100000
namespace CB
open PySem PySem.Spec PyProof.Rows L2
def fs_is_number : FS := (sRet (fAndV (fApp gIsi (fCons (fVar 0) (fCons (fC (.val (.ty "int"))) fNil))) (fAndV (fNotV (fApp gIsi (fCons (fVar 0) (fCons (fC (.val (.ty "bool"))) fNil)))) (fChain gLe gLe (fVar 1) (fVar 0) (fVar 2)))))
def q_is_number : Sem1 := runB 3 fs_is_number

def fs_is_row : FS := (sRet (fAndV (fApp gIsi (fCons (fVar 0) (fCons (fC (.val (.ty "tuple"))) fNil))) (fAndV (fBin gEq (fApp gLen (fCons (fVar 0) fNil)) (fVar 2)) (fApp gAll (fCons (fComp (fIter (fVar 0)) (bName 3) fYes (fCall (fun ds S => noEx (q_is_number ds S)) (fCons (fVar 3) (fCons (fC (.int 0)) (fCons (fBin gSub (fVar 1) (fC (.int 1))) fNil)))) [3]) fNil)))))
def q_is_row : Sem1 := runB 4 fs_is_row

def fs_plus_times : FS := (sRet (fImm (fApp gTuple (fCons (fComp (fAppL gZip (fCons (fVar 1) (fCons (fVar 2) fNil))) (bTup2 (bName 4) (bName 5)) fYes (fBin gMod (fBin gAdd (fVar 4) (fBin gMulI (fVar 3) (fVar 5))) (fVar 0)) [4, 5]) fNil))))
def q_plus_times : Sem1 := runB 6 fs_plus_times

def fs_times_of : FS := (sRet (fImm (fApp gTuple (fCons (fComp (fIter (fVar 1)) (bName 3) fYes (fBin gMod (fBin gMulI (fVar 2) (fVar 3)) (fVar 0)) [3]) fNil))))
def q_times_of : Sem1 := runB 4 fs_times_of

def fb_in_steps_1 : FS := (sSeq (sSetO 7 (fComp (fOwnL 3) (bName 9) (fB (fBin gNe (fBin gIx (fVar 9) (fVar 6)) (fC (.int 0)))) (fVar 9) [9]))
 (sIf (fB (fBin gNe (fVarO 7) (fLst fNil))) (sSeq (sSet 8 (fCall (fun ds S => noEx (q_times_of ds S)) (fCons (fVar 0) (fCons (fBin gIx (fVarO 7) (fC (.int 0))) (fCons (fBin gIx (fBin gIx (fVarO 7) (fC (.int 0))) (fVar 6)) fNil)))))
 (sSeq (sMut 3 gRemove (fCons (fBin gIx (fVarO 7) (fC (.int 0))) fNil))
 (sSeq (sSetO 3 (fComp (fOwnL 3) (bName 9) fYes (fCall (fun ds S => noEx (q_plus_times ds S)) (fCons (fVar 0) (fCons (fVar 9) (fCons (fVar 8) (fCons (fBin gSub (fC (.int 0)) (fBin gIx (fVar 9) (fVar 6))) fNil))))) [9]))
 (sSeq (sSetO 4 (fBin gAdd (fComp (fOwnL 4) (bName 9) fYes (fCall (fun ds S => noEx (q_plus_times ds S)) (fCons (fVar 0) (fCons (fVar 9) (fCons (fVar 8) (fCons (fBin gSub (fC (.int 0)) (fBin gIx (fVar 9) (fVar 6))) fNil))))) [9]) (fLst (fCons (fVar 8) fNil))))
 (sMut 5 gAppend (fCons (fVar 6) fNil))))))
 sSkip))
def fs_in_steps : FS := (sSeq (sSetO 3 (fApp gList (fCons (fVar 1) fNil)))
 (sSeq (sSetO 4 (fLst fNil))
 (sSeq (sSetO 5 (fLst fNil))
 (sSeq (sFor (fIter (fVar 2)) (bName 6) fb_in_steps_1)
 (sRet (fTup (fCons (fVarO 4) (fCons (fVarO 5) fNil))))))))
def q_in_steps : Sem1 := runB 10 fs_in_steps

def fs_rank_of : FS := (sSeq (sIf (fB (fBin gEq (fVar 1) (fLst fNil))) (sRet (fC (.int 0)))
 sSkip)
 (sRet (fApp gLen (fCons (fBin gIx (fCall (fun ds S => noEx (q_in_steps ds S)) (fCons (fVar 0) (fCons (fVar 1) (fCons (fListR gRange1 (fCons (fApp gLen (fCons (fBin gIx (fVar 1) (fC (.int 0))) fNil)) fNil)) fNil)))) (fC (.int 0))) fNil))))
def q_rank_of : Sem1 := runB 2 fs_rank_of

def fb_all_rows_1 : FS := (sSetO 2 (fComp2 (fOwnL 2) (bName 4) fYes (fAppL gRange1 (fCons (fVar 0) fNil)) (bName 5) fYes (fImm1 (fBin gAdd (fVar 4) (fTup (fCons (fVar 5) fNil)))) [4, 5] [5]))
def fs_all_rows : FS := (sSeq (sSetO 2 (fLst (fCons (fTup fNil) fNil)))
 (sSeq (sFor (fAppL gRange1 (fCons (fVar 1) fNil)) (bName 3) fb_all_rows_1)
 (sRet (fVarO 2))))
def q_all_rows : Sem1 := runB 6 fs_all_rows

def fb_need_code_1 : FS := (sSeq (sAug 4 gMulI (fVar 1))
 (sIf (fOr (fB (fBin gGt (fVar 4) (fC (.int 729)))) (fOr (fNot (fB (fCall (fun ds S => noEx (q_is_row ds S)) (fCons (fVar 6) (fCons (fVar 1) (fCons (fVar 2) fNil)))))) (fB (fBin gLe (fCall (fun ds S => noEx (q_rank_of ds S)) (fCons (fVar 1) (fCons (fApp gList (fCons (fSl (fVar 3) fNoPart (fPart (fBin gAdd (fVar 5) (fC (.int 1))))) fNil)) fNil))) (fVar 5))))) sNo
 sSkip))
def fs_need_code : FS := (sSeq (sIf (fOr (fNot (fB (fApp gIsi (fCons (fVar 0) (fCons (fC (.val (.ty "tuple"))) fNil))))) (fB (fBin gNe (fApp gLen (fCons (fVar 0) fNil)) (fC (.int 3))))) sNo
 sSkip)
 (sSeq (sSetT (bTup3 (bName 1) (bName 2) (bName 3)) (fVar 0))
 (sSeq (sIf (fNot (fB (fCall (fun ds S => noEx (q_is_number ds S)) (fCons (fVar 1) (fCons (fC (.int 2)) (fCons (fC (.int 3)) fNil)))))) sNo
 sSkip)
 (sSeq (sIf (fNot (fB (fCall (fun ds S => noEx (q_is_number ds S)) (fCons (fVar 2) (fCons (fC (.int 1)) (fCons (fC (.int 10)) fNil)))))) sNo
 sSkip)
 (sSeq (sIf (fNot (fB (fApp gIsi (fCons (fVar 3) (fCons (fC (.val (.ty "tuple"))) fNil))))) sNo
 sSkip)
 (sSeq (sSet 4 (fC (.int 1)))
 (sFor (fAppL gEnum (fCons (fVar 3) fNil)) (bTup2 (bName 5) (bName 6)) fb_need_code_1)))))))
def q_need_code : Sem1 := runB 7 fs_need_code

def fb_made_by_1 : FS := (sSet 2 (fCall (fun ds S => noEx (q_plus_times ds S)) (fCons (fBin gIx (fVar 0) (fC (.int 0))) (fCons (fVar 2) (fCons (fVar 4) (fCons (fVar 3) fNil))))))
def fs_made_by : FS := (sSeq (sSet 2 (fImm1 (fBin gRepA (fTup (fCons (fC (.int 0)) fNil)) (fBin gIx (fVar 0) (fC (.int 1))))))
 (sSeq (sFor (fAppL gZip (fCons (fVar 1) (fCons (fImm (fBin gIx (fVar 0) (fC (.int 2)))) fNil))) (bTup2 (bName 3) (bName 4)) fb_made_by_1)
 (sRet (fImm (fVar 2)))))
def q_made_by : Sem1 := runB 5 fs_made_by

def fs_words_of : FS := (sRet (fImm1 (fApp gSortedA (fCons (fComp (fIter (fCall (fun ds S => noEx (q_all_rows ds S)) (fCons (fBin gIx (fVar 0) (fC (.int 0))) (fCons (fApp gLen (fCons (fBin gIx (fVar 0) (fC (.int 2))) fNil)) fNil)))) (bName 1) fYes (fCall (fun ds S => noEx (q_made_by ds S)) (fCons (fVar 0) (fCons (fVar 1) fNil))) [1]) fNil))))
def q_words_of : Sem1 := runB 2 fs_words_of

def fs_standard_of : FS := (sRet (fTup (fCons (fImm (fBin gIx (fVar 0) (fC (.int 0)))) (fCons (fImm (fBin gIx (fVar 0) (fC (.int 1)))) (fCons (fImm (fApp gTuple (fCons (fBin gIx (fCall (fun ds S => noEx (q_in_steps ds S)) (fCons (fBin gIx (fVar 0) (fC (.int 0))) (fCons (fBin gIx (fVar 0) (fC (.int 2))) (fCons (fListR gRange1 (fCons (fBin gIx (fVar 0) (fC (.int 1))) fNil)) fNil)))) (fC (.int 0))) fNil))) fNil)))))
def q_standard_of : Sem1 := runB 1 fs_standard_of

def fs_words : FS := (sSeq (sDrop (fCall (fun ds S => noEx (q_need_code ds S)) (fCons (fVar 0) fNil)))
 (sRet (fCall (fun ds S => noEx (q_words_of ds S)) (fCons (fVar 0) fNil))))
def q_words : Sem1 := runB 1 fs_words

def fs_standard : FS := (sSeq (sDrop (fCall (fun ds S => noEx (q_need_code ds S)) (fCons (fVar 0) fNil)))
 (sRet (fCall (fun ds S => noEx (q_standard_of ds S)) (fCons (fVar 0) fNil))))
def q_standard : Sem1 := runB 1 fs_standard

def fb_law_row_1 : FS := (sSet 1 (fBin gMod (fBin gAdd (fBin gAdd (fBin gMulI (fVar 1) (fC (.int 48271))) (fVar 2)) (fC (.int 11))) (fC (.int 2147483647))))
def fs_law_row : FS := (sSeq (sSet 1 (fC (.int 7)))
 (sSeq (sFor (fIter (fVar 0)) (bName 2) fb_law_row_1)
 (sRet (fImm1 (fLst (fCons (fVar 0) (fCons (fC (.int 0)) (fCons (fC (.int 0)) (fCons (fVar 1) fNil)))))))))
def q_law_row : Sem1 := runB 3 fs_law_row

def fs_law_taken : FS := (sSeq (sIf (fB (fBin gGt (fIxSt (fVar 0) (fC (.int 2))) (fC (.int 0)))) (sSeq (sSet 2 (fBin gMod (fIxSt (fVar 0) (fC (.int 2))) (fVar 1)))
 (sSeq (sPutSt 0 (fC (.int 2)) (fBin gDiv (fIxSt (fVar 0) (fC (.int 2))) (fVar 1)))
 (sRet (fImm (fVar 2)))))
 sSkip)
 (sSeq (sIf (fB (fBin gLt (fIxSt (fVar 0) (fC (.int 1))) (fApp gLen (fCons (fIxSt (fVar 0) (fC (.int 0))) fNil)))) (sSeq (sSet 3 (fImm (fBin gIx (fIxSt (fVar 0) (fC (.int 0))) (fIxSt (fVar 0) (fC (.int 1))))))
 (sSeq (sPutSt 0 (fC (.int 1)) (fBin gAdd (fIxSt (fVar 0) (fC (.int 1))) (fC (.int 1))))
 (sSeq (sIf (fB (fBin gGe (fVar 3) (fBin gPow (fC (.int 10)) (fC (.int 18))))) (sPutSt 0 (fC (.int 2)) (fBin gDiv (fVar 3) (fVar 1)))
 sSkip)
 (sRet (fBin gMod (fVar 3) (fVar 1))))))
 sSkip)
 (sSeq (sPutSt 0 (fC (.int 3)) (fBin gMod (fBin gAdd (fBin gMulI (fIxSt (fVar 0) (fC (.int 3))) (fC (.int 48271))) (fC (.int 12345))) (fC (.int 2147483647))))
 (sRet (fBin gMod (fBin gDiv (fIxSt (fVar 0) (fC (.int 3))) (fC (.int 1009))) (fVar 1))))))
def q_law_taken : Sem1 := runB 4 fs_law_taken

def fs_law_digits : FS := (sRet (fImm (fApp gTuple (fCons (fComp (fAppL gRange1 (fCons (fVar 2) fNil)) (bName 3) fYes (fCall (fun ds S => noEx (q_law_taken ds S)) (fCons (fVar 0) (fCons (fVar 1) fNil))) [3]) fNil))))
def q_law_digits : Sem1 := runB 4 fs_law_digits

def fb_law_span_1 : FS := (sSetO 5 (fBin gAdd (fVarO 5) (fComp (fOwnL 3) (bName 7) fYes (fImm (fApp gTuple (fCons (fComp (fAppL gZip (fCons (fVar 7) (fCons (fVar 4) fNil))) (bTup2 (bName 8) (bName 9)) fYes (fBin gMod (fBin gAdd (fVar 8) (fBin gMulI (fVar 6) (fVar 9))) (fVar 0)) [8, 9]) fNil))) [7])))
def fb_law_span_2 : FS := (sSeq (sSetO 5 (fLst fNil))
 (sSeq (sFor (fAppL gRange1 (fCons (fVar 0) fNil)) (bName 6) fb_law_span_1)
 (sHand 3 5)))
def fs_law_span : FS := (sSeq (sSetO 3 (fLst (fCons (fBin gRepA (fTup (fCons (fC (.int 0)) fNil)) (fVar 1)) fNil)))
 (sSeq (sFor (fIter (fVar 2)) (bName 4) fb_law_span_2)
 (sRet (fVarO 3))))
def q_law_span : Sem1 := runB 10 fs_law_span

def fb_law_code_1 : FS := (sSeq (sSet 8 (fCall (fun ds S => noEx (q_law_digits ds S)) (fCons (fVar 0) (fCons (fVar 3) (fCons (fVar 4) fNil)))))
 (sSeq (sIf (fAnd (fB (fBin gEq (fCall (fun ds S => noEx (q_law_taken ds S)) (fCons (fVar 0) (fCons (fC (.int 4)) fNil))) (fC (.int 0)))) (fB (fBin gNe (fVarO 5) (fLst fNil)))) (sSet 8 (fImm (fApp gTuple (fCons (fComp (fAppL gRange1 (fCons (fVar 4) fNil)) (bName 7) fYes (fApp gInt (fCons (fBin gEq (fVar 7) (fCall (fun ds S => noEx (q_law_taken ds S)) (fCons (fVar 0) (fCons (fVar 4) fNil)))) fNil)) [7]) fNil))))
 sSkip)
 (sIf (fB (fBin gDNotIn (fVar 8) (fVarO 6))) (sSeq (sMut 5 gAppend (fCons (fVar 8) fNil))
 (sSetO 6 (fApp gDict (fCons (fComp (fIter (fCall (fun ds S => noEx (q_law_span ds S)) (fCons (fVar 3) (fCons (fVar 4) (fCons (fVarO 5) fNil))))) (bName 9) fYes (fImm (fTup (fCons (fVar 9) (fCons (fC (.bl true)) fNil)))) [9]) fNil))))
 sSkip)))
def fs_law_code : FS := (sSeq (sSetT (bTup2 (bName 3) (bName 4)) (fImm (fTup (fCons (fBin gAdd (fC (.int 2)) (fCall (fun ds S => noEx (q_law_taken ds S)) (fCons (fVar 0) (fCons (fC (.int 2)) fNil)))) (fCons (fBin gAdd (fC (.int 1)) (fCall (fun ds S => noEx (q_law_taken ds S)) (fCons (fVar 0) (fCons (fVar 1) fNil)))) fNil)))))
 (sSeq (sPar2 5 6 (fLst fNil) (fDispT (fBin gRepA (fTup (fCons (fC (.int 0)) fNil)) (fVar 4)) (fC (.bl true))))
 (sSeq (sFor (fAppL gRange1 (fCons (fCall (fun ds S => noEx (q_law_taken ds S)) (fCons (fVar 0) (fCons (fBin gAdd (fApp gMin2 (fCons (fVar 4) (fCons (fVar 2) fNil))) (fC (.int 1))) fNil))) fNil)) (bName 7) fb_law_code_1)
 (sRet (fTup (fCons (fImm (fVar 3)) (fCons (fImm (fVar 4)) (fCons (fImm (fApp gTuple (fCons (fVarO 5) fNil))) fNil))))))))
def q_law_code : Sem1 := runB 10 fs_law_code

def fs_law_alike (q_law_alike : Sem1) : FS := (sSeq (sIf (fB (fIsi2 "tuple" "list" (fVar 1))) (sSeq (sIf (fOr (fB (fBin gNe (fApp gIsi (fCons (fVar 0) (fCons (fC (.val (.ty "tuple"))) fNil))) (fApp gIsi (fCons (fVar 1) (fCons (fC (.val (.ty "tuple"))) fNil))))) (fNot (fB (fIsi2 "tuple" "list" (fVar 0))))) (sRet (fC (.bl false)))
 sSkip)
 (sSeq (sIf (fB (fBin gNe (fApp gLen (fCons (fVar 0) fNil)) (fApp gLen (fCons (fVar 1) fNil)))) (sRet (fC (.bl false)))
 sSkip)
 (sRet (fBin gEq (fComp (fAppL gRange1 (fCons (fApp gLen (fCons (fVar 1) fNil)) fNil)) (bName 3) (fNot (fB (fCall (fun ds S => noEx (q_law_alike ds S)) (fCons (fBin gIx (fVar 0) (fVar 3)) (fCons (fBin gIx (fVar 1) (fVar 3)) fNil))))) (fVar 3) [3]) (fLst fNil)))))
 sSkip)
 (sSeq (sIf (fOr (fB (fBin gIsN (fVar 1) (fC .non))) (fB (fBin gIsN (fVar 0) (fC .non)))) (sRet (fAndV (fBin gIsN (fVar 1) (fC .non)) (fBin gIsN (fVar 0) (fC .non))))
 sSkip)
 (sSeq (sSet 2 (fBin gEq (fApp gIsi (fCons (fVar 1) (fCons (fC (.val (.ty "str"))) fNil))) (fApp gIsi (fCons (fVar 0) (fCons (fC (.val (.ty "str"))) fNil)))))
 (sRet (fAndV (fVar 2) (fAndV (fBin gEq (fApp gIsi (fCons (fVar 1) (fCons (fC (.val (.ty "bool"))) fNil))) (fApp gIsi (fCons (fVar 0) (fCons (fC (.val (.ty "bool"))) fNil)))) (fBin gEq (fVar 0) (fVar 1))))))))
def q_law_alike : Nat → Sem1
  | 0 => runB 4 sNo
  | m + 1 => runB 4 (fs_law_alike (q_law_alike m))

def fs_law_heavy : FS := (sRet (fApp gLen (fCons (fComp (fIter (fVar 0)) (bName 1) (fB (fBin gGt (fVar 1) (fC (.int 0)))) (fVar 1) [1]) fNil)))
def q_law_heavy : Sem1 := runB 2 fs_law_heavy

def fb_law_steps_1 : FS := (sIf (fB (fBin gGt (fCall (fun ds S => noEx (q_law_heavy ds S)) (fCons (fVar 4) fNil)) (fC (.int 0)))) (sPutD 3 (fBin gIx (fComp (fAppL gRange1 (fCons (fVar 1) fNil)) (bName 6) (fB (fBin gGt (fBin gIx (fVar 4) (fVar 6)) (fC (.int 0)))) (fVar 6) [6]) (fC (.int 0))) (fC (.bl true)))
 sSkip)
def fb_law_steps_2 : FS := (sSeq (sSetO 7 (fComp (fIter (fVar 2)) (bName 4) (fAnd (fB (fBin gEq (fBin gIx (fVar 4) (fVar 6)) (fC (.int 1)))) (fB (fBin gEq (fCall (fun ds S => noEx (q_law_heavy ds S)) (fCons (fSl (fVar 4) fNoPart (fPart (fVar 6))) fNil)) (fC (.int 0))))) (fVar 4) [4]))
 (sSeq (sSetO 7 (fComp (fOwnL 7) (bName 4) (fLockT 3 (fB (fBin gEq (fComp (fKeysF (fVar 3)) (bName 8) (fAnd (fB (fBin gGt (fVar 8) (fVar 6))) (fB (fBin gGt (fBin gIx (fVar 4) (fVar 8)) (fC (.int 0))))) (fVar 8) [8]) (fLst fNil)))) (fVar 4) [4]))
 (sSet 5 (fImm1 (fBin gAdd (fVar 5) (fVarO 7))))))
def fs_law_steps : FS := (sSeq (sPar2 3 2 (fC (.dK [] [])) (fApp gListD (fCons (fApp gDict (fCons (fComp (fIter (fVar 2)) (bName 4) fYes (fImm (fTup (fCons (fVar 4) (fCons (fC (.bl true)) fNil)))) [4]) fNil)) fNil)))
 (sSeq (sDem 2 (sFor (fIter (fVar 2)) (bName 4) fb_law_steps_1))
 (sSeq (sSet 5 (fImm1 (fLst fNil)))
 (sSeq (sFor (fIter (fImm1 (fApp gSortedD (fCons (fVarO 3) fNil)))) (bName 6) fb_law_steps_2)
 (sRet (fImm (fApp gTuple (fCons (fVar 5) fNil))))))))
def q_law_steps : Sem1 := runB 9 fs_law_steps

end CB
set_option Elab.async false
set_option linter.all false
set_option maxRecDepth 100000
namespace CB
open PySem PySem.Spec PyProof.Rows L2

/-! what the words do, for simp -/
section
variable {ρ : En} {S : Store} {f f1 f2 f3 : F D} {fl : F (List D)} {t t1 t2 : F Bool} {g : D → D → Option D} {gl : List D → Option D} {gL : List D → Option (List D)} {i j : Nat} {d : D}
@[simp] theorem fC_at : fC d ρ S = .ok d S := rfl
@[simp] theorem fVar_at : fVar i ρ S = (match ρ[i]? with | some (.ro d) => .ok d S | _ => .no) := rfl
@[simp] theorem fVarO_at : fVarO i ρ S = (match ρ[i]? with | some (.own d) => .ok d S | _ => .no) := rfl
@[simp] theorem fImm_at : fImm f ρ S = (f ρ S).bind fun d S => if d.imm then .ok d S else .no := rfl
@[simp] theorem fImm1_at : fImm1 f ρ S = (f ρ S).bind fun d S => if topImm d then .ok d S else .no := rfl
@[simp] theorem fBin_at : fBin g f f1 ρ S = (f ρ S).bind fun x S => (f1 ρ S).bind fun y S => ofOpt (g x y) S := rfl
@[simp] theorem fNil_at : fNil ρ S = .ok [] S := rfl
@[simp] theorem fCons_at : fCons f fl ρ S = (f ρ S).bind fun d S => (fl ρ S).bind fun ds S => .ok (d :: ds) S := rfl
@[simp] theorem fApp_at : fApp gl fl ρ S = (fl ρ S).bind fun ds S => ofOpt (gl ds) S := rfl
@[simp] theorem fTup_at : fTup fl ρ S = (fl ρ S).bind fun ds S => if okLen ds.length then .ok (.tup ds) S else .no := rfl
@[simp] theorem fLst_at : fLst fl ρ S = (fl ρ S).bind fun ds S => if okLen ds.length then .ok (.lst ds) S else .no := rfl
@[simp] theorem fNoPart_at : fNoPart ρ S = .ok none S := rfl
@[simp] theorem fPart_at : fPart f ρ S = (f ρ S).bind fun d S => match d with | .int i => .ok (some i) S | _ => .no := rfl
@[simp] theorem fSl_at {fa fb : F (Option Int)} : fSl f fa fb ρ S = (f ρ S).bind fun x S => (fa ρ S).bind fun lo S => (fb ρ S).bind fun hi S => ofOpt (gSl x lo hi) S := rfl
@[simp] theorem fB_at : fB f ρ S = (f ρ S).bind fun d S => match d with | .bl b => .ok b S | _ => .no := rfl
@[simp] theorem fNot_at : fNot t ρ S = (t ρ S).bind fun b S => .ok (!b) S := rfl
@[simp] theorem fAnd_at : fAnd t t1 ρ S = (t ρ S).bind fun b S => if b then t1 ρ S else .ok false S := rfl
@[simp] theorem fOr_at : fOr t t1 ρ S = (t ρ S).bind fun b S => if b then .ok true S else t1 ρ S := rfl
@[simp] theorem fAndV_at : fAndV f f1 ρ S = (fB f ρ S).bind fun b S => if b then f1 ρ S else .ok (.bl false) S := rfl
@[simp] theorem fOrV_at : fOrV f f1 ρ S = (fB f ρ S).bind fun b S => if b then .ok (.bl true) S else f1 ρ S := rfl
@[simp] theorem fNotV_at : fNotV f ρ S = (fB f ρ S).bind fun b S => .ok (.bl (!b)) S := rfl
@[simp] theorem fIf_at : fIf t f f1 ρ S = (t ρ S).bind fun b S => if b then f ρ S else f1 ρ S := rfl
@[simp] theorem fChain_at {g g' : D → D → Option D} : fChain g g' f f1 f2 ρ S = (f ρ S).bind fun x S => (f1 ρ S).bind fun y S => match g x y with | some (.bl true) => (f2 ρ S).bind fun z S => ofOpt (g' y z) S | some (.bl false) => .ok (.bl false) S | _ => .no := rfl
@[simp] theorem fIter_at : fIter f ρ S = (f ρ S).bind fun d S => match d with | .lst xs => .ok xs S | .fro xs => .ok xs S | .tup xs => .ok xs S | .str z => .ok (dStr z) S | _ => .no := rfl
@[simp] theorem fOwnL_at : fOwnL i ρ S = (match ρ[i]? with | some (.own (.lst xs)) => .ok xs S | _ => .no) := rfl
@[simp] theorem fAppL_at : fAppL gL fl ρ S = (fl ρ S).bind fun ds S => ofOpt (gL ds) S := rfl
@[simp] theorem fYes_at : fYes ρ S = .ok true S := rfl
@[simp] theorem fCall_at {q : Sem1} : fCall q fl ρ S = (fl ρ S).bind q := rfl
@[simp] theorem noEx_ok : noEx (.ok d S) = .ok d S := rfl
@[simp] theorem fListR_at : fListR gL fl ρ S = (fl ρ S).bind fun ds S => ofOpt ((gL ds).bind fun xs => if okLen xs.length then some (.lst xs) else none) S := rfl
@[simp] theorem fNeg_at : fNeg f ρ S = (f ρ S).bind fun d S => match d with | .int i => .ok (.int (-i)) S | _ => .no := rfl
@[simp] theorem fComp_at {it : F (List D)} {b : Bd} {c : F Bool} {vs : List Nat} : fComp it b c f vs ρ S = (it ρ S).bind fun ds S => if okLen ds.length then (compF b c f (wipeE ρ vs) ds S).bind fun ys S => .ok (.lst ys) S else .no := rfl
@[simp] theorem fIsi2_at {a b : String} : fIsi2 a b f ρ S = (f ρ S).bind fun d S => match tyN d with | some n => if a ∈ tyNames ∧ b ∈ tyNames then .ok (.bl (isB n a || isB n b)) S else .no | none => .no := rfl
@[simp] theorem sSet_at : sSet i f ρ S = (f ρ S).toS fun d S => .nx (ρ.set i (.ro d)) S := rfl
@[simp] theorem sSetO_at : sSetO i f ρ S = (f ρ S).toS fun d S => if isC d && topImm d then .nx (ρ.set i (.own d)) S else .no := rfl
@[simp] theorem sSeq_at {a b : FS} : sSeq a b ρ S = (match a ρ S with | .nx ρ S => b ρ S | o => o) := rfl
@[simp] theorem sSkip_at : sSkip ρ S = .nx ρ S := rfl
@[simp] theorem sRet_at : sRet f ρ S = (f ρ S).toS fun d S => .rt d S := rfl
@[simp] theorem sRetN_at : sRetN ρ S = .rt .non S := rfl
@[simp] theorem sIf_at {a b : FS} : sIf t a b ρ S = (t ρ S).toS fun c S => if c then a ρ S else b ρ S := rfl
@[simp] theorem sDrop_at : sDrop f ρ S = (f ρ S).toS fun _ S => .nx ρ S := rfl
@[simp] theorem sFor_at {b : Bd} {s : FS} : sFor fl b s ρ S = (fl ρ S).toS fun ds S => loopS b s ds ρ S := rfl
@[simp] theorem sSetT_at {b : Bd} : sSetT b f ρ S = (f ρ S).toS fun d S => match b d ρ with | some ρ' => .nx ρ' S | none => .no := rfl
@[simp] theorem sMut_at {gm : D → List D → Option D} : sMut i gm fl ρ S = (match ρ[i]? with | some (.own (.lst xs)) => (fl ρ S).toS (fun ds S => match gm (.lst xs) ds with | some d => .nx (ρ.set i (.own d)) S | none => .no) | _ => .no) := rfl
@[simp] theorem sDem_at {s : FS} : sDem i s ρ S = (match ρ[i]? with | some (.own d) => s (ρ.set i (.ro d)) S | _ => .no) := rfl
@[simp] theorem sHand_at : sHand j i ρ S = (match ρ[i]? with | some (.own d) => .nx ((ρ.set i .no).set j (.own d)) S | _ => .no) := rfl
@[simp] theorem bName_at : bName i d ρ = some (ρ.set i (.ro d)) := rfl
@[simp] theorem bTup2_at {b1 b2 : Bd} {x y : D} : bTup2 b1 b2 (.tup [x, y]) ρ = (b1 x ρ).bind fun ρ => b2 y ρ := rfl
@[simp] theorem bTup3_at {b1 b2 b3 : Bd} {x y z : D} : bTup3 b1 b2 b3 (.tup [x, y, z]) ρ = (b1 x ρ).bind fun ρ => (b2 y ρ).bind fun ρ => b3 z ρ := rfl
@[simp] theorem wipeE_nil : wipeE ρ [] = ρ := rfl
@[simp] theorem wipeE_cons {v : Nat} {vs : List Nat} : wipeE ρ (v :: vs) = (wipeE ρ vs).set v .no := rfl
@[simp] theorem runB_at {N : Nat} {s : FS} {ds : List D} : runB N s ds S = (match s (ds.map Sl.ro ++ List.replicate (N - ds.length) Sl.no) S with | .nx _ S => .ok .non S | .rt d S => .ok d S | .ex e S => .ex e S | _ => .no) := rfl
@[simp] theorem gII_at {h : Int → Int → Option D} {a b : Int} : gII h (.int a) (.int b) = h a b := rfl
@[simp] theorem gAddI_at {a b : Int} : gAddI (.int a) (.int b) = some (.int (a + b)) := rfl
@[simp] theorem gSub_at {a b : Int} : gSub (.int a) (.int b) = some (.int (a - b)) := rfl
@[simp] theorem gMulI_at {a b : Int} : gMulI (.int a) (.int b) = if okMul a b then some (.int (a * b)) else none := rfl
@[simp] theorem gDiv_at {a b : Int} : gDiv (.int a) (.int b) = if 0 < b ∧ b < 1073741824 then some (.int (a / b)) else none := rfl
@[simp] theorem gMod_at {a b : Int} : gMod (.int a) (.int b) = if 0 < b then some (.int (a % b)) else none := rfl
@[simp] theorem gPow_at {a b : Int} : gPow (.int a) (.int b) = if okPow a b then some (.int (a ^ b.toNat)) else none := rfl
@[simp] theorem gLt_at {a b : Int} : gLt (.int a) (.int b) = some (.bl (decide (a < b))) := rfl
@[simp] theorem gLe_at {a b : Int} : gLe (.int a) (.int b) = some (.bl (decide (a ≤ b))) := rfl
@[simp] theorem gGt_at {a b : Int} : gGt (.int a) (.int b) = some (.bl (decide (b < a))) := rfl
@[simp] theorem gGe_at {a b : Int} : gGe (.int a) (.int b) = some (.bl (decide (b ≤ a))) := rfl
@[simp] theorem gAdd_int {a b : Int} : gAdd (.int a) (.int b) = some (.int (a + b)) := rfl
@[simp] theorem gAdd_lst {a b : List D} : gAdd (.lst a) (.lst b) = if okLen (a.length + b.length) then some (.lst (a ++ b)) else none := by
  unfold gAdd gAddI gAddT gAddL gII gAddS; simp
@[simp] theorem gAdd_tup {a b : List D} : gAdd (.tup a) (.tup b) = if okLen (a.length + b.length) then some (.tup (a ++ b)) else none := by
  unfold gAdd gAddI gAddT gAddL gII gAddS
  by_cases h : okLen (a.length + b.length) = true <;> simp [h]
@[simp] theorem gIx_tup {xs : List D} {i : Int} : gIx (.tup xs) (.int i) = atI xs i := rfl
@[simp] theorem gIx_lst {xs : List D} {i : Int} : gIx (.lst xs) (.int i) = atI xs i := rfl
@[simp] theorem gIx_fro {xs : List D} {i : Int} : gIx (.fro xs) (.int i) = atI xs i := rfl
@[simp] theorem gLen_tup {xs : List D} : gLen [.tup xs] = some (.int xs.length) := rfl
@[simp] theorem gLen_lst {xs : List D} : gLen [.lst xs] = some (.int xs.length) := rfl
@[simp] theorem gLen_fro {xs : List D} : gLen [.fro xs] = some (.int xs.length) := rfl
@[simp] theorem gTuple_lst {xs : List D} : gTuple [.lst xs] = some (.tup xs) := rfl
@[simp] theorem gTuple_tup {xs : List D} : gTuple [.tup xs] = some (.tup xs) := rfl
@[simp] theorem gList_lst {xs : List D} : gList [.lst xs] = some (.lst xs) := rfl
@[simp] theorem gList_tup {xs : List D} : gList [.tup xs] = some (.lst xs) := rfl
@[simp] theorem gZip_tup {xs ys : List D} : gZip [.tup xs, .tup ys] = some (dZip xs ys) := rfl
@[simp] theorem gZip_lst {xs ys : List D} : gZip [.lst xs, .lst ys] = some (dZip xs ys) := rfl
@[simp] theorem gIsi_at {b : String} : gIsi [d, .val (.ty b)] = (match tyN d with | some n => if b ∈ tyNames then some (.bl (isB n b)) else none | none => none) := rfl
@[simp] theorem tyN_int {k : Int} : tyN (.int k) = some "int" := rfl
@[simp] theorem tyN_tup {xs : List D} : tyN (.tup xs) = some "tuple" := rfl
@[simp] theorem tyN_lst {xs : List D} : tyN (.lst xs) = some "list" := rfl
@[simp] theorem tyN_bl {b : Bool} : tyN (.bl b) = some "bool" := rfl
@[simp] theorem tyN_non : tyN .non = some "NoneType" := rfl
theorem okLen_iff {n : Nat} : (okLen n = true) = (n ≤ 16777216) := by simp [okLen]
theorem ok_le {n : Nat} (h : n ≤ 1000000) : okLen n = true := by simp only [okLen, decide_eq_true_eq]; omega
@[simp] theorem okLen_0 : okLen 0 = true := rfl
@[simp] theorem okLen_1 : okLen 1 = true := rfl
@[simp] theorem okLen_2 : okLen 2 = true := rfl
@[simp] theorem okLen_3 : okLen 3 = true := rfl
@[simp] theorem okLen_4 : okLen 4 = true := rfl
@[simp] theorem okLen_5 : okLen 5 = true := rfl
@[simp] theorem okLen_6 : okLen 6 = true := rfl
@[simp] theorem imm_int {k : Int} : (D.int k).imm = true := rfl
@[simp] theorem imm_bl {b : Bool} : (D.bl b).imm = true := rfl
@[simp] theorem imm_non : D.non.imm = true := rfl
@[simp] theorem imm_val {v : V} : (D.val v).imm = true := rfl
@[simp] theorem imm_str {v : Str} : (D.str v).imm = true := rfl
@[simp] theorem imm_tup {xs : List D} : (D.tup xs).imm = immL xs := rfl
@[simp] theorem imm_fro {xs : List D} : (D.fro xs).imm = immL xs := rfl
@[simp] theorem imm_lst {xs : List D} : (D.lst xs).imm = false := rfl
@[simp] theorem topImm_lst {xs : List D} : topImm (D.lst xs) = immL xs := rfl
@[simp] theorem topImm_tup {xs : List D} : topImm (D.tup xs) = immL xs := rfl
@[simp] theorem topImm_int {k : Int} : topImm (D.int k) = true := rfl
@[simp] theorem topImm_dT {ks : List (List Key)} {xs : List D} : topImm (D.dT ks xs) = immL xs := rfl
@[simp] theorem topImm_dK {ks : List Key} {xs : List D} : topImm (D.dK ks xs) = immL xs := rfl
@[simp] theorem isC_lst {xs : List D} : isC (D.lst xs) = true := rfl
@[simp] theorem isC_dT {ks : List (List Key)} {xs : List D} : isC (D.dT ks xs) = true := rfl
@[simp] theorem isC_dK {ks : List Key} {xs : List D} : isC (D.dK ks xs) = true := rfl
@[simp] theorem immL_nil : immL [] = true := rfl
@[simp] theorem immL_cons {d : D} {xs : List D} : immL (d :: xs) = (d.imm && immL xs) := rfl
@[simp] theorem immL_app {xs ys : List D} : immL (xs ++ ys) = (immL xs && immL ys) := by
  induction xs with
  | nil => simp
  | cons x xs ih => simp [ih, Bool.and_assoc]
@[simp] theorem immL_ints {xs : List Int} : immL (xs.map D.int) = true := by
  induction xs with
  | nil => rfl
  | cons x xs ih => simp [ih]
@[simp] theorem imm_enc {r : List Int} : (encR r).imm = true := by simp [encR]
@[simp] theorem immL_encs {xs : List (List Int)} : immL (xs.map encR) = true := by
  induction xs with
  | nil => rfl
  | cons x xs ih => simp [ih]
theorem immL_all {xs : List D} : immL xs = xs.all D.imm := by
  induction xs with
  | nil => rfl
  | cons x xs ih => simp [ih]
end
end CB
set_option Elab.async false
set_option linter.all false
set_option maxRecDepth 100000
namespace CB
open PySem PySem.Spec PyProof.Rows L2
@[simp] theorem fMethL_at {g : List D → List D → Option D} {fo : F D} {fa : F (List D)} {ρ : En} {S : Store} : fMethL g fo fa ρ S = (fo ρ S).bind fun x S => match x with | .lst xs => (fa ρ S).bind fun ds S => ofOpt (g xs ds) S | _ => .no := rfl
@[simp] theorem shaped_str (s : Str) : SeqAt.shaped (.str s) = PyData.strOk s := by simp [SeqAt.shaped, PyData.canLay0, PyData.depth]
@[simp] theorem shaped_int (s : Int) : SeqAt.shaped (.int s) = true := by simp [SeqAt.shaped, PyData.canLay0, PyData.depth]
@[simp] theorem shaped_bool (s : Bool) : SeqAt.shaped (.bool s) = true := by simp [SeqAt.shaped, PyData.canLay0, PyData.depth]
@[simp] theorem shaped_none : SeqAt.shaped .none = true := by simp [SeqAt.shaped, PyData.canLay0, PyData.depth]
@[simp] theorem strOk_code : PyData.strOk (Str.ofString "code") = true := by decide +kernel
@[simp] theorem strOk_word : PyData.strOk (Str.ofString "word") = true := by decide +kernel
@[simp] theorem strOk_notin : PyData.strOk (Str.ofString "notin") = true := by decide +kernel
@[simp] theorem strOk_place : PyData.strOk (Str.ofString "place") = true := by decide +kernel
@[simp] theorem strOk_slips : PyData.strOk (Str.ofString "slips") = true := by decide +kernel
@[simp] theorem strOk_meet : PyData.strOk (Str.ofString "meet") = true := by decide +kernel
@[simp] theorem strOk_count : PyData.strOk (Str.ofString "count") = true := by decide +kernel
@[simp] theorem strOk_weights : PyData.strOk (Str.ofString "weights") = true := by decide +kernel
@[simp] theorem strOk_prices : PyData.strOk (Str.ofString "prices") = true := by decide +kernel
@[simp] theorem strOk_deed : PyData.strOk (Str.ofString "deed") = true := by decide +kernel
@[simp] theorem strOk_halted : PyData.strOk (Str.ofString "halted") = true := by decide +kernel
@[simp] theorem strOk_text : PyData.strOk (Str.ofString "text") = true := by decide +kernel
@[simp] theorem strOk_other : PyData.strOk (Str.ofString "other") = true := by decide +kernel
@[simp] theorem strOk_e : PyData.strOk (Str.ofString "") = true := by decide +kernel
@[simp] theorem strOk_tell : PyData.strOk (Str.ofString "tell") = true := by decide +kernel
@[simp] theorem strOk_drop : PyData.strOk (Str.ofString "drop") = true := by decide +kernel
theorem refsuite_ok {x : Str} {is : List Int} {a : Addr} {d : Option Addr} {S : Store} {u v y0 y1 y2 : Sl} (hx : x ∈ excNames) (hi : is.length = arX x) (hd : (is = [] ∧ d = none) ∨ ∃ q, d = some q ∧ S q = some (.xd (xdOf x is))) :
    fs_refsuite x a d [u, v, .ro (.val (.ref a)), y0, y1, y2] S = .rt (refAns x is) S := by
  have hk : dOk d S = true := by
    rcases hd with ⟨_, rfl⟩ | ⟨q, rfl, e⟩
    · rfl
    · simp [dOk, e]
  have h0 : ∀ (w0 w1 w2 : Sl) (b : Bool), fIsE 2 a d b [u, v, .ro (.val (.ref a)), w0, w1, w2] S = .ok (.bl b) S := fun w0 w1 w2 b => if_pos ⟨rfl, hk⟩
  have hf : ∀ (w0 w1 w2 : Sl) (f : Str) (q : Addr) (k : Int), f ∈ exFlds x → d = some q → S q = some (.xd (xdOf x is)) → (xdOf x is).lookup f = some (.int k) → fFldE x 2 a d f [u, v, .ro (.val (.ref a)), w0, w1, w2] S = .ok (.int k) S := fun w0 w1 w2 f q k h1 h2 h3 h4 => by
    unfold fFldE; rw [if_pos h1, h2]; simp only [h3, h4]; exact if_pos rfl
  simp only [excNames, List.mem_cons, List.not_mem_nil, or_false] at hx
  unfold fs_refsuite
  rcases hx with rfl | rfl | rfl | rfl | rfl | rfl | rfl | rfl | rfl | rfl | rfl | rfl
  · obtain ⟨p, q, rfl⟩ : ∃ p q, is = [p, q] := by
      rcases is with _ | ⟨p, _ | ⟨q, _ | _⟩⟩ <;> first | exact ⟨_, _, rfl⟩ | exact absurd hi (by simp (decide := true) [arX])
    obtain ⟨dd, rfl, e⟩ := hd.resolve_left fun z => by cases z.1
    have g1 : ∀ w0 w1 w2, fFldE "BadCode" 2 a (some dd) "part" [u, v, .ro (.val (.ref a)), w0, w1, w2] S = .ok (.int q) S := fun w0 w1 w2 => hf w0 w1 w2 "part" dd q (by decide) rfl e rfl
    have g2 : ∀ w0 w1 w2, fFldE "BadCode" 2 a (some dd) "number" [u, v, .ro (.val (.ref a)), w0, w1, w2] S = .ok (.int p) S := fun w0 w1 w2 => hf w0 w1 w2 "number" dd p (by decide) rfl e rfl
    simp (decide := true) [h0, gCount, gIndex, gNe, gEq, refAns, keyX, findEq, pyL, D.py, PyData.eqv, atI, ixN, g1, g2]
  · have : is = [] := List.eq_nil_of_length_eq_zero hi
    subst this
    simp (decide := true) [h0, gCount, gIndex, gNe, gEq, refAns, keyX, findEq, pyL, D.py, PyData.eqv, atI, ixN]
  · have : is = [] := List.eq_nil_of_length_eq_zero hi
    subst this
    simp (decide := true) [h0, gCount, gIndex, gNe, gEq, refAns, keyX, findEq, pyL, D.py, PyData.eqv, atI, ixN]
  · have : is = [] := List.eq_nil_of_length_eq_zero hi
    subst this
    simp (decide := true) [h0, gCount, gIndex, gNe, gEq, refAns, keyX, findEq, pyL, D.py, PyData.eqv, atI, ixN]
  · have : is = [] := List.eq_nil_of_length_eq_zero hi
    subst this
    simp (decide := true) [h0, gCount, gIndex, gNe, gEq, refAns, keyX, findEq, pyL, D.py, PyData.eqv, atI, ixN]
  · have : is = [] := List.eq_nil_of_length_eq_zero hi
    subst this
    simp (decide := true) [h0, gCount, gIndex, gNe, gEq, refAns, keyX, findEq, pyL, D.py, PyData.eqv, atI, ixN]
  · have : is = [] := List.eq_nil_of_length_eq_zero hi
    subst this
    simp (decide := true) [h0, gCount, gIndex, gNe, gEq, refAns, keyX, findEq, pyL, D.py, PyData.eqv, atI, ixN]
  · have : is = [] := List.eq_nil_of_length_eq_zero hi
    subst this
    simp (decide := true) [h0, gCount, gIndex, gNe, gEq, refAns, keyX, findEq, pyL, D.py, PyData.eqv, atI, ixN]
  · have : is = [] := List.eq_nil_of_length_eq_zero hi
    subst this
    simp (decide := true) [h0, gCount, gIndex, gNe, gEq, refAns, keyX, findEq, pyL, D.py, PyData.eqv, atI, ixN]
  · obtain ⟨p, rfl⟩ : ∃ p, is = [p] := by
      rcases is with _ | ⟨p, _ | _⟩ <;> first | exact ⟨_, rfl⟩ | exact absurd hi (by simp (decide := true) [arX])
    obtain ⟨dd, rfl, e⟩ := hd.resolve_left fun z => by cases z.1
    have g1 : ∀ w0 w1 w2, fFldE "BadDeed" 2 a (some dd) "number" [u, v, .ro (.val (.ref a)), w0, w1, w2] S = .ok (.int p) S := fun w0 w1 w2 => hf w0 w1 w2 "number" dd p (by decide) rfl e rfl
    simp (decide := true) [h0, gCount, gIndex, gNe, gEq, refAns, keyX, findEq, pyL, D.py, PyData.eqv, atI, ixN, g1]
  · obtain ⟨p, q, rfl⟩ : ∃ p q, is = [p, q] := by
      rcases is with _ | ⟨p, _ | ⟨q, _ | _⟩⟩ <;> first | exact ⟨_, _, rfl⟩ | exact absurd hi (by simp (decide := true) [arX])
    obtain ⟨dd, rfl, e⟩ := hd.resolve_left fun z => by cases z.1
    have g1 : ∀ w0 w1 w2, fFldE "Halted" 2 a (some dd) "number" [u, v, .ro (.val (.ref a)), w0, w1, w2] S = .ok (.int q) S := fun w0 w1 w2 => hf w0 w1 w2 "number" dd q (by decide) rfl e rfl
    have g2 : ∀ w0 w1 w2, fFldE "Halted" 2 a (some dd) "done" [u, v, .ro (.val (.ref a)), w0, w1, w2] S = .ok (.int p) S := fun w0 w1 w2 => hf w0 w1 w2 "done" dd p (by decide) rfl e rfl
    simp (decide := true) [h0, gCount, gIndex, gNe, gEq, refAns, keyX, findEq, pyL, D.py, PyData.eqv, atI, ixN, g1, g2]
  · obtain ⟨p, rfl⟩ : ∃ p, is = [p] := by
      rcases is with _ | ⟨p, _ | _⟩ <;> first | exact ⟨_, rfl⟩ | exact absurd hi (by simp (decide := true) [arX])
    obtain ⟨dd, rfl, e⟩ := hd.resolve_left fun z => by cases z.1
    have g1 : ∀ w0 w1 w2, fFldE "BadText" 2 a (some dd) "row" [u, v, .ro (.val (.ref a)), w0, w1, w2] S = .ok (.int p) S := fun w0 w1 w2 => hf w0 w1 w2 "row" dd p (by decide) rfl e rfl
    simp (decide := true) [h0, gCount, gIndex, gNe, gEq, refAns, keyX, findEq, pyL, D.py, PyData.eqv, atI, ixN, g1]
end CB
set_option Elab.async false
set_option linter.all false
set_option maxRecDepth 100000
namespace CB
open PySem PySem.Spec PyProof.Rows L2 LamX

theorem Evo.unxd {K : PySem.W.Frag} {S : Store} {H H' : Hp} {q : Addr} {fs : List (Str × V)} (hq : H q = some (.xd fs)) (hS : S q = none) (E : Evo K (updS S q (.xd fs)) H (updS S q (.xd fs)) H') (st : StOk K (updS S q (.xd fs)) H) : Evo K S H S H' := by
  have e1 : H' q = some (.xd fs) := E.st st q (.xd fs) (if_pos rfl)
  refine ⟨⟨fun b o e n t => ?_, E.kp.tup, E.kp.frz, E.kp.dom, E.kp.ext⟩, fun _ => Iff.rfl, fun _ a o e => ?_⟩
  · by_cases h : b = q
    · subst h; rw [hq] at e; cases e; exact e1
    · exact E.kp.keep b o e (fun z => by unfold dS updS at z; rw [if_neg h] at z; exact n z) t
  · exact E.st st a o (by unfold updS; rw [if_neg (fun z => by rw [z, hS] at e; cases e)]; exact e)
theorem relOf {K : PySem.W.Frag} {S : Store} {H : Hp} {a : Addr} {σ : L2.St} (st : StOk K S H) (sd : ∀ a, S a ≠ none → H a ≠ none) (hl : σ.length = 6) (h2 : σ[2]? = some (some (.ref a))) : Rel K S H (dS S) S [.no, .no, .ro (.val (.ref a)), .no, .no, .no] σ H where
  len := hl
  ro := fun i d h => by
    rcases i with _ | _ | _ | _ | _ | _ | i <;> simp at h
    subst h
    exact ⟨.ref a, h2, by unfold Rep; rfl⟩
  own := fun i d h => by rcases i with _ | _ | _ | _ | _ | _ | i <;> simp at h
  inj := fun i j d e p h => by rcases i with _ | _ | _ | _ | _ | _ | i <;> simp at h
  pS := fun a h => h
  pH := sd
  s0 := sd
  st := st
  evo := .refl
/-- what is known where the handler is entered -/
def RefAt (K : PySem.W.Frag) (mg : Str → Option Value) (live : List Str) (cls : Value) (d : Option Addr) (H : Hp) (rt : V → Hp → Prop) : Prop := ∃ (x : Str) (is : List Int) (S : Store), XAt mg (exD x is) cls d H ∧ x ∈ live ∧ x ∈ excNames ∧ is.length = arX x ∧ StOk K S H ∧ (∀ a, S a ≠ none → H a ≠ none) ∧
  ∀ H' v, Evo K S H S H' → Rep K (dH H) H' (refAns x is) v → rt v H'
/-- what _law_refused makes of the lambda's reading -/
def TTref (K : PySem.W.Frag) (mg : Str → Option Value) (live : List Str) (tl : XK → Hp → VK → Prop) (H : Hp) (Q : VK) : Prop := ∀ p, H p = none →
  ∀ Q' : VK, (∀ v H', H' p = some (.lst []) → (∀ t, H' t = none → t ≠ p → Q (.ref t) (upd (upd H' p (.lst [v])) t (.tup [.str "", v]))) → Q' v H') → tl (fun cls d H' => RefAt K mg live cls d H' Q) (upd H p (.lst [])) Q'
/-- as GivesTo, whatever is known of the heap where it is called -/
def GivesP (X : Cx) (Ng : List Str) (x : Str) (sg : Scope) (g : Addr) (cdg : Value) (bg : List Stmt) (a : Str) (TT : (XK → Hp → VK → Prop) → Hp → VK → Prop) : Prop :=
  ∀ (f : Addr) (Pi : Hp → Prop) (s : Shared) (H : Hp) (Q : VK) (tl : XK → Hp → VK → Prop), (∀ (H : Hp) (p : Addr) (o : HO), H p = none → Pi H → Pi (upd H p o)) →
    (∀ (W : WX) (pn : List (Addr × Obj)) (xe : Value → Shared → Prop) (E : XK) (p1 p2 : Pos), Takes ((cxOf C8.CX0 X.prog X.w X.K X.mg X.base Ng x sg g cdg X.A X.stack s H C8.E0).tr pn xe) W → (∀ cls d σ' H', E cls d H' → W cls d σ' H') →
      PE ((cxOf C8.CX0 X.prog X.w X.K X.mg X.base Ng x sg g cdg X.A X.stack s H C8.E0).tr pn xe) (.Call (.Name a p1) [] [] p2) (fun σZ HZ Q => σZ[0]? = some (some (.ref f)) ∧ Pi HZ ∧ tl E HZ Q)) →
    Pi H → TT tl H Q →
    ∃ t, PSs (cxOf C8.CX0 X.prog X.w X.K X.mg X.base Ng x sg g cdg X.A X.stack s H C8.E0).nox bg t ∧ t { nx := fun _ H' => Q .non H', rt := Q } (L2.start Ng [.ref f]) H
theorem GivesP.to {X : Cx} {Ng : List Str} {x : Str} {sg : Scope} {g : Addr} {cdg : Value} {bg : List Stmt} {a : Str} {TT : (XK → Hp → VK → Prop) → Hp → VK → Prop} (h : GivesP X Ng x sg g cdg bg a TT) (q : Str) : GivesTo X Ng x sg g cdg bg a q TT := fun f c' s H Q tl act hc ht =>
  h f (fun H => H c' = some (CodeO c' q)) s H Q tl (fun H p o hp hc => by rw [upd_ne (ne_of_none hc hp)]; exact hc) act hc ht
section
variable {X : Cx}
theorem exD_inj {x y : Str} {is js : List Int} (h : exD x is = exD y js) : x = y ∧ is = js := by
  unfold exD at h
  simp only [D.tup.injEq, List.cons.injEq, D.str.injEq, and_true] at h
  refine ⟨h.1, ?_⟩
  have := congrArg intsOf h.2
  simpa using this
theorem ref_gives {k : Nat} {live : List Str} {Ng : List Str} {x a fnd en : Str} {sg : Scope} {g : Addr} {cdg : Value} {j j' kk : Nat} {p1 p2 p3 p4 p5 p6 p7 p8 p9 pa pb pc pd pe pf pg ph pi_ : Pos} {b0 : Stmt} {suite : List Stmt}
    (hr : Room (k + 2) X.A) (LV : ∀ x ∈ live, ∃ D, LiveX X.K X.mg x D) (CE : ∃ C, X.mg "CodeError" = some (.ref C)) (nd : Ng.Nodup) (hlen : Ng.length = 6) (h1 : Ng[1]? = some fnd) (h2 : Ng[2]? = some en) (l1 : Loc sg fnd) (v1 : Vis sg fnd) (l2 : sg.names.lookup en = some .local) (f1 : sg.names.lookup fnd = some .local)
    (hge : sg.names.lookup ("CodeError" : Str) = some .globalImplicit) (d1 : (fnd == ("__debug__" : Str)) = false) (d2 : (fnd == ("__classdict__" : Str)) = false) (d3 : (("CodeError" : Str) == ("__debug__" : Str)) = false)
    (hb1 : ∀ L, attributeBase (.Name fnd p4) "append" (envOfC x sg L g cdg) (eval (.Name fnd p4) (envOfC x sg L g cdg)) = eval (.Name fnd p4) (envOfC x sg L g cdg)) (hb2 : (p5.endLine == p8.line) = true)
    (hb3 : ∀ L, swapsWith (.Call (.Attribute (.Name fnd p4) "append" p5) [.Call (.Name a p6) [] [] p7] [] p8) none p9.line (envOfC x sg L g cdg) = pure false)
    (hsu : ∀ (s : Shared) (H : Hp) (y : Str) (D ax : Addr) (oe : Obj) (d : Option Addr) (pn : List (Addr × Obj)), Room (k + 1) (X.A.deeper (envOfC x sg s.heap.objs.size g cdg)) → LiveX X.K X.mg y D → Zc (.ref D) d oe → (∃ vs, oe.data = .fields vs) →
      PSs ((cxOf C8.CX0 X.prog X.w X.K X.mg X.base Ng x sg g cdg X.A X.stack s H C8.E0).nox.suite ax ((ax, oe) :: pn)) (b0 :: suite) (tS Wno X.K (fs_refsuite y ax d))) :
    GivesP X Ng x sg g cdg [.Assign [.Name fnd p1] (.List [] p2) p3, .Try [.Expr (.Call (.Attribute (.Name fnd p4) "append" p5) [.Call (.Name a p6) [] [] p7] [] p8) p9] [.ExceptHandler (some (.Name "CodeError" pa)) (some en) (b0 :: suite) pb] [] [] pc,
      .Return (some (.Tuple [.Constant (.str "") j pd, .Subscript (.Name fnd pe) (.Constant (.int 0) j' pf) pg] kk ph)) pi_] a (TTref X.K X.mg live) := by
  intro f Pi s H Q tl hPi act hc h
  obtain ⟨C, hC⟩ := CE
  let Y : Cx := (cxOf C8.CX0 X.prog X.w X.K X.mg X.base Ng x sg g cdg X.A X.stack s H C8.E0).nox
  have hgl : Gl Y "CodeError" := hge
  have hr1 := hr.deeper (envOfC x sg s.heap.objs.size g cdg)
  refine ⟨_, pss_cons (ps_set (X := Y) (i := 1) nd h1 l1 (pe_lst pa_nil) rfl (.inr f1)) (pss_cons (ps_try_as (X := Y) (i := 2) (c := .ref C)
      (tb := fun W D σ H => ∃ Ech : XK, (∀ cls d σ' H', Ech cls d H' → W cls d σ' H') ∧ ∃ p, σ[1]? = some (some (.ref p)) ∧ H p = some (.lst []) ∧ σ[0]? = some (some (.ref f)) ∧ Pi H ∧ tl Ech H fun v H1 => rAppend (.ref p) [v] H1 fun _ H3 => D.nx σ H3)
      (ts := fun ax cls d D σ H => σ.length = 6 → σ[2]? = some (some (.ref ax)) ∧ RefAt X.K X.mg live cls d H D.rt)
      rfl rfl nd h2 l2 ⟨hgl, d3, .inl hC⟩ L2.takes0 (fun W pn xe tk _ => ?_) (fun ax oe cls d pn hz hf => ?_)) (pss_one (ps_ret (X := Y) (pe_tup (pa_cons pe_str (pa_cons (pe_ix ix_list (pe_var (i := 1) h1 v1 d1 d2) pe_int (fun _ _ => rfl)) pa_nil)))))), ?_⟩
  · refine pss_one ⟨fun pins s' σ H' D I h' => ?_⟩
    obtain ⟨Ech, hW, p, e1, e2, e3, e4, e5⟩ := h'
    have hp := act W pn xe Ech p6 p7 tk hW
    have hs := ps_expr (pos := p9) (pe_bm (X := Y.tr pn xe) (cpos := p8) (apos := p5) PySem.F.plainAttrs_list PySem.F.slot_list_append PySem.F.type_list_append mt_append (pe_var (X := Y.tr pn xe) (i := 1) (pos := p4) h1 v1 d1 d2) (pa_cons hp pa_nil) (hb1 _) rfl hb2) (hb3 _)
    exact hs.run pins s' σ H' D I ⟨.ref p, e1, .inl ⟨rfl, _, .of e2⟩, e3, e4, e5⟩
  · refine ⟨fun pins s' σ H' D I h' => ?_⟩
    obtain ⟨e2, y, is, S, ⟨y', is', C', eq, hm, hcl, hx⟩, hl, hn, ha, st, sd, fin⟩ := h' (I.len.trans hlen)
    obtain ⟨rfl, rfl⟩ := exD_inj eq
    obtain ⟨D', L⟩ := LV y hl
    have := L.hmg
    rw [hm] at this
    cases this
    subst hcl
    have run : ∀ S', StOk X.K S' H' → (∀ a, S' a ≠ none → H' a ≠ none) → ((is = [] ∧ d = none) ∨ ∃ q, d = some q ∧ S' q = some (.xd (xdOf y is))) → (∀ H2 v, Evo X.K S' H' S' H2 → Rep X.K (dH H') H2 (refAns y is) v → D.rt v H2) → wpAny (model X.prog X.w) _ _ _ _ s' := fun S' st' sd' hd' fin' =>
      (hsu s H y _ ax oe d pn hr1 L hz hf).run pins s' σ H' D I ⟨S', H', _, S', _, relOf st' sd' (I.len.trans hlen) e2, by
        rw [refsuite_ok hn ha hd']
        exact fin'⟩
    rcases hx with ⟨hi, hd⟩ | ⟨hi, q2, hd, hq⟩
    · exact run S st sd (.inl ⟨hi, hd⟩) fin
    · cases e : S q2 with
      | some o =>
        have z := st q2 o e
        cases o with
        | lst xs => obtain ⟨_, vs, h1, _⟩ := z; rw [hq] at h1; cases h1
        | ins c dx ks ds => obtain ⟨_, fs, h1, _⟩ := z; rw [hq] at h1; cases h1
        | tbl z' => obtain ⟨ps, h1, _⟩ := z; rw [hq] at h1; cases h1
        | xd fs =>
          have z : H' q2 = some (.xd fs) := z
          rw [hq] at z
          cases z
          exact run S st sd (.inr ⟨q2, hd, e⟩) fin
      | none =>
        have st2 : StOk X.K (updS S q2 (.xd (xdOf y is))) H' := fun b o e => by
          unfold updS at e
          split at e
          · rename_i z; cases e; rw [z]; exact hq
          · exact st b o e
        refine run (updS S q2 (.xd (xdOf y is))) st2 (fun b z => ?_) (.inr ⟨q2, hd, if_pos rfl⟩) fun H2 v E r => fin H2 v (Evo.unxd hq e E st2) r
        unfold updS at z
        split at z
        · rename_i w; rw [w, hq]; simp
        · exact sd b z
  · refine ⟨by decide, fun p hp => ?_⟩
    have s0 : ∀ o : Option V, ((L2.start Ng [V.ref f]).set 1 o).length = 6 := fun o => by simp [L2.start, hlen]
    have sL : (L2.start Ng [V.ref f]).length = 6 := by simp [L2.start, hlen]
    have s1 : ((L2.start Ng [V.ref f]).set 1 (some (.ref p)))[1]? = some (some (.ref p)) := List.getElem?_set_self (by omega)
    refine ⟨fun cls d H' => RefAt X.K X.mg live cls d H' Q, fun cls d σ' H' hh => ?_, p, s1, upd_same, by rw [List.getElem?_set_ne (by decide)]; rfl, hPi _ _ _ hp hc, h p hp _ fun v H1 e1 e2 => ⟨p, [], v, rfl, rfl, e1, by decide, ?_⟩⟩
    · obtain ⟨y, is, S, ⟨y', is', C', eq, hm, hcl, hx⟩, hl, r⟩ := id hh
      obtain ⟨rfl, rfl⟩ := exD_inj eq
      obtain ⟨D', L⟩ := LV y hl
      obtain ⟨C2, g2, g3⟩ := L.ce
      have e1 := L.hmg
      rw [hm] at e1
      cases e1
      rw [hC] at g2
      cases g2
      subst hcl
      refine ⟨true, g3, fun _ ax _ hlen' => ⟨List.getElem?_set_self (by rw [List.length_set] at hlen'; omega), hh⟩, fun z => nomatch z⟩
    · refine ⟨.ref p, s1, p, [v], 0, v, rfl, rfl, .of upd_same, rfl, by show 2 ≤ sizeLine; decide, fun t ht => ?_⟩
      have tp : t ≠ p := fun z => by rw [z, upd_same] at ht; cases ht
      exact e2 t (by rw [upd_ne tp] at ht; exact ht) tp
end
end CB
set_option Elab.async false
set_option linter.all false
set_option maxRecDepth 100000
namespace CB
open PySem PySem.Spec PyProof.Rows L2 LamX

def ansOf (live : List Str) : D → Option D
  | .tup [.str x, .tup ds] => (intsOf ds).bind fun is => if x ∈ live ∧ x ∈ excNames ∧ is.length = arX x then some (refAns x is) else none
  | _ => none
theorem ansOf_some {live : List Str} {e d : D} (h : ansOf live e = some d) : ∃ x is, e = exD x is ∧ x ∈ live ∧ x ∈ excNames ∧ is.length = arX x ∧ d = refAns x is := by
  unfold ansOf at h
  split at h
  · simp only [Option.bind_eq_some_iff] at h
    obtain ⟨is, h1, h2⟩ := h
    split at h2
    · rename_i hh
      cases h2
      exact ⟨_, is, by rw [intsOf_eq h1]; rfl, hh.1, hh.2.1, hh.2.2, rfl⟩
    · cases h2
  · cases h
theorem ansOf_exD {live : List Str} {x : Str} {is : List Int} (h1 : x ∈ live) (h2 : x ∈ excNames) (h3 : is.length = arX x) : ansOf live (exD x is) = some (refAns x is) := by
  unfold ansOf exD
  simp only [intsOf_map, Option.bind_some]
  exact if_pos ⟨h1, h2, h3⟩
/-- _law_refused(lambda: f): what f gives, behind ''; or what is told of what it raises -/
def fRefused (live : List Str) (Tb : Addr) (q : Str) (fb : F D) : F D := fun ρ S => match S Tb with
  | some (.tbl q') => if q' = q then (match fb ρ S with
    | .ok d S' => .ok (.tup [.str "", d]) S'
    | .ex e S' => match ansOf live e with
      | some d => .ok d S'
      | none => .no
    | .no => .no) else .no
  | _ => .no
section
variable {X : Cx} {W : Wx}
theorem LamStep.evo {K : PySem.W.Frag} {S : Store} {H H1 : Hp} {Tb : Addr} {q : Str} (L : LamStep H H1 Tb q) (es : S Tb = some (.tbl q)) (hT : TabS H Tb q) : Evo K S H S H1 := by
  obtain ⟨ps, hP, _⟩ := hT
  have nb : ∀ b o, H b = some o → (∀ ps, o ≠ HO.tbl ps) → b ≠ Tb := fun b o e n z => by rw [z, hP] at e; exact n ps (Option.some.inj e).symm
  refine ⟨⟨fun b o e n t => L.keep b o e (nb b o e t), fun b xs e => L.keep b _ e (nb b _ e fun _ z => by cases z), fun b o u e => L.keep b _ e (nb b _ e fun _ z => by cases z), fun b e => ?_, fun b φ e => L.keep b _ e (nb b _ e fun _ z => by cases z)⟩, fun _ => Iff.rfl, fun st b o e => ?_⟩
  · by_cases h : b = Tb
    · obtain ⟨ps', h', _⟩ := L.tab
      rw [h, h']; simp
    · cases z : H b with
      | none => exact absurd z e
      | some o => rw [L.keep b o z h]; simp
  · have kp : Kp (fun a => a = Tb) H H1 := ⟨fun b o e n _ => L.keep b o e n, fun b xs e => L.keep b _ e (nb b _ e fun _ z => by cases z), fun b o u e => L.keep b _ e (nb b _ e fun _ z => by cases z), fun b e => by
      by_cases h : b = Tb
      · obtain ⟨ps', h', _⟩ := L.tab
        rw [h, h']; simp
      · cases z : H b with
        | none => exact absurd z e
        | some o => rw [L.keep b o z h]; simp, fun b φ e => L.keep b _ e (nb b _ e fun _ z => by cases z)⟩
    by_cases h : b = Tb
    · subst h
      rw [es] at e
      cases e
      exact L.tab
    · exact (st b o e).kp kp fun u z => L.keep b u z h
theorem ev_refused {live : List Str} {x a q : Str} {g c Tb : Addr} {k : Nat} {st : Stmt} {fd : FuncData} {Ng : List Str} {params : Arguments} {body : Expr} {scope : Scope} {fb : F D} {p lpos pos : Pos} (hg : Gl X x) (hm : X.mg x = some (.ref g)) (Fg : Fun X.K x x st g fd) (hb : L2.Binds X.K fd [a] [])
    (Sg : FnScope Ng [a] (defScope st)) (hNg : Ng[0]? = some a) (hva : Vis (defScope st) a) (hG : ∀ cdg, GivesTo X Ng x (defScope st) g cdg (defBody st) a (X.env.qual ++ "<lambda>") (TTref X.K X.mg live)) (TB : TabB X.base X.mg c Tb) (hcode : X.env.code = .ref c) (eq : q = X.env.qual ++ "<lambda>") (hr : Room (k + 2) X.A) (L : LamS X.env.scope scope)
    (hbody : ∀ (A : Around) (outer : List Env) (s : Shared) (H : Hp) (E : XK) (f c' : Addr), Room k (A.deeper (lamEnv X scope s.heap.objs.size f c')) → PE (lamCx X A outer s H E scope f c') body (tE (WofE X.mg E) .fr X.K fb))
    (hdef : defaultsOf params X.env = ([], []) := by rfl) (hbind : ∀ (q : Str) (cl : List (Str × Addr)) (pm cv ctv : Value), bindArgs (PySem.W.kla_fn "<lambda>" q params body scope cl pm cv ctv) ⟨[], []⟩ = pure [] := by intro _ _ _ _ _; rfl)
    (hdb : (x == ("__debug__" : Str)) = false := by decide) (hd : (a == ("__debug__" : Str)) = false := by decide) (hcd : (a == ("__classdict__" : Str)) = false := by decide) : PE X (.Call (.Name x p) [.Lambda params body scope lpos] [] pos) (tE W .fr X.K (fRefused live Tb q fb)) := by
  refine PE.imp (pe_lam3 hg hm Fg hb Sg hNg hva hG TB hcode eq hr L hdef hbind hbody hdb hd hcd) fun σ H Q ⟨S0, H0, P, S, ρ, R, h⟩ => ?_
  unfold fRefused at h
  cases es : S Tb with
  | none => rw [es] at h; exact h.elim
  | some o =>
    cases o with
    | lst _ => rw [es] at h; exact h.elim
    | ins _ _ _ _ => rw [es] at h; exact h.elim
    | xd _ => rw [es] at h; exact h.elim
    | tbl q' =>
      rw [es] at h
      simp only at h
      split at h
      · rename_i e
        subst e
        have hT : TabS H Tb q' := R.st Tb _ es
        refine ⟨hT, fun H1 step p hp Q' hQ => ?_⟩
        have E1 : Evo X.K S H S H1 := step.evo es hT
        have E2 : Evo X.K S H S (upd H1 p (.lst [])) := E1.trans (.alloc hp)
        have R2 := R.step E2
        refine ⟨S0, H0, P, S, ρ, R2, ?_⟩
        have pn : H p = none := Classical.byContradiction fun z => E1.kp.dom p z hp
        have Sp : S p = none := Classical.byContradiction fun z => R.pH p (R.pS p z) pn
        cases ef : fb ρ S with
        | ok d S' =>
          rw [ef] at h
          intro H3 v E3 r3
          refine hQ v H3 (E3.kp.keep _ _ upd_same fun z => z Sp) fun t ht tp => ?_
          have tn : H t = none := Classical.byContradiction fun z => (E2.trans E3).kp.dom t z ht
          have h3p : H3 p = some (.lst []) := E3.kp.keep _ _ upd_same fun z => z Sp
          have EE := E2.trans E3
          have Sp' : S' p = none := (EE.dom p).mpr Sp
          have EF : Evo X.K S H S' (upd H3 p (.lst [v])) := EE.freshWrite pn Sp' h3p (fun _ z => by cases z) fun _ _ z => by cases z
          have tn2 : upd H3 p (.lst [v]) t = none := by rw [upd_ne tp]; exact ht
          refine h _ _ (EF.trans (.alloc tn2)) ?_
          have kw : Kp (fun a => a = p) H3 (upd H3 p (.lst [v])) := Kp.write rfl h3p (fun _ z => by cases z) fun _ _ z => by cases z
          have rv : Rep X.K (dH H) (upd H3 p (.lst [v])) d v := Rep.av (fun a z => E2.kp.dom a z) (Rep.kp (kw.mono fun a z => by
            show dH (upd H1 p (.lst [])) a
            rw [z]; unfold dH; rw [upd_same]; simp) (show Rep X.K (dH (upd H1 p (.lst []))) H3 d v from r3))
          show Rep X.K (dH H) _ (.tup [.str "", d]) _
          exact newT tn2 (.cons (rS.mpr rfl) (.one rv))
        | ex e S' =>
          rw [ef] at h
          simp only at h
          split at h
          · rename_i d ea
            obtain ⟨y, is, rfl, hl, hn, ha, rfl⟩ := ansOf_some ea
            intro H3 E3 cls dd hx
            have EE := E2.trans E3
            refine ⟨y, is, S', hx, hl, hn, ha, EE.st R.st, fun a z => EE.kp.dom a (R.pH a (R.pS a fun w => z ((EE.dom a).mpr w))), fun H4 v E4 r4 => h H4 v (EE.trans E4) ?_⟩
            exact Rep.av (fun a z => EE.kp.dom a z) r4
          · exact h.elim
        | no => rw [ef] at h; exact h.elim
      · exact h.elim
end
end CB
set_option Elab.async false
set_option linter.all false
set_option maxRecDepth 100000
namespace CB
open PySem PySem.Spec PyProof.Rows L2
/-! loops and comprehensions, plainly -/
theorem compF_map {α : Type} {b : Bd} {c : F Bool} {elt : F D} {ρ : En} {S : Store} (enc : α → D) (p : α → Bool) (g : α → D) : ∀ xs : List α, (∀ x ∈ xs, ∃ ρ1, b (enc x) ρ = some ρ1 ∧ c ρ1 S = .ok (p x) S ∧ (p x = true → elt ρ1 S = .ok (g x) S)) → compF b c elt ρ (xs.map enc) S = .ok ((xs.filter p).map g) S
  | [], _ => rfl
  | x :: xs, h => by
    obtain ⟨ρ1, h1, h2, h3⟩ := h x (by simp)
    have ih := compF_map enc p g xs fun y hy => h y (by simp [hy])
    simp only [List.map_cons, compF, h1, h2, Out.bindN_ok]
    cases hp : p x with
    | false => simp [hp, ih]
    | true => simp [hp, h3 hp, ih]
theorem compF_all {α : Type} {b : Bd} {elt : F D} {ρ : En} {S : Store} (enc : α → D) (g : α → D) (xs : List α) (h : ∀ x ∈ xs, ∃ ρ1, b (enc x) ρ = some ρ1 ∧ elt ρ1 S = .ok (g x) S) : compF b fYes elt ρ (xs.map enc) S = .ok (xs.map g) S := by
  have := compF_map (b := b) (c := fYes) (elt := elt) (ρ := ρ) (S := S) enc (fun _ => true) g xs fun x hx => by
    obtain ⟨ρ1, h1, h2⟩ := h x hx
    exact ⟨ρ1, h1, rfl, fun _ => h2⟩
  rw [this, List.filter_eq_self.mpr (by simp)]
theorem compF_rel {α : Type} {b : Bd} {elt : F D} {ρ : En} (enc : α → D) (I : Store → Prop) (R : D → Prop) : ∀ (xs : List α) (S : Store), I S → (∀ x ∈ xs, ∀ S, I S → ∃ ρ1 y S2, b (enc x) ρ = some ρ1 ∧ elt ρ1 S = .ok y S2 ∧ I S2 ∧ R y) →
    ∃ ys S', compF b fYes elt ρ (xs.map enc) S = .ok ys S' ∧ I S' ∧ ys.length = xs.length ∧ ∀ y ∈ ys, R y
  | [], S, hS, _ => ⟨[], S, rfl, hS, rfl, by simp⟩
  | x :: xs, S, hS, h => by
    obtain ⟨ρ1, y, S2, h1, h2, h3, h4⟩ := h x (by simp) S hS
    obtain ⟨ys, S', e, g1, g2, g3⟩ := compF_rel enc I R xs S2 h3 fun z hz => h z (by simp [hz])
    refine ⟨y :: ys, S', ?_, g1, by simp [g2], by simp [h4]; exact g3⟩
    simp [compF, h1, h2, e]
/-- a loop with an invariant on what is done, the variables and the store -/
theorem loopS_rel {α : Type} {b : Bd} {body : FS} (enc : α → D) (I : List α → En → Store → Prop) : ∀ (xs pre : List α) (ρ : En) (S : Store), I pre ρ S →
    (∀ (pre : List α) (x : α) (ρ : En) (S : Store), x ∈ xs → I pre ρ S → ∃ ρ1 ρ2 S2, b (enc x) ρ = some ρ1 ∧ body ρ1 S = .nx ρ2 S2 ∧ I (pre ++ [x]) ρ2 S2) → ∃ ρ' S', loopS b body (xs.map enc) ρ S = .nx ρ' S' ∧ I (pre ++ xs) ρ' S'
  | [], pre, ρ, S, h, _ => ⟨ρ, S, rfl, by simpa using h⟩
  | x :: xs, pre, ρ, S, h, step => by
    obtain ⟨ρ1, ρ2, S2, h1, h2, h3⟩ := step pre x ρ S (by simp) h
    obtain ⟨ρ', S', e, g⟩ := loopS_rel enc I xs (pre ++ [x]) ρ2 S2 h3 fun p y ρ S hy => step p y ρ S (by simp [hy])
    refine ⟨ρ', S', ?_, by simpa using g⟩
    simp only [List.map_cons, loopS, h1, h2, e]
/-- .. with what is to come -/
theorem loopS_all {α : Type} {b : Bd} {body : FS} (enc : α → D) (I : List α → En → Store → Prop) (all : List α) (ρ : En) (S : Store) (h : I [] ρ S)
    (step : ∀ (pre : List α) (x : α) (post : List α) (ρ : En) (S : Store), all = pre ++ x :: post → I pre ρ S → ∃ ρ1 ρ2 S2, b (enc x) ρ = some ρ1 ∧ body ρ1 S = .nx ρ2 S2 ∧ I (pre ++ [x]) ρ2 S2) : ∃ ρ' S', loopS b body (all.map enc) ρ S = .nx ρ' S' ∧ I all ρ' S' := by
  have key : ∀ (xs pre : List α) (ρ : En) (S : Store), all = pre ++ xs → I pre ρ S → ∃ ρ' S', loopS b body (xs.map enc) ρ S = .nx ρ' S' ∧ I all ρ' S' := fun xs => by
    induction xs with
    | nil => intro pre ρ S e h; exact ⟨ρ, S, rfl, by rw [e]; simpa using h⟩
    | cons x xs ih =>
      intro pre ρ S e h
      obtain ⟨ρ1, ρ2, S2, h1, h2, h3⟩ := step pre x xs ρ S e h
      obtain ⟨ρ', S', e', g⟩ := ih (pre ++ [x]) ρ2 S2 (by simpa using e) h3
      exact ⟨ρ', S', by simp only [List.map_cons, loopS, h1, h2, e'], g⟩
  exact key all [] ρ S rfl h
theorem dZip_map {α β : Type} {f : α → D} {g : β → D} {xs : List α} {ys : List β} : dZip (xs.map f) (ys.map g) = (List.zip xs ys).map fun p => .tup [f p.1, g p.2] := by
  unfold dZip
  rw [List.zip_map, List.map_map]; rfl
theorem dRange_map (lo : Int) (n : Nat) : dRange lo n = ((List.range n).map fun (i : Nat) => lo + (i : Int)).map D.int := by
  unfold dRange
  rw [List.map_map]; rfl
theorem dRange_zero (n : Nat) : dRange 0 n = (List.range n).map fun (i : Nat) => D.int (i : Int) := by
  unfold dRange; simp
theorem atI_nat' {α : Type} {xs : List α} {j : Nat} (h : j < xs.length) : atI xs (j : Int) = xs[j]? := by
  unfold atI ixN
  rw [if_pos (by omega), if_pos (by omega)]; simp
theorem atI_enc {r : List Int} {j : Nat} (h : j < r.length) : atI (r.map D.int) (j : Int) = some (.int (r.getD j 0)) := by
  rw [atI_nat' (by simpa using h)]
  simp [h]
/-- a row of digits below f -/
structure RowOk (f : Int) (n : Nat) (r : List Int) : Prop where
  len : r.length = n
  dig : ∀ x ∈ r, 0 ≤ x ∧ x < f
/-- field and length as the code's text has them -/
structure Fn (f : Int) (n : Nat) : Prop where
  f2 : 2 ≤ f
  f3 : f ≤ 3
  n1 : 1 ≤ n
  n10 : n ≤ 10
def pt (f : Int) (a b : List Int) (t : Int) : List Int := List.zipWith (fun x y => (x + t * y) % f) a b
def tm (f : Int) (r : List Int) (t : Int) : List Int := r.map fun x => t * x % f
theorem okMul_r {i j : Int} (h : j.natAbs < 2 ^ 64) : okMul i j = true := by simp [okMul]; exact .inr h
theorem okMul_l {i j : Int} (h : i.natAbs < 2 ^ 64) : okMul i j = true := by simp [okMul]; exact .inl h
theorem is_number_ok {k lo hi : Int} {S : Store} : q_is_number [.int k, .int lo, .int hi] S = .ok (.bl (decide (lo ≤ k) && decide (k ≤ hi))) S := by
  unfold q_is_number fs_is_number
  simp [isB, tyNames]
  by_cases h : lo ≤ k <;> simp [h]
theorem pt_enc (f : Int) (a b : List Int) (t : Int) : (List.zip a b).map (fun p => D.int ((p.1 + t * p.2) % f)) = (pt f a b t).map D.int := by
  unfold pt
  rw [List.map_zipWith, List.zip, List.map_zipWith]
theorem plus_times_ok {f t : Int} {a b : List Int} {S : Store} (hf : 0 < f) (hb : ∀ y ∈ b, okMul t y = true) (hl : a.length ≤ 1000) : q_plus_times [.int f, encR a, encR b, .int t] S = .ok (encR (pt f a b t)) S := by
  unfold q_plus_times fs_plus_times encR
  simp only [runB_at, sRet_at, fImm_at, fApp_at, fCons_at, fComp_at, fAppL_at, fVar_at, fNil_at, List.map_cons, List.map_nil, List.cons_append, List.nil_append, List.length_cons, List.length_nil, List.getElem?_cons_zero, List.getElem?_cons_succ, Out.bind_ok, gZip_tup, ofOpt_some, dZip_map]
  have h1 : okLen ((List.zip a b).map fun p => D.tup [.int p.1, .int p.2]).length = true := ok_le (by simp; omega)
  rw [if_pos h1, compF_all _ (fun p => D.int ((p.1 + t * p.2) % f)) _ fun p hp => ⟨_, rfl, ?_⟩]
  · rw [pt_enc]; simp
  · have := hb p.2 (List.of_mem_zip hp).2
    simp [this, hf]
theorem times_of_ok {f t : Int} {r : List Int} {S : Store} (hf : 0 < f) (hb : ∀ y ∈ r, okMul t y = true) (hl : r.length ≤ 1000) : q_times_of [.int f, encR r, .int t] S = .ok (encR (tm f r t)) S := by
  unfold q_times_of fs_times_of encR
  simp only [runB_at, sRet_at, fImm_at, fApp_at, fCons_at, fComp_at, fIter_at, fVar_at, fNil_at, List.map_cons, List.map_nil, List.cons_append, List.nil_append, List.length_cons, List.length_nil, List.getElem?_cons_zero, List.getElem?_cons_succ, Out.bind_ok]
  rw [if_pos (ok_le (by simp; omega)), compF_all _ (fun p => D.int ((t * p) % f)) _ fun p hp => ⟨_, rfl, ?_⟩]
  · have : (r.map fun p => D.int (t * p % f)) = (tm f r t).map D.int := by simp [tm]
    rw [this]; simp
  · have := hb p hp
    simp [this, hf]
end CB
set_option Elab.async false
set_option linter.all false
set_option maxRecDepth 100000
namespace CB
open PySem PySem.Spec PyProof.Rows L2
/-! the row's cursor -/
def curD (ns : List Int) (pos rest mixed : Int) : List D := [.fro (ns.map D.int), .int pos, .int rest, .int mixed]
/-- the store but for the row -/
class Base where
  B : Store
def Cur [Base] (p : Addr) (S : Store) : Prop := ∃ (ns : List Int) (pos : Nat) (rest mixed : Int), ns.length ≤ 63 ∧ S = updS Base.B p (.lst (curD ns pos rest mixed))
theorem updS_same {S : Store} {p : Addr} {a : SO} : updS S p a p = some a := by simp [updS]
theorem updS_updS {S : Store} {p : Addr} {a b : SO} : updS (updS S p a) p b = updS S p b := by
  funext x; unfold updS; split <;> rfl
@[simp] theorem fIxSt_at {ρ : En} {S : Store} {fa fb : F D} : fIxSt fa fb ρ S = (fa ρ S).bind fun x S => (fb ρ S).bind fun y S => match x, y with
  | .val (.ref a), .int i => match S a with
    | some (.lst xs) => ofOpt (atI xs i) S
    | _ => .no
  | _, _ => .no := rfl
@[simp] theorem sPutSt_at {ρ : En} {S : Store} {i : Nat} {fk fe : F D} : sPutSt i fk fe ρ S = (fe ρ S).toS fun d S => match ρ[i]? with
  | some (.ro (.val (.ref a))) => (fk ρ S).toS fun k S => match k with
    | .int k => match S a with
      | some (.lst xs) => match ixN xs.length k with
        | some j => if d.imm then .nx ρ (updS S a (.lst (xs.set j d))) else .no
        | none => .no
      | _ => .no
    | _ => .no
  | _ => .no := rfl
@[simp] theorem cur_get [Base] {p : Addr} {x : List D} : updS Base.B p (.lst x) p = some (.lst x) := updS_same
theorem taken_ok [Base] {p : Addr} {S : Store} {m : Int} (h : Cur p S) (h1 : 1 ≤ m) (h2 : m < 1073741824) : ∃ v S', q_law_taken [.val (.ref p), .int m] S = .ok (.int v) S' ∧ Cur p S' ∧ 0 ≤ v ∧ v < m := by
  obtain ⟨ns, pos, rest, mixed, hl, rfl⟩ := h
  have m0 : 0 < m := by omega
  have e1 : ∀ x : Int, okMul x 48271 = true := fun x => okMul_r (by decide)
  have e2 : okPow 10 18 = true := by decide
  have a0 : ∀ {a b c d : D}, atI [a, b, c, d] 0 = some a := rfl
  have a1 : ∀ {a b c d : D}, atI [a, b, c, d] 1 = some b := rfl
  have a2 : ∀ {a b c d : D}, atI [a, b, c, d] 2 = some c := rfl
  have a3 : ∀ {a b c d : D}, atI [a, b, c, d] 3 = some d := rfl
  have i1 : ixN 4 1 = some 1 := rfl
  have i2 : ixN 4 2 = some 2 := rfl
  have i3 : ixN 4 3 = some 3 := rfl
  unfold q_law_taken fs_law_taken
  by_cases hr : 0 < rest
  · refine ⟨rest % m, updS Base.B p (.lst (curD ns pos (rest / m) mixed)), ?_, ⟨ns, pos, rest / m, mixed, hl, rfl⟩, Int.emod_nonneg _ (by omega), Int.emod_lt_of_pos _ m0⟩
    simp [curD, a2, hr, m0, h2, i2, updS_updS]
  · by_cases hp : pos < ns.length
    · have g : atI (ns.map D.int) (pos : Int) = some (.int (ns.getD pos 0)) := atI_enc hp
      have hp' : (pos : Int) < ns.length := by omega
      by_cases hc : (10 : Int) ^ 18 ≤ ns.getD pos 0
      · refine ⟨ns.getD pos 0 % m, updS Base.B p (.lst (curD ns (pos + 1 : Nat) (ns.getD pos 0 / m) mixed)), ?_, ⟨ns, pos + 1, _, mixed, hl, rfl⟩, Int.emod_nonneg _ (by omega), Int.emod_lt_of_pos _ m0⟩
        simp only [List.getD_eq_getElem?_getD] at g hc ⊢
        simp at hc
        simp [curD, a2, a1, a0, hr, m0, h2, i1, i2, updS_updS, hp', g, e2, hc]
      · refine ⟨ns.getD pos 0 % m, updS Base.B p (.lst (curD ns (pos + 1 : Nat) rest mixed)), ?_, ⟨ns, pos + 1, _, mixed, hl, rfl⟩, Int.emod_nonneg _ (by omega), Int.emod_lt_of_pos _ m0⟩
        simp only [List.getD_eq_getElem?_getD] at g hc ⊢
        simp at hc
        have hc' : ¬ 1000000000000000000 ≤ ns[pos]?.getD 0 := by omega
        simp [curD, a2, a1, a0, hr, m0, h2, i1, i2, updS_updS, hp', g, e2, hc']
    · have hp' : ¬ (pos : Int) < ns.length := by omega
      refine ⟨(mixed * 48271 + 12345) % 2147483647 / 1009 % m, updS Base.B p (.lst (curD ns pos rest ((mixed * 48271 + 12345) % 2147483647))), ?_, ⟨ns, pos, rest, _, hl, rfl⟩, Int.emod_nonneg _ (by omega), Int.emod_lt_of_pos _ m0⟩
      simp [curD, a3, a2, a1, a0, hr, m0, h2, i1, i2, i3, updS_updS, hp', e1]
end CB
set_option Elab.async false
set_option linter.all false
set_option maxRecDepth 100000
namespace CB
open PySem PySem.Spec PyProof.Rows L2
/-! rows added -/
def zer (n : Nat) : List Int := List.replicate n 0
theorem em1 (x y f : Int) : (x % f + y) % f = (x + y) % f := Int.emod_add_emod ..
theorem em2 (x t y f : Int) : (x + t * (y % f)) % f = (x + t * y) % f := by
  rw [Int.add_emod x (t * (y % f)), Int.mul_emod t (y % f), Int.emod_emod, ← Int.mul_emod, ← Int.add_emod]
theorem em3 (x t y f : Int) : (x + (t % f) * y) % f = (x + t * y) % f := by
  rw [Int.add_emod x ((t % f) * y), Int.mul_emod (t % f) y, Int.emod_emod, ← Int.mul_emod, ← Int.add_emod]
section
variable {f : Int} {n : Nat} {a b c r w v : List Int} {s t : Int}
theorem pt_len (ha : a.length = n) (hb : b.length = n) : (pt f a b t).length = n := by simp [pt, ha, hb]
theorem pt_get {i : Nat} (ha : i < a.length) (hb : i < b.length) : (pt f a b t)[i]'(by simp [pt]; omega) = (a[i] + t * b[i]) % f := by simp [pt]
theorem RowOk.zer (hf : 0 < f) : RowOk f n (zer n) := ⟨by simp [CB.zer], fun x hx => by
  have := List.eq_of_mem_replicate hx
  omega⟩
theorem RowOk.pt (hf : 0 < f) (ha : a.length = n) (hb : b.length = n) : RowOk f n (pt f a b t) := ⟨pt_len ha hb, fun x hx => by
  obtain ⟨i, hi, rfl⟩ := List.getElem_of_mem hx
  have h1 : i < n := by rw [pt_len ha hb] at hi; exact hi
  rw [pt_get (by omega) (by omega)]
  exact ⟨Int.emod_nonneg _ (by omega), Int.emod_lt_of_pos _ hf⟩⟩
theorem RowOk.get (h : RowOk f n a) {i : Nat} (hi : i < a.length) : a[i] % f = a[i] := by
  have := h.dig a[i] (List.getElem_mem hi)
  exact Int.emod_eq_of_lt this.1 this.2
theorem row_ext (ha : a.length = n) (hb : b.length = n) (h : ∀ (i : Nat) (h1 : i < a.length) (h2 : i < b.length), a[i] = b[i]) : a = b := List.ext_getElem (by omega) fun i h1 h2 => h i h1 h2
theorem pt_zer (ha : RowOk f n a) : pt f a (zer n) t = a := by
  refine row_ext (n := n) (pt_len ha.len (by simp [zer])) ha.len fun i h1 h2 => ?_
  rw [pt_get h2 (by simp [zer]; have := ha.len; omega)]
  simp [zer, ha.get h2]
theorem pt_nul (ha : RowOk f n a) (hb : b.length = n) : pt f a b 0 = a := by
  refine row_ext (n := n) (pt_len ha.len hb) ha.len fun i h1 h2 => ?_
  rw [pt_get h2 (by have := ha.len; omega)]
  simp [ha.get h2]
theorem pt_comm (ha : a.length = n) (hb : b.length = n) (hc : c.length = n) : pt f (pt f a b s) c t = pt f (pt f a c t) b s := by
  refine row_ext (n := n) (pt_len (pt_len ha hb) hc) (pt_len (pt_len ha hc) hb) fun i h1 h2 => ?_
  have hi : i < n := by rw [pt_len (pt_len ha hb) hc] at h1; exact h1
  simp only [pt, List.getElem_zipWith, em1]
  congr 1; omega
theorem pt_pt (hw : w.length = n) (hv : v.length = n) (hr : r.length = n) : pt f w (pt f v r s) t = pt f (pt f w v t) r (t * s) := by
  refine row_ext (n := n) (pt_len hw (pt_len hv hr)) (pt_len (pt_len hw hv) hr) fun i h1 h2 => ?_
  have hi : i < n := by rw [pt_len hw (pt_len hv hr)] at h1; exact h1
  simp only [pt, List.getElem_zipWith, em1, em2]
  congr 1
  rw [Int.mul_add, Int.mul_assoc, Int.add_assoc]
theorem pt_mod (ha : a.length = n) (hb : b.length = n) : pt f a b (t % f) = pt f a b t := by
  refine row_ext (n := n) (pt_len ha hb) (pt_len ha hb) fun i h1 h2 => ?_
  have hi : i < n := by rw [pt_len ha hb] at h1; exact h1
  simp only [pt, List.getElem_zipWith, em3]
theorem pt_add (ha : a.length = n) (hb : b.length = n) : pt f (pt f a b s) b t = pt f a b (s + t) := by
  refine row_ext (n := n) (pt_len (pt_len ha hb) hb) (pt_len ha hb) fun i h1 h2 => ?_
  have hi : i < n := by rw [pt_len ha hb] at h2; exact h2
  simp only [pt, List.getElem_zipWith, em1]
  congr 1
  rw [Int.add_mul, Int.add_assoc]
theorem tm_pt (hr : r.length = n) : tm f r t = pt f (zer n) r t := by
  refine row_ext (n := n) (by simp [tm, hr]) (pt_len (by simp [zer]) hr) fun i h1 h2 => ?_
  have hi : i < n := by simp [tm] at h1; omega
  rw [pt_get (by simp [zer]; omega) (by omega)]
  simp [tm, zer]
end
/-! what rows span -/
def rg (f : Int) : List Int := (List.range f.toNat).map fun (i : Nat) => (i : Int)
theorem snoc_rec {α : Type} {P : List α → Prop} (h0 : P []) (h1 : ∀ rs r, P rs → P (rs ++ [r])) (l : List α) : P l := by
  rw [← List.reverse_reverse l]
  induction l.reverse with
  | nil => exact h0
  | cons x xs ih => rw [List.reverse_cons]; exact h1 _ _ ih
theorem rg_mem {f t : Int} : t ∈ rg f ↔ 0 ≤ t ∧ t < f := by
  simp only [rg, List.mem_map, List.mem_range]
  constructor
  · rintro ⟨i, h, rfl⟩; omega
  · rintro ⟨h1, h2⟩; exact ⟨t.toNat, by omega, by omega⟩
def spanStep (f : Int) (found : List (List Int)) (r : List Int) : List (List Int) := (rg f).flatMap fun t => found.map fun o => pt f o r t
def spanL (f : Int) (n : Nat) (rows : List (List Int)) : List (List Int) := rows.foldl (spanStep f) [zer n]
def allR (f : Int) : Nat → List (List Int)
  | 0 => [[]]
  | k + 1 => (allR f k).flatMap fun row => (rg f).map fun d => row ++ [d]
def made (f : Int) (n : Nat) (rows : List (List Int)) (m : List Int) : List Int := (List.zip m rows).foldl (fun acc p => pt f acc p.2 p.1) (zer n)
theorem allR_len {f : Int} : ∀ {k : Nat} {m : List Int}, m ∈ allR f k → m.length = k
  | 0, m, h => by simp [allR] at h; simp [h]
  | k + 1, m, h => by
    simp only [allR, List.mem_flatMap, List.mem_map] at h
    obtain ⟨row, h1, d, _, rfl⟩ := h
    simp [allR_len h1]
theorem swap_perm {α β γ : Type} (g : α → β → γ) : ∀ (xs : List α) (ys : List β), (xs.flatMap fun x => ys.map (g x)).Perm (ys.flatMap fun y => xs.map fun x => g x y)
  | [], ys => by simp
  | x :: xs, ys => by
    have ih := swap_perm g xs ys
    refine List.Perm.trans (List.Perm.append_left _ ih) ?_
    clear ih
    induction ys with
    | nil => simp
    | cons y ys ih =>
      simp only [List.map_cons, List.flatMap_cons, List.cons_append]
      refine List.Perm.cons _ ?_
      refine List.Perm.trans ?_ (List.Perm.append_left _ ih)
      rw [← List.append_assoc, ← List.append_assoc]
      exact List.Perm.append_right _ List.perm_append_comm
theorem flatMap_congr' {α β : Type} {g h : α → List β} : ∀ {l : List α}, (∀ x ∈ l, g x = h x) → l.flatMap g = l.flatMap h
  | [], _ => rfl
  | x :: l, e => by
    rw [List.flatMap_cons, List.flatMap_cons, e x (by simp), flatMap_congr' fun y hy => e y (by simp [hy])]
theorem span_words (f : Int) (n : Nat) (rows : List (List Int)) : (spanL f n rows).Perm ((allR f rows.length).map (made f n rows)) := by
  refine snoc_rec (P := fun rows => (spanL f n rows).Perm ((allR f rows.length).map (made f n rows))) ?_ ?_ rows
  · simp [spanL, allR, made]
  · intro rs r ih
    have e : (allR f (rs ++ [r]).length).map (made f n (rs ++ [r])) = ((allR f rs.length).map (made f n rs)).flatMap fun o => (rg f).map fun t => pt f o r t := by
      simp only [List.length_append, List.length_cons, List.length_nil, Nat.zero_add, allR, List.map_flatMap, List.flatMap_map, List.map_map]
      refine flatMap_congr' fun m hm => List.map_congr_left fun d hd => ?_
      simp only [Function.comp, made]
      rw [List.zip_append (by simp [allR_len hm]), List.foldl_append]
      rfl
    rw [e]
    show (List.foldl (spanStep f) [zer n] (rs ++ [r])).Perm _
    rw [List.foldl_append]
    show (spanStep f (spanL f n rs) r).Perm _
    unfold spanStep
    exact (swap_perm (fun t o => pt f o r t) (rg f) (spanL f n rs)).trans (List.Perm.flatMap_right _ ih)
end CB
set_option Elab.async false
set_option linter.all false
set_option maxRecDepth 100000
namespace CB
open PySem PySem.Spec PyProof.Rows L2
theorem ex_map {α : Type} {enc : α → D} {R : α → Prop} : ∀ ys : List D, (∀ y ∈ ys, ∃ v, y = enc v ∧ R v) → ∃ r : List α, ys = r.map enc ∧ ∀ x ∈ r, R x
  | [], _ => ⟨[], rfl, by simp⟩
  | y :: ys, h => by
    obtain ⟨v, h1, h2⟩ := h y (by simp)
    obtain ⟨r, h3, h4⟩ := ex_map ys fun z hz => h z (by simp [hz])
    exact ⟨v :: r, by simp [h1, h3], by simp [h2]; exact h4⟩
theorem okR_small {n : Int} (h : 0 ≤ n) (h2 : n ≤ 1000000) : okR n = true := Nat.ble_eq_true_of_le (by omega)
@[simp] theorem gRange1_at {n : Int} : gRange1 [.int n] = if okR n then some (dRange 0 n.toNat) else none := rfl
@[simp] theorem gRange2_at {a b : Int} : gRange2 [.int a, .int b] = if okR a && okR b then some (dRange a (b - a).toNat) else none := rfl
theorem rg_enc (f : Int) : dRange 0 f.toNat = (rg f).map D.int := by
  rw [dRange_zero, rg, List.map_map]; rfl
theorem digits_ok [Base] {p : Addr} {S : Store} {f : Int} {n : Nat} (h : Cur p S) (h1 : 1 ≤ f) (h2 : f < 1000) (hn : n ≤ 1000) : ∃ r S', q_law_digits [.val (.ref p), .int f, .int (n : Int)] S = .ok (encR r) S' ∧ Cur p S' ∧ RowOk f n r := by
  obtain ⟨ys, S', e, c, hl, hy⟩ := compF_rel (b := bName 3) (elt := fCall (fun ds S => noEx (q_law_taken ds S)) (fCons (fVar 0) (fCons (fVar 1) fNil))) (ρ := [.ro (.val (.ref p)), .ro (.int f), .ro (.int (n : Int)), .no])
    (fun (i : Nat) => D.int (i : Int)) (Cur p) (fun y => ∃ v : Int, y = .int v ∧ 0 ≤ v ∧ v < f) (List.range n) S h fun x hx S hS => by
    obtain ⟨v, S2, e, c, b⟩ := taken_ok hS h1 (by omega)
    exact ⟨_, .int v, S2, rfl, by simp [e], c, v, rfl, b⟩
  obtain ⟨r, rfl, hr⟩ := ex_map ys hy
  refine ⟨r, S', ?_, c, by simpa using hl, hr⟩
  unfold q_law_digits fs_law_digits
  have hl : okLen n = true := ok_le (by omega)
  simp [okR_small (n := (n : Int)) (by omega) (by omega), dRange_zero, e, hl, encR]
theorem encR_def (r : List Int) : D.tup (r.map D.int) = encR r := rfl
theorem flat_one (n : Nat) : (List.replicate n [D.int 0]).flatten = (zer n).map D.int := by
  induction n with
  | zero => rfl
  | succ n ih => simp [List.replicate_succ, zer] at ih ⊢
theorem gRepA_zero {n : Nat} (h : n ≤ 1000) : gRepA (.tup [.int 0]) (.int (n : Int)) = some (encR (zer n)) := by
  have e : (!([D.int 0] : List D).isEmpty && decide (-(2 ^ 63) ≤ (n : Int)) && decide ((n : Int) ≤ 1000) && decide (([D.int 0] : List D).length ≤ 1000)) = true := by
    simp; omega
  show (if _ then some _ else none) = _
  rw [if_pos e]
  simp [encR, zer]
theorem spanStep_len {f : Int} {found : List (List Int)} {r : List Int} : (spanStep f found r).length = f.toNat * found.length := by
  unfold spanStep
  have : ∀ l : List Int, (l.flatMap fun t => found.map fun o => pt f o r t).length = l.length * found.length := fun l => by
    induction l with
    | nil => simp
    | cons x l ih => simp [ih, Nat.add_mul]; omega
  rw [this]; simp [rg]
theorem spanL_len (f : Int) (n : Nat) (rows : List (List Int)) : (spanL f n rows).length = f.toNat ^ rows.length := by
  refine snoc_rec (P := fun rows => (spanL f n rows).length = f.toNat ^ rows.length) (by simp [spanL]) (fun rs r ih => ?_) rows
  show (List.foldl (spanStep f) [zer n] (rs ++ [r])).length = _
  rw [List.foldl_append]
  show (spanStep f (spanL f n rs) r).length = _
  rw [spanStep_len, ih, List.length_append]
  simp [Nat.pow_succ, Nat.mul_comm]
theorem spanL_rows {f : Int} {n : Nat} (hf : 0 < f) (rows : List (List Int)) (h : ∀ r ∈ rows, r.length = n) : ∀ w ∈ spanL f n rows, RowOk f n w := by
  revert h
  refine snoc_rec (P := fun rows => (∀ r ∈ rows, r.length = n) → ∀ w ∈ spanL f n rows, RowOk f n w) (by intro _ w hw; simp [spanL] at hw; rw [hw]; exact .zer hf) (fun rs r ih h w hw => ?_) rows
  have hw : w ∈ spanStep f (spanL f n rs) r := by
    have e : spanL f n (rs ++ [r]) = spanStep f (spanL f n rs) r := by unfold spanL; rw [List.foldl_append]; rfl
    rwa [e] at hw
  simp only [spanStep, List.mem_flatMap, List.mem_map] at hw
  obtain ⟨t, _, o, ho, rfl⟩ := hw
  exact .pt hf (ih (fun x hx => h x (by simp [hx])) o ho).len (h r (by simp))
theorem okMul_row {f t : Int} {n : Nat} {r : List Int} (h : RowOk f n r) (hf : f ≤ 1000) : ∀ y ∈ r, okMul t y = true := fun y hy => okMul_r (by
  have := h.dig y hy
  omega)
/-- rows in a list or tuple -/
def Rows (X : D) (rows : List (List Int)) : Prop := X = .lst (rows.map encR) ∨ X = .tup (rows.map encR)
theorem pows {f : Int} (h3 : f ≤ 3) {k : Nat} (hk : k ≤ 10) : f.toNat ^ k ≤ 59049 :=
  Nat.le_trans (Nat.pow_le_pow_left (by omega : f.toNat ≤ 3) k) (Nat.le_trans (Nat.pow_le_pow_right (by omega) hk) (by decide))
theorem span_one {f t : Int} {n : Nat} {X : D} {found acc : List (List Int)} {one : List Int} {S : Store} (h2 : 2 ≤ f) (h3 : f ≤ 3) (hn : n ≤ 1000) (hf : ∀ o ∈ found, RowOk f n o) (ho : RowOk f n one) (hl : acc.length + found.length ≤ 1000000) :
    fb_law_span_1 [.ro (.int f), .ro (.int (n : Int)), .ro X, .own (.lst (found.map encR)), .ro (encR one), .own (.lst (acc.map encR)), .ro (.int t), .no, .no, .no] S =
      .nx [.ro (.int f), .ro (.int (n : Int)), .ro X, .own (.lst (found.map encR)), .ro (encR one), .own (.lst ((acc ++ found.map fun o => pt f o one t).map encR)), .ro (.int t), .no, .no, .no] S := by
  have f0 : 0 < f := by omega
  have hc : compF (bName 7) fYes (fImm (fApp gTuple (fCons (fComp (fAppL gZip (fCons (fVar 7) (fCons (fVar 4) fNil))) (bTup2 (bName 8) (bName 9)) fYes (fBin gMod (fBin gAdd (fVar 8) (fBin gMulI (fVar 6) (fVar 9))) (fVar 0)) [8, 9]) fNil))) [.ro (.int f), .ro (.int (n : Int)), .ro X, .own (.lst (found.map encR)), .ro (encR one), .own (.lst (acc.map encR)), .ro (.int t), .no, .no, .no] (found.map encR) S = .ok ((found.map fun o => pt f o one t).map encR) S := by
    rw [compF_all encR (fun o => encR (pt f o one t)) found fun o hoo => ⟨_, rfl, ?_⟩]
    · simp
    · have hz := compF_all (b := bTup2 (bName 8) (bName 9)) (elt := fBin gMod (fBin gAdd (fVar 8) (fBin gMulI (fVar 6) (fVar 9))) (fVar 0)) (ρ := [.ro (.int f), .ro (.int (n : Int)), .ro X, .own (.lst (found.map encR)), .ro (encR one), .own (.lst (acc.map encR)), .ro (.int t), .ro (encR o), .no, .no]) (S := S)
        (fun p : Int × Int => D.tup [.int p.1, .int p.2]) (fun p => D.int ((p.1 + t * p.2) % f)) (List.zip o one) fun p hp => ⟨_, rfl, by
          have := okMul_row (t := t) ho (by omega) p.2 (List.of_mem_zip hp).2
          simp [this, f0]⟩
      have hlz : okLen (min o.length one.length) = true := ok_le (by
        have := (hf o hoo).len
        omega)
      have hg : gZip [encR o, encR one] = some ((List.zip o one).map fun p : Int × Int => D.tup [.int p.1, .int p.2]) := by unfold encR; rw [gZip_tup, dZip_map]
      rw [pt_enc] at hz
      simp [hg, hz, hlz, encR_def]
  unfold fb_law_span_1
  have l1 : okLen found.length = true := ok_le (by omega)
  have l2 : okLen (acc.length + found.length) = true := ok_le (by omega)
  simp only [List.map_append] at hc ⊢
  simp [hc, l1, l2, ← List.map_map]
theorem span_step {f : Int} {n : Nat} {X : D} {found : List (List Int)} {one : List Int} {S : Store} {x5 x6 : Sl} (h2 : 2 ≤ f) (h3 : f ≤ 3) (hn : n ≤ 1000) (hf : ∀ o ∈ found, RowOk f n o) (ho : RowOk f n one) (hl : found.length ≤ 60000) :
    ∃ x6', fb_law_span_2 [.ro (.int f), .ro (.int (n : Int)), .ro X, .own (.lst (found.map encR)), .ro (encR one), x5, x6, .no, .no, .no] S =
      .nx [.ro (.int f), .ro (.int (n : Int)), .ro X, .own (.lst ((spanStep f found one).map encR)), .ro (encR one), .no, x6', .no, .no, .no] S := by
  obtain ⟨ρ', S', e, rfl, x, rfl⟩ := loopS_all (b := bName 6) (body := fb_law_span_1) D.int (fun pre ρ S' => S' = S ∧ ∃ x, ρ = [.ro (.int f), .ro (.int (n : Int)), .ro X, .own (.lst (found.map encR)), .ro (encR one), .own (.lst ((pre.flatMap fun t => found.map fun o => pt f o one t).map encR)), x, .no, .no, .no]) (rg f) [.ro (.int f), .ro (.int (n : Int)), .ro X, .own (.lst (found.map encR)), .ro (encR one), .own (.lst []), x6, .no, .no, .no] S ⟨rfl, x6, by simp⟩ fun pre t post ρ S' hs ⟨e1, x, e2⟩ => by
    subst e1 e2
    refine ⟨_, _, _, rfl, span_one h2 h3 hn hf ho ?_, rfl, .ro (.int t), by simp⟩
    have e : (rg f).length = f.toNat := by simp [rg]
    rw [hs] at e
    simp at e
    have e3 : ∀ l : List Int, (l.flatMap fun t => found.map fun o => pt f o one t).length = l.length * found.length := fun l => by
      induction l with
      | nil => simp
      | cons x l ih => simp [ih, Nat.add_mul]; omega
    rw [e3]
    have : pre.length * found.length ≤ 3 * found.length := Nat.mul_le_mul_right _ (by omega)
    omega
  refine ⟨x, ?_⟩
  unfold fb_law_span_2
  simp [okR_small (n := f) (by omega) (by omega), rg_enc, e, spanStep]
theorem span_ok {f : Int} {n : Nat} {X : D} {rows : List (List Int)} {S : Store} (h2 : 2 ≤ f) (h3 : f ≤ 3) (hn : n ≤ 1000) (hX : Rows X rows) (hr : ∀ r ∈ rows, RowOk f n r) (hk : rows.length ≤ 10) : q_law_span [.int f, .int (n : Int), X] S = .ok (.lst ((spanL f n rows).map encR)) S := by
  obtain ⟨ρ', S', e, rfl, x4, x5, x6, rfl⟩ := loopS_all (b := bName 4) (body := fb_law_span_2) encR (fun pre ρ S' => S' = S ∧ ∃ x4 x5 x6, ρ = [.ro (.int f), .ro (.int (n : Int)), .ro X, .own (.lst ((spanL f n pre).map encR)), x4, x5, x6, .no, .no, .no]) rows [.ro (.int f), .ro (.int (n : Int)), .ro X, .own (.lst [encR (zer n)]), .no, .no, .no, .no, .no, .no] S ⟨rfl, .no, .no, .no, by simp [spanL]⟩ fun pre x post ρ S' hs ⟨e1, x4, x5, x6, e2⟩ => by
    subst e1 e2
    have hp : ∀ r ∈ pre, RowOk f n r := fun r h => hr r (by rw [hs]; simp [h])
    obtain ⟨y6, e⟩ := span_step (f := f) (n := n) (X := X) (found := spanL f n pre) (one := x) (S := S') (x5 := x5) (x6 := x6) h2 h3 hn (spanL_rows (by omega) pre fun r h => (hp r h).len) (hr x (by rw [hs]; simp)) (by
      rw [spanL_len]
      have : pre.length ≤ 10 := by rw [hs] at hk; simp at hk; omega
      have := pows h3 this
      omega)
    refine ⟨_, _, _, rfl, e, rfl, .ro (encR x), .no, y6, ?_⟩
    have e : spanL f n (pre ++ [x]) = spanStep f (spanL f n pre) x := by unfold spanL; rw [List.foldl_append]; rfl
    rw [e]
  unfold q_law_span fs_law_span
  rcases hX with rfl | rfl <;> simp [gRepA_zero hn, e]
end CB
set_option Elab.async false
set_option linter.all false
set_option maxRecDepth 100000
namespace CB
open PySem PySem.Spec PyProof.Rows L2
@[simp] theorem fComp2_at {ρ : En} {S : Store} {it it1 : F (List D)} {b b1 : Bd} {c c1 : F Bool} {f : F D} {vs vs1 : List Nat} : fComp2 it b c it1 b1 c1 f vs vs1 ρ S = (it ρ S).bind fun ds S => (compF2 b c it1 b1 c1 f vs1 (wipeE ρ vs) ds S).bindN fun ys S => if okLen ys.length then .ok (.lst ys) S else .no := rfl
theorem compF2_all {α β : Type} {b b1 : Bd} {it1 : F (List D)} {elt : F D} {vs1 : List Nat} {ρ : En} {S : Store} (enc : α → D) (enc1 : β → D) (ys : α → List β) (g : α → β → D) : ∀ xs : List α,
    (∀ x ∈ xs, ∃ ρ1, b (enc x) ρ = some ρ1 ∧ it1 ρ1 S = .ok ((ys x).map enc1) S ∧ ∀ y ∈ ys x, ∃ ρ2, b1 (enc1 y) (wipeE ρ1 vs1) = some ρ2 ∧ elt ρ2 S = .ok (g x y) S) → compF2 b fYes it1 b1 fYes elt vs1 ρ (xs.map enc) S = .ok (xs.flatMap fun x => (ys x).map (g x)) S
  | [], _ => rfl
  | x :: xs, h => by
    obtain ⟨ρ1, h1, h2, h3⟩ := h x (by simp)
    have ih := compF2_all enc enc1 ys g xs fun y hy => h y (by simp [hy])
    have hc := compF_all (b := b1) (elt := elt) (ρ := wipeE ρ1 vs1) (S := S) enc1 (g x) (ys x) h3
    simp [compF2, h1, h2, hc, ih]
theorem allR_length (f : Int) : ∀ k, (allR f k).length = f.toNat ^ k
  | 0 => by simp [allR]
  | k + 1 => by
    have : ∀ l : List (List Int), (l.flatMap fun row => (rg f).map fun d => row ++ [d]).length = l.length * f.toNat := fun l => by
      induction l with
      | nil => simp
      | cons x l ih => rw [List.flatMap_cons, List.length_append, ih, List.length_cons, Nat.add_mul]; simp [rg]; omega
    rw [allR, this, allR_length f k, Nat.pow_succ]
theorem all_rows_ok {f : Int} {k : Nat} {S : Store} (h2 : 2 ≤ f) (h3 : f ≤ 3) (hk : k ≤ 10) : q_all_rows [.int f, .int (k : Int)] S = .ok (.lst ((allR f k).map encR)) S := by
  obtain ⟨ρ', S', e, rfl, x, rfl⟩ := loopS_all (b := bName 3) (body := fb_all_rows_1) (fun (i : Nat) => D.int (i : Int)) (fun pre ρ S' => S' = S ∧ ∃ x, ρ = [.ro (.int f), .ro (.int (k : Int)), .own (.lst ((allR f pre.length).map encR)), x, .no, .no]) (List.range k) [.ro (.int f), .ro (.int (k : Int)), .own (.lst [.tup []]), .no, .no, .no] S ⟨rfl, .no, by simp [allR, encR]⟩ fun pre i post ρ S' hs ⟨e1, x, e2⟩ => by
    subst e1 e2
    have hp : pre.length < k := by
      have := congrArg List.length hs
      simp at this; omega
    have hc := compF2_all (b := bName 4) (b1 := bName 5) (it1 := fAppL gRange1 (fCons (fVar 0) fNil)) (elt := fImm1 (fBin gAdd (fVar 4) (fTup (fCons (fVar 5) fNil)))) (vs1 := [5]) (ρ := [.ro (.int f), .ro (.int (k : Int)), .own (.lst ((allR f pre.length).map encR)), .ro (.int (i : Int)), .no, .no]) (S := S')
      encR D.int (fun _ => rg f) (fun row d => encR (row ++ [d])) (allR f pre.length) fun row hrow => ⟨_, rfl, by simp [okR_small (n := f) (by omega) (by omega), rg_enc], fun d hd => ⟨_, rfl, by
        have hl : okLen (row.length + 1) = true := ok_le (by rw [allR_len hrow]; omega)
        simp [encR, hl]⟩⟩
    refine ⟨_, _, _, rfl, ?_, rfl, .ro (.int (i : Int)), rfl⟩
    unfold fb_all_rows_1
    have e : ((allR f pre.length).flatMap fun x => (rg f).map fun d => encR (x ++ [d])) = (allR f (pre ++ [i]).length).map encR := by
      simp [allR, List.map_flatMap, Function.comp_def]
    rw [e] at hc
    have hl : okLen (allR f (pre ++ [i]).length).length = true := ok_le (by
      rw [allR_length]
      have := pows h3 (k := (pre ++ [i]).length) (by simp; omega)
      omega)
    simp only [sSetO_at, fComp2_at, fOwnL_at, List.getElem?_cons_succ, List.getElem?_cons_zero, Out.bind_ok, wipeE_cons, wipeE_nil, List.set_cons_succ, List.set_cons_zero, hc, Out.bindN_ok, List.length_map, hl, if_true, Out.toS_ok, isC_lst, topImm_lst, immL_encs, Bool.and_self]
  unfold q_all_rows fs_all_rows
  simp [okR_small (n := (k : Int)) (by omega) (by omega), dRange_zero, e]
@[simp] theorem topImm_enc {r : List Int} : topImm (encR r) = true := by simp [encR]
def codeD (f : Int) (n : Nat) (rows : List (List Int)) : D := .tup [.int f, .int (n : Int), .tup (rows.map encR)]
theorem at0 {a b c : D} : atI [a, b, c] 0 = some a := rfl
theorem at1 {a b c : D} : atI [a, b, c] 1 = some b := rfl
theorem at2 {a b c : D} : atI [a, b, c] 2 = some c := rfl
theorem made_by_ok {f : Int} {n : Nat} {rows : List (List Int)} {m : List Int} {S : Store} (h2 : 2 ≤ f) (h3 : f ≤ 3) (hn : n ≤ 1000) (hr : ∀ r ∈ rows, RowOk f n r) : q_made_by [codeD f n rows, encR m] S = .ok (encR (made f n rows m)) S := by
  obtain ⟨ρ', S', e, rfl, x, y, rfl⟩ := loopS_all (b := bTup2 (bName 3) (bName 4)) (body := fb_made_by_1) (fun p : Int × List Int => D.tup [.int p.1, encR p.2]) (fun pre ρ S' => S' = S ∧ ∃ x y, ρ = [.ro (codeD f n rows), .ro (encR m), .ro (encR (pre.foldl (fun acc p => pt f acc p.2 p.1) (zer n))), x, y]) (List.zip m rows) [.ro (codeD f n rows), .ro (encR m), .ro (encR (zer n)), .no, .no] S ⟨rfl, .no, .no, rfl⟩ fun pre p post ρ S' hs ⟨e1, x, y, e2⟩ => by
    subst e1 e2
    have hp : ∀ q ∈ pre ++ p :: post, RowOk f n q.2 := fun q hq => by
      rw [← hs] at hq
      exact hr _ (List.of_mem_zip hq).2
    have ha : ∀ l : List (Int × List Int), (∀ q ∈ l, RowOk f n q.2) → (l.foldl (fun acc p => pt f acc p.2 p.1) (zer n)).length = n := fun l => snoc_rec (P := fun l : List (Int × List Int) => (∀ q ∈ l, RowOk f n q.2) → (l.foldl (fun acc p => pt f acc p.2 p.1) (zer n)).length = n) (by simp [zer]) (fun rs r ih h => by
      rw [List.foldl_append]
      exact pt_len (ih fun q hq => h q (by simp [hq])) (h r (by simp)).len) l
    have hl := ha pre fun q hq => hp q (by simp [hq])
    have hpt := plus_times_ok (f := f) (t := p.1) (a := pre.foldl (fun acc p => pt f acc p.2 p.1) (zer n)) (b := p.2) (S := S') (by omega) (okMul_row (hp p (by simp)) (by omega)) (by omega)
    refine ⟨_, _, _, rfl, ?_, rfl, .ro (.int p.1), .ro (encR p.2), rfl⟩
    unfold fb_made_by_1
    simp [codeD, at0, hpt]
  have hz : gZip [encR m, .tup (rows.map encR)] = some ((List.zip m rows).map fun p : Int × List Int => D.tup [.int p.1, encR p.2]) := by unfold encR; rw [gZip_tup, dZip_map]
  unfold q_made_by fs_made_by
  simp only [codeD] at e ⊢
  simp [at0, at1, at2, gRepA_zero hn, hz, e]
  rfl
end CB
set_option Elab.async false
set_option linter.all false
set_option maxRecDepth 100000
namespace CB
open PySem PySem.Spec PyProof.Rows L2
/-! spans and steps, in plain mathematics -/
def gd (r : List Int) (j : Nat) : Int := r.getD j 0
inductive Sp (f : Int) (n : Nat) (rows : List (List Int)) : List Int → Prop
  | zero : Sp f n rows (zer n)
  | add {w r : List Int} (t : Int) : Sp f n rows w → r ∈ rows → Sp f n rows (pt f w r t)
section
variable {f : Int} {n : Nat} {rows rows' : List (List Int)} {w v r a b : List Int} {t : Int}
def AllOk (f : Int) (n : Nat) (rows : List (List Int)) : Prop := ∀ r ∈ rows, RowOk f n r
theorem gd_pt {j : Nat} (hj : j < n) (ha : a.length = n) (hb : b.length = n) : gd (pt f a b t) j = (gd a j + t * gd b j) % f := by
  unfold gd pt
  rw [List.getD_eq_getElem?_getD, List.getD_eq_getElem?_getD, List.getD_eq_getElem?_getD, List.getElem?_eq_getElem (by simp; omega), List.getElem?_eq_getElem (by omega), List.getElem?_eq_getElem (by omega)]
  simp
theorem gd_zer {j : Nat} : gd (zer n) j = 0 := by
  unfold gd zer
  rw [List.getD_eq_getElem?_getD, List.getElem?_replicate]
  split <;> rfl
theorem gd_ext (ha : a.length = n) (hb : b.length = n) (h : ∀ j < n, gd a j = gd b j) : a = b := row_ext ha hb fun i h1 h2 => by
  have := h i (by omega)
  unfold gd at this
  rw [List.getD_eq_getElem?_getD, List.getD_eq_getElem?_getD, List.getElem?_eq_getElem h1, List.getElem?_eq_getElem h2] at this
  exact this
theorem RowOk.gd (h : RowOk f n r) (hf : 0 < f) (j : Nat) : 0 ≤ gd r j ∧ gd r j < f := by
  unfold CB.gd
  rw [List.getD_eq_getElem?_getD]
  by_cases hj : j < r.length
  · rw [List.getElem?_eq_getElem hj]; exact h.dig _ (List.getElem_mem hj)
  · rw [List.getElem?_eq_none (by omega)]; exact ⟨Int.le_refl 0, hf⟩
theorem RowOk.gdm (h : RowOk f n r) (hf : 0 < f) (j : Nat) : CB.gd r j % f = CB.gd r j := Int.emod_eq_of_lt (h.gd hf j).1 (h.gd hf j).2
theorem Sp.ok (hf : 0 < f) (hr : AllOk f n rows) (h : Sp f n rows w) : RowOk f n w := by
  induction h with
  | zero => exact .zer hf
  | add t _ hm ih => exact .pt hf ih.len (hr _ hm).len
theorem Sp.lin (hf : 0 < f) (hr : AllOk f n rows) (hw : Sp f n rows w) (hv : Sp f n rows v) (t : Int) : Sp f n rows (pt f w v t) := by
  induction hv with
  | zero => rw [pt_zer (hw.ok hf hr)]; exact hw
  | @add v r s hv hm ih =>
    rw [pt_pt (hw.ok hf hr).len (hv.ok hf hr).len (hr _ hm).len]
    exact ih.add _ hm
theorem Sp.mem (hf : 0 < f) (hr : AllOk f n rows) (h : r ∈ rows) : Sp f n rows r := by
  have e : r = pt f (zer n) r 1 := by
    refine gd_ext (n := n) (hr r h).len (pt_len (by simp [zer]) (hr r h).len) fun j hj => ?_
    rw [gd_pt hj (by simp [zer]) (hr r h).len, gd_zer]
    simp [(hr r h).gdm hf j]
  rw [e]
  exact Sp.add 1 .zero h
theorem Sp.sub (hf : 0 < f) (hr : AllOk f n rows) (h : ∀ r ∈ rows', Sp f n rows r) (hw : Sp f n rows' w) : Sp f n rows w := by
  induction hw with
  | zero => exact .zero
  | add t _ hm ih => exact ih.lin hf hr (h _ hm) t
theorem Sp.mono (h : ∀ r ∈ rows', r ∈ rows) (hw : Sp f n rows' w) : Sp f n rows w := by
  induction hw with
  | zero => exact .zero
  | add t _ hm ih => exact ih.add t (h _ hm)
/-- the listed span is the span -/
theorem spanL_snoc : spanL f n (rows ++ [r]) = spanStep f (spanL f n rows) r := by unfold spanL; rw [List.foldl_append]; rfl
theorem spanL_sp (rows : List (List Int)) : ∀ w, w ∈ spanL f n rows → Sp f n rows w :=
  snoc_rec (P := fun rows => ∀ w, w ∈ spanL f n rows → Sp f n rows w) (by intro w h; simp [spanL] at h; rw [h]; exact .zero) (fun rs r ih w h => by
    rw [spanL_snoc] at h
    simp only [spanStep, List.mem_flatMap, List.mem_map] at h
    obtain ⟨t, _, o, ho, rfl⟩ := h
    exact Sp.add t ((ih o ho).mono (by simp +contextual)) (by simp)) rows
theorem sp_spanL (hf : 0 < f) (rows : List (List Int)) : AllOk f n rows → ∀ w, Sp f n rows w → w ∈ spanL f n rows := by
  refine snoc_rec (P := fun rows => AllOk f n rows → ∀ w, Sp f n rows w → w ∈ spanL f n rows) ?_ ?_ rows
  · intro _ w h
    cases h with
    | zero => simp [spanL]
    | add t _ hm => simp at hm
  · intro rs r ih hr w h
    have hr' : AllOk f n rs := fun x hx => hr x (by simp [hx])
    have hrl := (hr r (by simp)).len
    rw [spanL_snoc]
    have key : ∀ {w}, w ∈ spanStep f (spanL f n rs) r ↔ ∃ t o, Sp f n rs o ∧ w = pt f o r t := fun {w} => by
      simp only [spanStep, List.mem_flatMap, List.mem_map]
      constructor
      · rintro ⟨t, _, o, ho, rfl⟩
        exact ⟨t, o, spanL_sp rs o ho, rfl⟩
      · rintro ⟨t, o, ho, rfl⟩
        exact ⟨t % f, rg_mem.mpr ⟨Int.emod_nonneg _ (by omega), Int.emod_lt_of_pos _ hf⟩, o, ih hr' o ho, pt_mod (ho.ok hf hr').len hrl⟩
    rw [key]
    induction h with
    | zero => exact ⟨0, zer n, .zero, (pt_nul (.zer hf) hrl).symm⟩
    | @add w x t hw hm ihw =>
      obtain ⟨s, o, ho, rfl⟩ := ihw
      rcases List.mem_append.mp hm with hm | hm
      · exact ⟨s, pt f o x t, ho.add t hm, pt_comm (ho.ok hf hr').len hrl (hr' x hm).len⟩
      · have : x = r := by simpa using hm
        subst this
        exact ⟨s + t, o, ho, pt_add (ho.ok hf hr').len hrl⟩
/-- no row is in the span of those before -/
def Indep (f : Int) (n : Nat) (rows : List (List Int)) : Prop := ∀ (pre : List (List Int)) (r : List Int) (post : List (List Int)), rows = pre ++ r :: post → ¬ Sp f n pre r
theorem inv_f (h2 : 2 ≤ f) (h3 : f ≤ 3) (h : t % f ≠ 0) : (t * t) % f = 1 := by
  have hm := Int.mul_emod t t f
  have h0 := Int.emod_nonneg t (by omega : f ≠ 0)
  have h1 := Int.emod_lt_of_pos t (by omega : 0 < f)
  have : f = 2 ∨ f = 3 := by omega
  rw [hm]
  rcases this with rfl | rfl
  · have : t % 2 = 1 := by omega
    rw [this]; rfl
  · have : t % 3 = 1 ∨ t % 3 = 2 := by omega
    rcases this with e | e <;> rw [e] <;> rfl
theorem pt_inj (hf : 0 < f) (ha : RowOk f n a) (hb : RowOk f n b) (hr : r.length = n) (h : pt f a r t = pt f b r t) : a = b := by
  have e : ∀ x : List Int, RowOk f n x → pt f (pt f x r t) r (0 - t) = x := fun x hx => by
    rw [pt_add hx.len hr, show t + (0 - t) = 0 by omega, pt_nul hx hr]
  rw [← e a ha, h, e b hb]
theorem span_nodup (h2 : 2 ≤ f) (h3 : f ≤ 3) (rows : List (List Int)) : AllOk f n rows → Indep f n rows → (spanL f n rows).Nodup := by
  refine snoc_rec (P := fun rows => AllOk f n rows → Indep f n rows → (spanL f n rows).Nodup) ?_ ?_ rows
  · intro _ _; simp [spanL]
  · intro rs r ih hr hi
    have hf : 0 < f := by omega
    have hr' : AllOk f n rs := fun x hx => hr x (by simp [hx])
    have hrl := (hr r (by simp)).len
    have hi' : Indep f n rs := fun pre x post e => hi pre x (post ++ [r]) (by rw [e]; simp)
    have hn := ih hr' hi'
    have hno : ¬ Sp f n rs r := hi rs r [] (by simp)
    rw [spanL_snoc, spanStep]
    have ok : ∀ o ∈ spanL f n rs, RowOk f n o := fun o ho => (spanL_sp rs o ho).ok hf hr'
    -- two different multiples never meet
    have dif : ∀ s ∈ rg f, ∀ t ∈ rg f, s ≠ t → ∀ o ∈ spanL f n rs, ∀ o' ∈ spanL f n rs, pt f o r s ≠ pt f o' r t := by
      intro s hs t ht hst o ho o' ho' e
      rw [rg_mem] at hs ht
      have hd : (s - t) % f ≠ 0 := by
        have : f = 2 ∨ f = 3 := by omega
        rcases this with rfl | rfl <;> omega
      have e2 : pt f o r (s - t) = o' := by
        have := congrArg (fun x => pt f x r (0 - t)) e
        rw [pt_add (ok o ho).len hrl, pt_add (ok o' ho').len hrl, show t + (0 - t) = 0 by omega, pt_nul (ok o' ho') hrl] at this
        rw [← this]; congr 1; omega
      -- r = (o' - o) (s - t)
      have e3 : pt f (zer n) (pt f o' o (-1)) (s - t) = r := by
        refine gd_ext (n := n) (pt_len (by simp [zer]) (pt_len (ok o' ho').len (ok o ho).len)) hrl fun j hj => ?_
        rw [gd_pt hj (by simp [zer]) (pt_len (ok o' ho').len (ok o ho).len), gd_zer, gd_pt hj (ok o' ho').len (ok o ho).len, ← e2, gd_pt hj (ok o ho).len hrl, em2]
        have hg := (hr r (by simp)).gdm hf j
        have hq := inv_f h2 h3 hd
        have : (0 + (s - t) * ((gd o j + (s - t) * gd r j) % f + -1 * gd o j)) % f = ((s - t) * (s - t) * gd r j) % f := by
          rw [Int.zero_add, Int.mul_emod, em1, ← Int.mul_emod]
          congr 1
          rw [Int.mul_add, Int.mul_add, Int.mul_assoc]
          have : (s - t) * (-1 * gd o j) = - ((s - t) * gd o j) := by rw [show -1 * gd o j = - gd o j by omega, Int.mul_neg]
          rw [this]; omega
        rw [this, Int.mul_emod, hq, Int.one_mul, Int.emod_emod, hg]
      refine hno ?_
      rw [← e3]
      exact Sp.lin hf hr' .zero (Sp.lin hf hr' (spanL_sp rs o' ho') (spanL_sp rs o ho) (-1)) (s - t)
    have inj : ∀ t, ((spanL f n rs).map fun o => pt f o r t).Nodup := fun t => by
      rw [List.nodup_iff_pairwise_ne] at hn ⊢
      rw [List.pairwise_map]
      exact hn.imp_of_mem fun {a b} ha hb ne e => ne (pt_inj hf (ok a ha) (ok b hb) hrl e)
    have hrg : (rg f).Nodup := by
      unfold rg
      rw [List.nodup_iff_pairwise_ne, List.pairwise_map]
      exact (List.nodup_iff_pairwise_ne.mp List.nodup_range).imp fun ne e => ne (by omega)
    clear ih
    revert dif
    generalize rg f = ts at hrg
    intro dif
    induction ts with
    | nil => simp
    | cons x ts ih =>
      rw [List.nodup_cons] at hrg
      rw [List.flatMap_cons, List.nodup_append]
      refine ⟨inj x, ih hrg.2 fun s hs t ht => dif s (by simp [hs]) t (by simp [ht]), ?_⟩
      intro a ha b hb e
      subst e
      simp only [List.mem_map, List.mem_flatMap] at ha hb
      obtain ⟨o, ho, rfl⟩ := ha
      obtain ⟨t, ht, o', ho', e⟩ := hb
      exact dif x (by simp) t (by simp [ht]) (fun z => hrg.1 (by rw [z]; exact ht)) o ho o' ho' e.symm
end
end CB
set_option Elab.async false
set_option linter.all false
set_option maxRecDepth 100000
namespace CB
open PySem PySem.Spec PyProof.Rows L2
/-! steps: a row is taken for each place -/
structure StepSt where
  left : List (List Int)
  found : List (Nat × List Int)
def elim1 (f : Int) (first : List Int) (t : Nat) (r : List Int) : List Int := pt f r first (0 - gd r t)
def stepP (f : Int) (s : StepSt) (t : Nat) : StepSt := match s.left.filter (fun r => gd r t != 0) with
  | [] => s
  | r0 :: _ => ⟨(s.left.erase r0).map (elim1 f (tm f r0 (gd r0 t)) t), s.found.map (fun p => (p.1, elim1 f (tm f r0 (gd r0 t)) t p.2)) ++ [(t, tm f r0 (gd r0 t))]⟩
def stepsP (f : Int) (n : Nat) (rows : List (List Int)) : StepSt := (List.range n).foldl (stepP f) ⟨rows, []⟩
/-- what stands after t places -/
structure StepOk (f : Int) (n : Nat) (rows : List (List Int)) (t : Nat) (s : StepSt) : Prop where
  okL : AllOk f n s.left
  okF : AllOk f n (s.found.map Prod.snd)
  zl : ∀ r ∈ s.left, ∀ j < t, gd r j = 0
  lt : ∀ p ∈ s.found, p.1 < t
  pw : s.found.Pairwise (fun p q => p.1 < q.1)
  one : ∀ p ∈ s.found, gd p.2 p.1 = 1
  zf : ∀ p ∈ s.found, ∀ j < p.1, gd p.2 j = 0
  oth : ∀ p ∈ s.found, ∀ q ∈ s.found, p.1 ≠ q.1 → gd p.2 q.1 = 0
  sp1 : ∀ r ∈ s.found.map Prod.snd ++ s.left, Sp f n rows r
  sp2 : ∀ r ∈ rows, Sp f n (s.found.map Prod.snd ++ s.left) r
  len : s.found.length + s.left.length = rows.length
section
variable {f : Int} {n : Nat} {rows : List (List Int)} {s : StepSt} {t : Nat}
theorem gd_tm {r : List Int} {c : Int} {j : Nat} (hj : j < n) (hr : r.length = n) : gd (tm f r c) j = (c * gd r j) % f := by
  rw [tm_pt hr, gd_pt hj (by simp [zer]) hr, gd_zer, Int.zero_add]
theorem RowOk.tm {r : List Int} {c : Int} (hf : 0 < f) (hr : r.length = n) : RowOk f n (tm f r c) := by
  rw [tm_pt hr]; exact .pt hf (by simp [CB.zer]) hr
theorem step_ok (h2 : 2 ≤ f) (h3 : f ≤ 3) (hr : AllOk f n rows) (ht : t < n) (h : StepOk f n rows t s) : StepOk f n rows (t + 1) (stepP f s t) := by
  have hf : 0 < f := by omega
  unfold stepP
  split
  · rename_i e
    rw [List.filter_eq_nil_iff] at e
    refine ⟨h.okL, h.okF, fun r hr j hj => ?_, fun p hp => Nat.lt_succ_of_lt (h.lt p hp), h.pw, h.one, h.zf, h.oth, h.sp1, h.sp2, h.len⟩
    by_cases ej : j = t
    · subst ej
      have := e r hr
      simpa using this
    · exact h.zl r hr j (by omega)
  · rename_i r0 rs e
    have hm : r0 ∈ s.left ∧ gd r0 t ≠ 0 := by
      have : r0 ∈ s.left.filter (fun r => gd r t != 0) := by rw [e]; simp
      simpa using List.mem_filter.mp this
    obtain ⟨hm, hc⟩ := hm
    have o0 := h.okL r0 hm
    have cc : (gd r0 t * gd r0 t) % f = 1 := inv_f h2 h3 (by rw [o0.gdm hf]; exact hc)
    generalize hF : tm f r0 (gd r0 t) = F
    have oF : RowOk f n F := by rw [← hF]; exact .tm hf o0.len
    have gF : ∀ j < n, gd F j = (gd r0 t * gd r0 j) % f := fun j hj => by rw [← hF]; exact gd_tm hj o0.len
    have F1 : gd F t = 1 := by rw [gF t ht, cc]
    have F0 : ∀ j < t, gd F j = 0 := fun j hj => by rw [gF j (by omega), h.zl r0 hm j hj]; simp
    have ge : ∀ r, RowOk f n r → ∀ j < n, gd (elim1 f F t r) j = (gd r j + (0 - gd r t) * gd F j) % f := fun r hr j hj => gd_pt hj hr.len oF.len
    have oe : ∀ r, RowOk f n r → RowOk f n (elim1 f F t r) := fun r hr => .pt hf hr.len oF.len
    have get : ∀ r, RowOk f n r → gd (elim1 f F t r) t = 0 := fun r hr => by
      rw [ge r hr t ht, F1, show gd r t + (0 - gd r t) * 1 = 0 by omega]; simp
    have gelt : ∀ r, RowOk f n r → ∀ j < t, gd (elim1 f F t r) j = gd r j := fun r hr j hj => by
      rw [ge r hr j (by omega), F0 j hj, Int.mul_zero, Int.add_zero, hr.gdm hf]
    have okE : ∀ r ∈ s.left.erase r0, RowOk f n r := fun r hr => h.okL r (List.mem_of_mem_erase hr)
    have okFf : ∀ p ∈ s.found, RowOk f n p.2 := fun p hp => h.okF _ (List.mem_map.mpr ⟨p, hp, rfl⟩)
    -- the rows of before, each in the span of those after, and the other way
    have okA : AllOk f n (s.found.map Prod.snd ++ s.left) := fun r hr => by
      rcases List.mem_append.mp hr with hr | hr
      · exact h.okF r hr
      · exact h.okL r hr
    have aF : Sp f n (s.found.map Prod.snd ++ s.left) F := by
      rw [← hF, tm_pt o0.len]
      exact Sp.lin hf okA .zero (Sp.mem hf okA (by simp [hm])) _
    have eF : (s.found.map (fun p => (p.1, elim1 f F t p.2)) ++ [(t, F)]).map Prod.snd = (s.found.map fun p => elim1 f F t p.2) ++ [F] := by simp
    refine ⟨?_, ?_, ?_, ?_, ?_, ?_, ?_, ?_, ?_, ?_, ?_⟩
    · intro r hr
      obtain ⟨x, hx, rfl⟩ := List.mem_map.mp hr
      exact oe x (okE x hx)
    · intro r hr
      rw [eF] at hr
      rcases List.mem_append.mp hr with hr | hr
      · obtain ⟨x, hx, rfl⟩ := List.mem_map.mp hr
        exact oe _ (okFf x hx)
      · have : r = F := by simpa using hr
        rw [this]; exact oF
    · intro r hr j hj
      obtain ⟨x, hx, rfl⟩ := List.mem_map.mp hr
      by_cases ej : j = t
      · subst ej; exact get x (okE x hx)
      · rw [gelt x (okE x hx) j (by omega)]
        exact h.zl x (List.mem_of_mem_erase hx) j (by omega)
    · intro p hp
      rcases List.mem_append.mp hp with hp | hp
      · obtain ⟨x, hx, rfl⟩ := List.mem_map.mp hp
        exact Nat.lt_succ_of_lt (h.lt x hx)
      · have : p = (t, F) := by simpa using hp
        rw [this]; exact Nat.lt_succ_self t
    · rw [List.pairwise_append]
      refine ⟨by rw [List.pairwise_map]; exact h.pw, by simp, ?_⟩
      intro p hp q hq
      obtain ⟨x, hx, rfl⟩ := List.mem_map.mp hp
      have : q = (t, F) := by simpa using hq
      rw [this]; exact h.lt x hx
    · intro p hp
      rcases List.mem_append.mp hp with hp | hp
      · obtain ⟨x, hx, rfl⟩ := List.mem_map.mp hp
        show gd (elim1 f F t x.2) x.1 = 1
        rw [gelt _ (okFf x hx) _ (h.lt x hx)]; exact h.one x hx
      · have : p = (t, F) := by simpa using hp
        rw [this]; exact F1
    · intro p hp j hj
      rcases List.mem_append.mp hp with hp | hp
      · obtain ⟨x, hx, rfl⟩ := List.mem_map.mp hp
        have hj : j < x.1 := hj
        have := h.lt x hx
        show gd (elim1 f F t x.2) j = 0
        rw [gelt _ (okFf x hx) _ (by omega)]; exact h.zf x hx j hj
      · have : p = (t, F) := by simpa using hp
        subst this; exact F0 j hj
    · intro p hp q hq ne
      rcases List.mem_append.mp hp with hp | hp
      · obtain ⟨x, hx, rfl⟩ := List.mem_map.mp hp
        rcases List.mem_append.mp hq with hq | hq
        · obtain ⟨y, hy, rfl⟩ := List.mem_map.mp hq
          show gd (elim1 f F t x.2) y.1 = 0
          rw [gelt _ (okFf x hx) _ (h.lt y hy)]; exact h.oth x hx y hy ne
        · have : q = (t, F) := by simpa using hq
          subst this
          exact get _ (okFf x hx)
      · have : p = (t, F) := by simpa using hp
        subst this
        rcases List.mem_append.mp hq with hq | hq
        · obtain ⟨y, hy, rfl⟩ := List.mem_map.mp hq
          exact F0 _ (h.lt y hy)
        · have : q = (t, F) := by simpa using hq
          subst this
          exact absurd rfl ne
    · intro r hr'
      refine Sp.sub hf hr h.sp1 (w := r) ?_
      rw [eF] at hr'
      rcases List.mem_append.mp hr' with hr' | hr'
      · rcases List.mem_append.mp hr' with hr' | hr'
        · obtain ⟨x, hx, rfl⟩ := List.mem_map.mp hr'
          exact Sp.lin hf okA (Sp.mem hf okA (by simp; exact .inl ⟨_, hx⟩)) aF _
        · have : r = F := by simpa using hr'
          rw [this]; exact aF
      · obtain ⟨x, hx, rfl⟩ := List.mem_map.mp hr'
        exact Sp.lin hf okA (Sp.mem hf okA (by simp; exact .inr (List.mem_of_mem_erase hx))) aF _
    · intro r hrm
      have okB : AllOk f n ((s.found.map (fun p => (p.1, elim1 f F t p.2)) ++ [(t, F)]).map Prod.snd ++ (s.left.erase r0).map (elim1 f F t)) := fun r hr => by
        rw [eF] at hr
        rcases List.mem_append.mp hr with hr | hr
        · rcases List.mem_append.mp hr with hr | hr
          · obtain ⟨x, hx, rfl⟩ := List.mem_map.mp hr
            exact oe _ (okFf x hx)
          · have : r = F := by simpa using hr
            rw [this]; exact oF
        · obtain ⟨x, hx, rfl⟩ := List.mem_map.mp hr
          exact oe _ (okE x hx)
      have bF : Sp f n ((s.found.map (fun p => (p.1, elim1 f F t p.2)) ++ [(t, F)]).map Prod.snd ++ (s.left.erase r0).map (elim1 f F t)) F := Sp.mem hf okB (by rw [eF]; simp)
      have back : ∀ x, RowOk f n x → pt f (elim1 f F t x) F (gd x t) = x := fun x hx => by
        unfold elim1
        rw [pt_add hx.len oF.len, show 0 - gd x t + gd x t = 0 by omega, pt_nul hx oF.len]
      refine Sp.sub hf okB (rows' := s.found.map Prod.snd ++ s.left) ?_ (h.sp2 r hrm)
      intro x hx
      rcases List.mem_append.mp hx with hx | hx
      · obtain ⟨p, hp, rfl⟩ := List.mem_map.mp hx
        rw [← back p.2 (okFf p hp)]
        exact Sp.lin hf okB (Sp.mem hf okB (by rw [eF]; simp; exact .inl ⟨_, _, hp, rfl⟩)) bF _
      · by_cases ex : x = r0
        · have e0 : pt f (zer n) F (gd r0 t) = r0 := by
            refine gd_ext (n := n) (pt_len (by simp [zer]) oF.len) o0.len fun j hj => ?_
            rw [gd_pt hj (by simp [zer]) oF.len, gd_zer, gF j hj, em2, Int.zero_add, ← Int.mul_assoc, Int.mul_emod, cc, Int.one_mul, Int.emod_emod, o0.gdm hf]
          have := Sp.lin hf okB .zero bF (gd r0 t)
          rw [e0] at this
          rw [ex]
          exact this
        · rw [← back x (h.okL x hx)]
          exact Sp.lin hf okB (Sp.mem hf okB (by rw [eF]; simp; exact .inr (.inr ⟨x, (List.mem_erase_of_ne ex).mpr hx, rfl⟩))) bF _
    · have := h.len
      have hl := List.length_erase_of_mem hm
      have hp : 0 < s.left.length := List.length_pos_of_mem hm
      simp only [List.length_append, List.length_map, List.length_cons, List.length_nil, hl]
      omega
theorem steps_ok (h2 : 2 ≤ f) (h3 : f ≤ 3) (hr : AllOk f n rows) : StepOk f n rows n (stepsP f n rows) := by
  have hf : 0 < f := by omega
  have key : ∀ t ≤ n, StepOk f n rows t ((List.range t).foldl (stepP f) ⟨rows, []⟩) := fun t => by
    induction t with
    | zero => exact fun _ => ⟨hr, fun _ h => by simp at h, fun _ _ j hj => absurd hj (by omega), fun _ h => by simp at h, .nil, fun _ h => by simp at h, fun _ h => by simp at h, fun _ h => by simp at h, fun r h => Sp.mem hf hr (by simpa using h), fun r h => Sp.mem hf (by simpa using hr) (by simpa using h), by simp⟩
    | succ t ih =>
      intro ht
      rw [List.range_succ, List.foldl_append]
      exact step_ok h2 h3 hr (by omega) (ih (by omega))
  exact key n (Nat.le_refl n)
end
end CB
set_option Elab.async false
set_option linter.all false
set_option maxRecDepth 100000
namespace CB
open PySem PySem.Spec PyProof.Rows L2
theorem nodup_le {α : Type} [DecidableEq α] : ∀ {xs ys : List α}, xs.Nodup → (∀ x ∈ xs, x ∈ ys) → xs.length ≤ ys.length
  | [], _, _, _ => by simp
  | x :: xs, ys, hn, h => by
    rw [List.nodup_cons] at hn
    have hx := h x (by simp)
    have := nodup_le (xs := xs) (ys := ys.erase x) hn.2 fun y hy => (List.mem_erase_of_ne (fun e => hn.1 (by rw [← e]; exact hy))).mpr (h y (by simp [hy]))
    have hl := List.length_erase_of_mem hx
    have hp := List.length_pos_of_mem hx
    simp only [List.length_cons]
    omega
theorem filter_one {α : Type} {p : α → Bool} {r : α} : ∀ {l : List α}, l.Nodup → r ∈ l → (∀ w ∈ l, p w = true ↔ w = r) → l.filter p = [r]
  | [], _, h, _ => by simp at h
  | x :: l, hn, h, hp => by
    rw [List.nodup_cons] at hn
    by_cases e : x = r
    · subst e
      rw [List.filter_cons_of_pos ((hp x (by simp)).mpr rfl), List.filter_eq_nil_iff.mpr fun y hy hy2 => hn.1 (by rw [← (hp y (by simp [hy])).mp hy2]; exact hy)]
    · rw [List.filter_cons_of_neg (fun z => e ((hp x (by simp)).mp z))]
      exact filter_one hn.2 (by simpa [Ne.symm e, fun z : r = x => e z.symm] using h) fun w hw => hp w (by simp [hw])
/-! sums over what is found -/
def lsum {α : Type} (g : α → Int) : List α → Int
  | [] => 0
  | x :: xs => g x + lsum g xs
section
variable {α : Type} {g h : α → Int} {l : List α} {f t : Int}
theorem lsum_zero : (∀ x ∈ l, g x = 0) → lsum g l = 0 := fun e => by
  induction l with
  | nil => rfl
  | cons x xs ih => rw [lsum, e x (by simp), ih fun y hy => e y (by simp [hy])]; rfl
theorem lsum_congr : (∀ x ∈ l, g x = h x) → lsum g l = lsum h l := fun e => by
  induction l with
  | nil => rfl
  | cons x xs ih => rw [lsum, lsum, e x (by simp), ih fun y hy => e y (by simp [hy])]
theorem lsum_lin : lsum (fun x => g x + t * h x) l = lsum g l + t * lsum h l := by
  induction l with
  | nil => simp [lsum]
  | cons x xs ih => rw [lsum, ih, lsum, lsum, Int.mul_add]; omega
theorem lsum_emod : (∀ x ∈ l, g x % f = h x % f) → lsum g l % f = lsum h l % f := fun e => by
  induction l with
  | nil => rfl
  | cons x xs ih => rw [lsum, lsum, Int.add_emod, e x (by simp), ih fun y hy => e y (by simp [hy]), ← Int.add_emod]
end
theorem lsum_one {l : List (Nat × List Int)} {g : Nat × List Int → Int} {q : Nat × List Int} (pw : l.Pairwise (fun p q => p.1 < q.1)) (hq : q ∈ l) (h : ∀ x ∈ l, x.1 ≠ q.1 → g x = 0) : lsum g l = g q := by
  induction l with
  | nil => simp at hq
  | cons x xs ih =>
    rw [List.pairwise_cons] at pw
    rcases List.mem_cons.mp hq with e | e
    · subst e
      rw [lsum, lsum_zero fun y hy => h y (by simp [hy]) (by have := pw.1 y hy; omega)]; omega
    · rw [lsum, h x (by simp) (by have := pw.1 q e; omega), ih pw.2 e fun y hy => h y (by simp [hy])]; omega
section
variable {f : Int} {n : Nat} {rows : List (List Int)} {s : StepSt} {w : List Int}
def cf (w : List Int) (j : Nat) (q : Nat × List Int) : Int := gd w q.1 * gd q.2 j
/-- a word is what its digits at the places tell -/
theorem sp_coef (hf : 2 ≤ f) (h : StepOk f n rows n s) (hw : Sp f n (s.found.map Prod.snd) w) : ∀ j < n, gd w j = lsum (cf w j) s.found % f := by
  have f0 : 0 < f := by omega
  induction hw with
  | zero => intro j hj; rw [gd_zer, lsum_zero fun x _ => by simp [cf, gd_zer]]; simp
  | @add w r t hw hm ih =>
    intro j hj
    obtain ⟨q, hq, rfl⟩ := List.mem_map.mp hm
    have ow := hw.ok f0 h.okF
    have or := h.okF q.2 hm
    rw [gd_pt hj ow.len or.len, ih j hj]
    have e1 : lsum (cf (pt f w q.2 t) j) s.found % f = lsum (fun x => cf w j x + t * cf q.2 j x) s.found % f := lsum_emod fun x hx => by
      unfold cf
      rw [gd_pt (h.lt x hx) ow.len or.len, Int.mul_emod, Int.emod_emod, ← Int.mul_emod, Int.add_mul, Int.mul_assoc]
    rw [e1, lsum_lin, em1]
    have e2 : lsum (cf q.2 j) s.found = gd q.2 j := by
      rw [lsum_one h.pw hq fun x hx ne => by unfold cf; rw [h.oth q hq x hx (fun z => ne z.symm)]; simp]
      unfold cf; rw [h.one q hq]; omega
    rw [e2]
theorem sp_unique (hf : 2 ≤ f) (h : StepOk f n rows n s) (hw : Sp f n (s.found.map Prod.snd) w) {v : List Int} (hv : Sp f n (s.found.map Prod.snd) v) (e : ∀ q ∈ s.found, gd w q.1 = gd v q.1) : w = v :=
  gd_ext (hw.ok (by omega) h.okF).len (hv.ok (by omega) h.okF).len fun j hj => by
    rw [sp_coef hf h hw j hj, sp_coef hf h hv j hj, lsum_congr (g := cf w j) (h := cf v j) fun x hx => by unfold cf; rw [e x hx]]
theorem sp_lead (hf : 2 ≤ f) (h : StepOk f n rows n s) (hw : Sp f n (s.found.map Prod.snd) w) {j : Nat} (hj : j < n) (h0 : ∀ i < j, gd w i = 0) (hn : gd w j ≠ 0) : ∃ q ∈ s.found, q.1 = j := by
  refine Classical.byContradiction fun hc => hn ?_
  rw [sp_coef hf h hw j hj, lsum_zero fun x hx => ?_]
  · simp
  · unfold cf
    have ne : x.1 ≠ j := fun e => hc ⟨x, hx, e⟩
    by_cases hl : x.1 < j
    · rw [h0 _ hl]; simp
    · rw [h.zf x hx j (by omega)]; simp
theorem left_zero (h : StepOk f n rows n s) : ∀ r ∈ s.left, r = zer n := fun r hr => gd_ext (h.okL r hr).len (by simp [zer]) fun j hj => by rw [h.zl r hr j hj, gd_zer]
theorem sp_found (hf : 2 ≤ f) (hr : AllOk f n rows) (h : StepOk f n rows n s) : Sp f n rows w ↔ Sp f n (s.found.map Prod.snd) w := by
  have f0 : 0 < f := by omega
  constructor
  · intro hw
    refine Sp.sub f0 h.okF (fun r hr => ?_) hw
    refine Sp.sub f0 h.okF (fun x hx => ?_) (h.sp2 r hr)
    rcases List.mem_append.mp hx with hx | hx
    · exact Sp.mem f0 h.okF hx
    · rw [left_zero h x hx]; exact .zero
  · intro hw
    exact Sp.sub f0 hr (fun r hrr => h.sp1 r (List.mem_append_left _ hrr)) hw
theorem found_len (h2 : 2 ≤ f) (h3 : f ≤ 3) (hr : AllOk f n rows) (hi : Indep f n rows) (h : StepOk f n rows n s) : s.found.length = rows.length := by
  have f0 : 0 < f := by omega
  have h1 := h.len
  have hle := nodup_le (span_nodup h2 h3 rows hr hi) (ys := spanL f n (s.found.map Prod.snd)) fun w hw => sp_spanL f0 _ h.okF w ((sp_found h2 hr h).mp (spanL_sp rows w hw))
  rw [spanL_len, spanL_len, List.length_map] at hle
  have : rows.length ≤ s.found.length := Classical.byContradiction fun hc => by
    have := Nat.pow_lt_pow_right (a := f.toNat) (by omega) (show s.found.length < rows.length by omega)
    omega
  omega
end
end CB
set_option Elab.async false
set_option linter.all false
set_option maxRecDepth 100000
namespace CB
open PySem PySem.Spec PyProof.Rows L2
/-! rows compared -/
theorem canInts : ∀ r : List Int, PyData.canLayAll0 (pyL (r.map D.int)) = true
  | [] => rfl
  | x :: r => by simp [pyL, D.py, PyData.canLayAll0, PyData.canLay0, canInts r]
theorem depInts : ∀ r : List Int, PyData.depthAll (pyL (r.map D.int)) = 0
  | [] => rfl
  | x :: r => by simp [pyL, D.py, PyData.depthAll, PyData.depth, depInts r]
theorem py_enc (r : List Int) : (encR r).py = .tuple (pyL (r.map D.int)) := rfl
theorem shaped_enc (r : List Int) : SeqAt.shaped (encR r).py = true := by
  unfold SeqAt.shaped
  rw [py_enc]
  simp [PyData.canLay0, canInts, PyData.depth, depInts]
theorem canRows : ∀ rows : List (List Int), PyData.canLayAll0 (pyL (rows.map encR)) = true
  | [] => rfl
  | x :: r => by simp [pyL, py_enc, PyData.canLayAll0, PyData.canLay0, canRows r, canInts]
theorem depRows : ∀ rows : List (List Int), PyData.depthAll (pyL (rows.map encR)) ≤ 1
  | [] => by simp [pyL, PyData.depthAll]
  | x :: r => by
    have := depRows r
    simp only [List.map_cons, pyL, py_enc, PyData.depthAll, PyData.depth, depInts]
    omega
theorem shaped_rows (rows : List (List Int)) : SeqAt.shaped (.list (pyL (rows.map encR))) = true := by
  unfold SeqAt.shaped
  have := depRows rows
  simp [PyData.canLay0, canRows, PyData.depth]
  omega
theorem shaped_ints (r : List Int) : SeqAt.shaped (.list (pyL (r.map D.int))) = true := by
  unfold SeqAt.shaped
  simp [PyData.canLay0, canInts, PyData.depth, depInts]
theorem eqvInts : ∀ a b : List Int, PyData.eqvAll (pyL (a.map D.int)) (pyL (b.map D.int)) = decide (a = b)
  | [], [] => rfl
  | [], _ :: _ => rfl
  | _ :: _, [] => rfl
  | x :: a, y :: b => by
    simp only [List.map_cons, pyL, D.py, PyData.eqvAll, PyData.eqv, eqvInts a b]
    by_cases h : x = y <;> simp [h]
theorem eqvEnc (a b : List Int) : PyData.eqv (encR a).py (encR b).py = decide (a = b) := by
  rw [py_enc, py_enc, PyData.eqv, eqvInts]
theorem eqv_nil {α : Type} {g : α → D} : ∀ xs : List α, PyData.eqvAll (pyL (xs.map g)) [] = xs.isEmpty
  | [] => rfl
  | _ :: _ => rfl
@[simp] theorem gNe_int {a b : Int} : gNe (.int a) (.int b) = some (.bl (a != b)) := rfl
@[simp] theorem gEq_int {a b : Int} : gEq (.int a) (.int b) = some (.bl (a == b)) := rfl
@[simp] theorem gEq_bl {a b : Bool} : gEq (.bl a) (.bl b) = some (.bl (a == b)) := rfl
@[simp] theorem gNe_bl {a b : Bool} : gNe (.bl a) (.bl b) = some (.bl (a != b)) := rfl
@[simp] theorem gNe_rows {rows : List (List Int)} : gNe (.lst (rows.map encR)) (.lst []) = some (.bl (!rows.isEmpty)) := by
  show (if _ then some (D.bl (!PyData.eqvAll (pyL (rows.map encR)) [])) else none) = _
  have e : (SeqAt.shaped (D.lst (rows.map encR)).py && SeqAt.shaped (D.lst []).py) = true := by
    rw [Bool.and_eq_true]; exact ⟨shaped_rows rows, rfl⟩
  rw [if_pos e, eqv_nil]
@[simp] theorem gEq_rows {rows : List (List Int)} : gEq (.lst (rows.map encR)) (.lst []) = some (.bl rows.isEmpty) := by
  show (if _ then some (D.bl (PyData.eqvAll (pyL (rows.map encR)) [])) else none) = _
  have e : (SeqAt.shaped (D.lst (rows.map encR)).py && SeqAt.shaped (D.lst []).py) = true := by
    rw [Bool.and_eq_true]; exact ⟨shaped_rows rows, rfl⟩
  rw [if_pos e, eqv_nil]
@[simp] theorem gEq_ints {r : List Int} : gEq (.lst (r.map D.int)) (.lst []) = some (.bl r.isEmpty) := by
  show (if _ then some (D.bl (PyData.eqvAll (pyL (r.map D.int)) [])) else none) = _
  have e : (SeqAt.shaped (D.lst (r.map D.int)).py && SeqAt.shaped (D.lst []).py) = true := by
    rw [Bool.and_eq_true]; exact ⟨shaped_ints r, rfl⟩
  rw [if_pos e, eqv_nil]
theorem findEq_rows {r0 : List Int} : ∀ {rows : List (List Int)}, r0 ∈ rows → ∃ j, findEq (encR r0).py (pyL (rows.map encR)) = some j ∧ (rows.map encR).eraseIdx j = (rows.erase r0).map encR
  | [], h => by simp at h
  | x :: rows, h => by
    by_cases e : x = r0
    · subst e
      refine ⟨0, ?_, by simp⟩
      simp [pyL, findEq, eqvEnc]
    · obtain ⟨j, h1, h2⟩ := findEq_rows (rows := rows) (by simpa [Ne.symm e, fun z : r0 = x => e z.symm] using h)
      refine ⟨j + 1, ?_, ?_⟩
      · simp [pyL, findEq, eqvEnc, e, h1]
      · rw [List.erase_cons_tail (by simpa using e)]
        simp [h2]
@[simp] theorem gRemove_rows {rows : List (List Int)} {r0 : List Int} (h : r0 ∈ rows) : gRemove (.lst (rows.map encR)) [encR r0] = some (.lst ((rows.erase r0).map encR)) := by
  obtain ⟨j, h1, h2⟩ := findEq_rows h
  show (if _ then (findEq (encR r0).py (pyL (rows.map encR))).map (fun j => D.lst ((rows.map encR).eraseIdx j)) else none) = _
  have e : (SeqAt.shaped (.list (pyL (rows.map encR))) && SeqAt.shaped (encR r0).py) = true := by
    rw [Bool.and_eq_true]; exact ⟨shaped_rows rows, shaped_enc r0⟩
  rw [if_pos e, h1]; simp [h2]
@[simp] theorem gAppend_at {xs : List D} {d : D} : gAppend (.lst xs) [d] = if d.imm && okLen (xs.length + 1) then some (.lst (xs ++ [d])) else none := rfl
/-! in_steps -/
theorem gIx_enc {r : List Int} {j : Nat} (h : j < r.length) : gIx (encR r) (.int (j : Int)) = some (.int (gd r j)) := atI_enc h
def foundD (s : StepSt) : List (List Int) := s.found.map Prod.snd
theorem elim_comp {f : Int} {n t : Nat} {i : Nat} {S : Store} {F : List Int} {ρ : En} (h2 : 2 ≤ f) (h3 : f ≤ 3) (hn : n ≤ 1000) (ht : t < n) (oF : RowOk f n F) (rows : List (List Int)) (hr : AllOk f n rows)
    (e0 : ∀ x, (ρ.set 9 x)[0]? = some (.ro (.int f))) (e6 : ∀ x, (ρ.set 9 x)[6]? = some (.ro (.int (t : Int)))) (e8 : ∀ x, (ρ.set 9 x)[8]? = some (.ro (encR F))) (e9 : ∀ x, (ρ.set 9 x)[9]? = some x) :
    compF (bName 9) fYes (fCall (fun ds S => noEx (q_plus_times ds S)) (fCons (fVar 0) (fCons (fVar 9) (fCons (fVar 8) (fCons (fBin gSub (fC (.int 0)) (fBin gIx (fVar 9) (fVar 6))) fNil))))) ρ (rows.map encR) S = .ok ((rows.map (elim1 f F t)).map encR) S := by
  rw [compF_all encR (fun r => encR (elim1 f F t r)) rows fun r hrr => ⟨_, rfl, ?_⟩]
  · simp
  · have ht' : t < r.length := by rw [(hr r hrr).len]; exact ht
    have hp := plus_times_ok (f := f) (t := 0 - gd r t) (a := r) (b := F) (S := S) (by omega) (okMul_row oF (by omega)) (by rw [(hr r hrr).len]; exact hn)
    simp only [fCall_at, fCons_at, fVar_at, fBin_at, fC_at, fNil_at, e0, e6, e8, e9, Out.bind_ok, gIx_enc ht', ofOpt_some, gSub_at, hp, noEx_ok]
    rfl
theorem filter_comp {n t : Nat} {S : Store} {ρ : En} (ht : t < n) (rows : List (List Int)) (hr : ∀ r ∈ rows, r.length = n) (e6 : ∀ x, (ρ.set 9 x)[6]? = some (.ro (.int (t : Int)))) (e9 : ∀ x, (ρ.set 9 x)[9]? = some x) :
    compF (bName 9) (fB (fBin gNe (fBin gIx (fVar 9) (fVar 6)) (fC (.int 0)))) (fVar 9) ρ (rows.map encR) S = .ok ((rows.filter fun r => gd r t != 0).map encR) S := by
  rw [compF_map encR (fun r => gd r t != 0) encR rows fun r hrr => ⟨_, rfl, ?_, fun _ => ?_⟩]
  · have ht' : t < r.length := by rw [hr r hrr]; exact ht
    simp only [fB_at, fBin_at, fVar_at, fC_at, e6, e9, Out.bind_ok, gIx_enc ht', ofOpt_some, gNe_int]
  · simp only [fVar_at, e9]
def pivD (s : StepSt) : List D := s.found.map fun q => D.int (q.1 : Int)
theorem pivD_imm (s : StepSt) : immL (pivD s) = true := by rw [immL_all]; simp [pivD]
theorem steps_body {f : Int} {n t : Nat} {rows : List (List Int)} {X Y : D} {s : StepSt} {pv : List D} {x6 x7 x8 : Sl} {S : Store} (h2 : 2 ≤ f) (h3 : f ≤ 3) (hn : n ≤ 1000) (ht : t < n) (h : StepOk f n rows t s) (hk : rows.length ≤ 1000) (hpv : pv.length ≤ 1000) (hpi : immL pv = true) (hpe : pv = pivD s) :
    ∃ pv' x7' x8', fb_in_steps_1 [.ro (.int f), .ro X, .ro Y, .own (.lst (s.left.map encR)), .own (.lst ((foundD s).map encR)), .own (.lst pv), .ro (.int (t : Int)), x7, x8, .no] S =
      .nx [.ro (.int f), .ro X, .ro Y, .own (.lst ((stepP f s t).left.map encR)), .own (.lst ((foundD (stepP f s t)).map encR)), .own (.lst pv'), .ro (.int (t : Int)), x7', x8', .no] S ∧ pv'.length ≤ pv.length + 1 ∧ immL pv' = true ∧ pv' = pivD (stepP f s t) := by
  have hf : 0 < f := by omega
  have hl1 : okLen s.left.length = true := ok_le (by have := h.len; omega)
  have hfc := filter_comp (n := n) (t := t) (S := S) (ρ := [.ro (.int f), .ro X, .ro Y, .own (.lst (s.left.map encR)), .own (.lst ((foundD s).map encR)), .own (.lst pv), .ro (.int (t : Int)), x7, x8, .no]) ht s.left (fun r hr => (h.okL r hr).len) (fun _ => rfl) (fun _ => rfl)
  have hok := (step_ok (rows := rows) h2 h3 · ht h)
  unfold stepP
  split
  · rename_i e
    refine ⟨pv, .own (.lst []), x8, ?_, Nat.le_succ _, hpi, hpe⟩
    unfold fb_in_steps_1
    have hne : gNe (.lst []) (.lst []) = some (.bl false) := rfl
    simp [hl1, hfc, e, hne]
  · rename_i r0 rs e
    have hm : r0 ∈ s.left := by
      have : r0 ∈ s.left.filter (fun r => gd r t != 0) := by rw [e]; simp
      exact (List.mem_filter.mp this).1
    have o0 := h.okL r0 hm
    have ht0 : t < r0.length := by rw [o0.len]; exact ht
    have oF : RowOk f n (tm f r0 (gd r0 t)) := .tm hf o0.len
    have htm := times_of_ok (f := f) (t := gd r0 t) (r := r0) (S := S) hf (okMul_row o0 (by omega)) (by rw [o0.len]; exact hn)
    have hl2 : okLen (s.left.erase r0).length = true := ok_le (by
      have := h.len
      have := List.length_erase_of_mem hm
      omega)
    have hl3 : okLen (foundD s).length = true := ok_le (by have := h.len; simp [foundD]; omega)
    have hl4 : okLen ((foundD s).length + 1) = true := ok_le (by have := h.len; simp [foundD]; omega)
    have hl5 : okLen (pv.length + 1) = true := ok_le (by omega)
    have a0 : ∀ {a : D} {l : List D}, atI (a :: l) 0 = some a := by
      intro a l
      unfold atI ixN
      rw [if_pos (by omega), if_pos (by simp)]; rfl
    have hc1 := elim_comp (f := f) (n := n) (t := t) (i := 0) (S := S) (F := tm f r0 (gd r0 t)) (ρ := [.ro (.int f), .ro X, .ro Y, .own (.lst ((s.left.erase r0).map encR)), .own (.lst ((foundD s).map encR)), .own (.lst pv), .ro (.int (t : Int)), .own (.lst ((r0 :: rs).map encR)), .ro (encR (tm f r0 (gd r0 t))), .no]) h2 h3 hn ht oF (s.left.erase r0) (fun r hr => h.okL r (List.mem_of_mem_erase hr)) (fun _ => rfl) (fun _ => rfl) (fun _ => rfl) (fun _ => rfl)
    have hc2 := elim_comp (f := f) (n := n) (t := t) (i := 0) (S := S) (F := tm f r0 (gd r0 t)) (ρ := [.ro (.int f), .ro X, .ro Y, .own (.lst (((s.left.erase r0).map (elim1 f (tm f r0 (gd r0 t)) t)).map encR)), .own (.lst ((foundD s).map encR)), .own (.lst pv), .ro (.int (t : Int)), .own (.lst ((r0 :: rs).map encR)), .ro (encR (tm f r0 (gd r0 t))), .no]) h2 h3 hn ht oF (foundD s) h.okF (fun _ => rfl) (fun _ => rfl) (fun _ => rfl) (fun _ => rfl)
    refine ⟨pv ++ [.int (t : Int)], .own (.lst ((r0 :: rs).map encR)), .ro (encR (tm f r0 (gd r0 t))), ?_, by simp, by simp [hpi], by rw [hpe]; simp [pivD]⟩
    have eF : ((foundD ⟨(s.left.erase r0).map (elim1 f (tm f r0 (gd r0 t)) t), s.found.map (fun p => (p.1, elim1 f (tm f r0 (gd r0 t)) t p.2)) ++ [(t, tm f r0 (gd r0 t))]⟩).map encR) = (((foundD s).map (elim1 f (tm f r0 (gd r0 t)) t)).map encR) ++ [encR (tm f r0 (gd r0 t))] := by simp [foundD]
    rw [eF]
    unfold fb_in_steps_1
    have hne := gNe_rows (rows := r0 :: rs)
    have hrem := gRemove_rows hm
    simp only [List.map_cons] at hne hc1 hc2
    simp only [sSeq_at, sSetO_at, fComp_at, fOwnL_at, List.getElem?_cons_succ, List.getElem?_cons_zero, Out.bind_ok, List.length_map, hl1, if_true, wipeE_cons, wipeE_nil, List.set_cons_succ, List.set_cons_zero, hfc, e, List.map_cons, Out.toS_ok, isC_lst, topImm_lst, immL_cons, imm_enc, immL_encs, Bool.and_self, Bool.true_and, sIf_at, fB_at, fBin_at, fVarO_at, fLst_at, fNil_at, List.length_nil, okLen_0, ofOpt_some, hne, List.isEmpty_cons, Bool.not_false,
      sSet_at, fCall_at, fCons_at, fVar_at, fC_at, gIx_lst, a0, gIx_enc ht0, htm, noEx_ok, sMut_at, hrem, hl2, hc1, hl3, hc2, List.length_cons, List.length_append, okLen_1, gAdd_lst, hl4, hl5, Nat.zero_add, gAppend_at, imm_int, immL_app, immL_nil, Bool.and_true]
theorem in_steps_ok {f : Int} {n : Nat} {rows : List (List Int)} {X : D} {S : Store} (h2 : 2 ≤ f) (h3 : f ≤ 3) (hn : n ≤ 500) (hX : Rows X rows) (hr : AllOk f n rows) (hk : rows.length ≤ 1000) :
    q_in_steps [.int f, X, .lst ((List.range n).map fun (i : Nat) => D.int (i : Int))] S = .ok (.tup [.lst ((foundD (stepsP f n rows)).map encR), .lst (pivD (stepsP f n rows))]) S := by
  have key : ∀ m ≤ n, StepOk f n rows m ((List.range m).foldl (stepP f) ⟨rows, []⟩) := fun t => by
    induction t with
    | zero => exact fun _ => ⟨hr, fun _ h => by simp at h, fun _ _ j hj => absurd hj (by omega), fun _ h => by simp at h, .nil, fun _ h => by simp at h, fun _ h => by simp at h, fun _ h => by simp at h, fun r h => Sp.mem (by omega) hr (by simpa using h), fun r h => Sp.mem (by omega) (by simpa using hr) (by simpa using h), by simp⟩
    | succ t ih =>
      intro ht
      rw [List.range_succ, List.foldl_append]
      exact step_ok h2 h3 hr (by omega) (ih (by omega))
  obtain ⟨ρ', S', e, rfl, pv, x6, x7, x8, hpv, hpi, hpe, rfl⟩ := loopS_all (b := bName 6) (body := fb_in_steps_1) (fun (i : Nat) => D.int (i : Int)) (fun pre ρ S' => S' = S ∧ ∃ pv x6 x7 x8, pv.length ≤ pre.length ∧ immL pv = true ∧ pv = pivD (pre.foldl (stepP f) ⟨rows, []⟩) ∧ ρ = [.ro (.int f), .ro X, .ro (.lst ((List.range n).map fun (i : Nat) => D.int (i : Int))), .own (.lst ((pre.foldl (stepP f) ⟨rows, []⟩).left.map encR)), .own (.lst ((foundD (pre.foldl (stepP f) ⟨rows, []⟩)).map encR)), .own (.lst pv), x6, x7, x8, .no]) (List.range n)
    [.ro (.int f), .ro X, .ro (.lst ((List.range n).map fun (i : Nat) => D.int (i : Int))), .own (.lst (rows.map encR)), .own (.lst []), .own (.lst []), .no, .no, .no, .no] S ⟨rfl, [], .no, .no, .no, by simp, rfl, rfl, by simp [foundD]⟩ fun pre t post ρ S' hs ⟨e1, pv, x6, x7, x8, hpv, hpi, hpe, e2⟩ => by
    subst e1 e2
    have hpre : pre = List.range t ∧ t < n := by
      have hlen : pre.length < n := by
        have := congrArg List.length hs
        simp at this; omega
      have ht : (List.range n)[pre.length]? = some t := by rw [hs]; simp
      have ht' : pre.length = t := by
        rw [List.getElem?_range hlen] at ht
        exact Option.some.inj ht
      refine ⟨?_, by omega⟩
      have := congrArg (List.take pre.length) hs
      rw [List.take_left, List.take_range] at this
      rw [← this, ← ht', Nat.min_eq_left (by omega)]
    obtain ⟨rfl, ht⟩ := hpre
    have hpl : pv.length ≤ 1000 := by simp at hpv; omega
    obtain ⟨pv', x7', x8', e, hl, hi, he'⟩ := steps_body (X := X) (Y := .lst ((List.range n).map fun (i : Nat) => D.int (i : Int))) (pv := pv) (x6 := x6) (x7 := x7) (x8 := x8) (S := S') h2 h3 (by omega) ht (key t (by omega)) hk hpl hpi hpe
    refine ⟨_, _, _, rfl, e, rfl, pv', .ro (.int (t : Int)), x7', x8', by simp at hpv ⊢; omega, hi, by rw [he', List.foldl_append]; rfl, ?_⟩
    rw [List.foldl_append]
    rfl
  subst hpe
  unfold q_in_steps fs_in_steps
  rcases hX with rfl | rfl <;> (simp [e]; exact ⟨rfl, rfl⟩)
end CB
set_option Elab.async false
set_option linter.all false
set_option maxRecDepth 100000
namespace CB
open PySem PySem.Spec PyProof.Rows L2
/-! the code's own checks -/
@[simp] theorem sAug_at {ρ : En} {S : Store} {i : Nat} {g : D → D → Option D} {f : F D} : sAug i g f ρ S = (match ρ[i]? with
  | some (.ro d) => (f ρ S).toS fun y S => match g d y with
    | some z => if z.imm then .nx (ρ.set i (.ro z)) S else .no
    | none => .no
  | _ => .no) := rfl
theorem a0' {a : D} {l : List D} : atI (a :: l) 0 = some a := by
  unfold atI ixN
  rw [if_pos (by omega), if_pos (by simp)]; rfl
theorem dRange_nat (n : Nat) : dRange 0 ((n : Int)).toNat = (List.range n).map fun (i : Nat) => D.int (i : Int) := by rw [Int.toNat_natCast, dRange_zero]
theorem okR_nat {n : Nat} (h : n ≤ 1000) : okR (n : Int) = true := okR_small (by omega) (by omega)
theorem rank_ok {f : Int} {n : Nat} {rows : List (List Int)} {S : Store} (h2 : 2 ≤ f) (h3 : f ≤ 3) (hn : n ≤ 500) (hr : AllOk f n rows) (hk : rows.length ≤ 1000) (hne : rows ≠ []) :
    q_rank_of [.int f, .lst (rows.map encR)] S = .ok (.int ((stepsP f n rows).found.length : Int)) S := by
  have e := in_steps_ok (S := S) (X := .lst (rows.map encR)) h2 h3 hn (.inl rfl) hr hk
  obtain ⟨r, rs, rfl⟩ : ∃ r rs, rows = r :: rs := by
    cases rows with
    | nil => exact absurd rfl hne
    | cons r rs => exact ⟨r, rs, rfl⟩
  have hl : (encR r) = .tup (r.map D.int) := rfl
  have hlen := (hr r (by simp)).len
  have he := gEq_rows (rows := r :: rs)
  have hL : gLen [encR r] = some (.int (n : Int)) := by rw [hl, gLen_tup]; simp [hlen]
  have ho : okLen n = true := ok_le (by omega)
  simp only [List.map_cons] at e he
  unfold q_rank_of fs_rank_of
  simp [he, a0', hL, okR_nat (n := n) (by omega), dRange_zero, ho, e]
  simp [foundD]
theorem gAll_bl {bs : List Bool} : gAll [.lst (bs.map D.bl)] = some (.bl (bs.all id)) := by simp [gAll]
theorem is_row_ok {f : Int} {n : Nat} {r : List Int} {S : Store} (hr : RowOk f n r) (hn : n ≤ 1000) : q_is_row [encR r, .int f, .int (n : Int)] S = .ok (.bl true) S := by
  have hc := compF_all (b := bName 3) (elt := fCall (fun ds S => noEx (q_is_number ds S)) (fCons (fVar 3) (fCons (fC (.int 0)) (fCons (fBin gSub (fVar 1) (fC (.int 1))) fNil)))) (ρ := [.ro (encR r), .ro (.int f), .ro (.int (n : Int)), .no]) (S := S) D.int (fun _ => D.bl true) r fun x hx => ⟨_, rfl, by
    have := hr.dig x hx
    simp [is_number_ok]
    omega⟩
  have hg := gAll_bl (bs := r.map fun _ => true)
  have ht : (r.map fun _ => true).all id = true := by simp
  rw [ht] at hg
  simp only [List.map_map, Function.comp_def] at hg
  have hl : okLen r.length = true := ok_le (by rw [hr.len]; omega)
  have hL : gLen [encR r] = some (.int (n : Int)) := by unfold encR; rw [gLen_tup]; simp [hr.len]
  have hI : ∀ {ρ : En} {S : Store}, (fIter (fVar 0)) (.ro (encR r) :: ρ) S = .ok (r.map D.int) S := by intros; simp [encR]
  have hT : tyN (encR r) = some "tuple" := rfl
  unfold q_is_row fs_is_row
  simp [hT, isB, tyNames, hL, -fIter_at, hI, hl, hc, hg]
theorem words_of_ok {f : Int} {n : Nat} {rows : List (List Int)} {S : Store} (h2 : 2 ≤ f) (h3 : f ≤ 3) (hn : n ≤ 1000) (n1 : 1 ≤ n) (hr : AllOk f n rows) (hk : rows.length ≤ 10) :
    q_words_of [codeD f n rows] S = .ok (.lst ((sortR (spanL f n rows)).map encR)) S := by
  have hf : 0 < f := by omega
  have ha := all_rows_ok (f := f) (k := rows.length) (S := S) h2 h3 hk
  have hc := compF_all (b := bName 1) (elt := fCall (fun ds S => noEx (q_made_by ds S)) (fCons (fVar 0) (fCons (fVar 1) fNil))) (ρ := [.ro (codeD f n rows), .no]) (S := S) encR (fun m => encR (made f n rows m)) (allR f rows.length) fun m hm => ⟨_, rfl, by simp [made_by_ok h2 h3 hn hr]⟩
  have hl : okLen (allR f rows.length).length = true := ok_le (by rw [allR_length]; have := pows h3 hk; omega)
  have hp := span_words f n rows
  have e : ((allR f rows.length).map fun m => encR (made f n rows m)) = ((allR f rows.length).map (made f n rows)).map encR := by simp
  rw [e] at hc
  have hs : gSortedA [.lst (((allR f rows.length).map (made f n rows)).map encR)] = some (.lst ((sortR (spanL f n rows)).map encR)) := by
    rw [sortR_congr hp]
    have hne : (allR f rows.length).map (made f n rows) ≠ [] := fun z => by
      have := congrArg List.length z
      rw [List.length_map, allR_length] at this
      have := Nat.pow_pos (n := rows.length) (show 0 < f.toNat by omega)
      simp at *
      omega
    have hall : ((allR f rows.length).map (made f n rows)).all (fun r => !r.isEmpty) = true := by
      rw [List.all_eq_true]
      intro r hrr
      have := spanL_rows hf rows (fun r h => (hr r h).len) r (hp.mem_iff.mpr hrr)
      have := this.len
      cases r with
      | nil => simp at this; omega
      | cons x r => rfl
    generalize (allR f rows.length).map (made f n rows) = rs at hne hall
    cases rs with
    | nil => exact absurd rfl hne
    | cons x rs =>
      have hi : intsOf ((x :: rs).map encR) = none := rfl
      show (match intsOf ((x :: rs).map encR) with
        | some is => some (D.lst ((sortI is).map .int))
        | none => match rowsOf ((x :: rs).map encR) with
          | some rs => if rs.all (fun r => !r.isEmpty) then some (D.lst ((sortR rs).map encR)) else none
          | none => none) = _
      rw [hi, rowsOf_map]
      simp only
      rw [if_pos hall]
  have g0 : gIx (codeD f n rows) (.int 0) = some (.int f) := rfl
  have g2 : gIx (codeD f n rows) (.int 2) = some (.tup (rows.map encR)) := rfl
  unfold q_words_of fs_words_of
  simp [g0, g2, ha, hl, hc, hs, -List.map_map]
end CB
set_option Elab.async false
set_option linter.all false
set_option maxRecDepth 100000
namespace CB
open PySem PySem.Spec PyProof.Rows L2
@[simp] theorem gEnum_tup {xs : List D} : gEnum [.tup xs] = some (dEnum xs) := rfl
@[simp] theorem gSl_tup {xs : List D} {lo hi : Option Int} : gSl (.tup xs) lo hi = some (.tup ((xs.drop (HT.sIx xs.length 0 lo)).take (HT.sIx xs.length xs.length hi - HT.sIx xs.length 0 lo))) := rfl
theorem pow_int {f : Int} (h2 : 2 ≤ f) (k : Nat) : f ^ k = ((f.toNat ^ k : Nat) : Int) := by
  obtain ⟨m, rfl⟩ : ∃ m : Nat, f = m := ⟨f.toNat, by omega⟩
  simp
/-- a code that the text takes -/
structure CodeOk (f : Int) (n : Nat) (rows : List (List Int)) : Prop where
  f2 : 2 ≤ f
  f3 : f ≤ 3
  n1 : 1 ≤ n
  n10 : n ≤ 10
  ok : AllOk f n rows
  ind : Indep f n rows
  k : rows.length ≤ 10
  many : f.toNat ^ rows.length ≤ 729
theorem Indep.take {f : Int} {n : Nat} {pre post : List (List Int)} (h : Indep f n (pre ++ post)) : Indep f n pre := fun a r b e => h a r (b ++ post) (by rw [e]; simp)
theorem need_code_ok {f : Int} {n : Nat} {rows : List (List Int)} {S : Store} (C : CodeOk f n rows) : q_need_code [codeD f n rows] S = .ok .non S := by
  obtain ⟨h2, h3, n1, n10, hr, hi, hk, hm⟩ := C
  have f0 : 0 < f := by omega
  obtain ⟨ρ', S', e, rfl, x5, x6, rfl⟩ := loopS_all (b := bTup2 (bName 5) (bName 6)) (body := fb_need_code_1) (fun p : Nat × List Int => D.tup [.int (p.1 : Int), encR p.2]) (fun pre ρ S' => S' = S ∧ ∃ x5 x6, ρ = [.ro (codeD f n rows), .ro (.int f), .ro (.int (n : Int)), .ro (.tup (rows.map encR)), .ro (.int (f ^ pre.length)), x5, x6]) (List.zip (List.range rows.length) rows)
    [.ro (codeD f n rows), .ro (.int f), .ro (.int (n : Int)), .ro (.tup (rows.map encR)), .ro (.int 1), .no, .no] S ⟨rfl, .no, .no, by simp⟩ fun pre p post ρ S' hs ⟨e1, x5, x6, e2⟩ => by
    subst e1 e2
    have hlen : pre.length < rows.length := by
      have := congrArg List.length hs
      simp at this; omega
    have hp : (List.zip (List.range rows.length) rows)[pre.length]? = some p := by rw [hs]; simp
    have hp1 : p.1 = pre.length ∧ rows[pre.length]? = some p.2 := by
      rw [List.getElem?_zip_eq_some] at hp
      rw [List.getElem?_range hlen] at hp
      exact ⟨(Option.some.inj hp.1).symm, hp.2⟩
    obtain ⟨i, r⟩ := p
    obtain ⟨rfl, hrow⟩ := hp1
    have hrm : r ∈ rows := List.mem_of_getElem? hrow
    have htk : rows.take (pre.length + 1) ≠ [] := fun z => by
      have := congrArg List.length z
      simp at this
      rw [this] at hlen; simp at hlen
    have okT : AllOk f n (rows.take (pre.length + 1)) := fun x hx => hr x (List.mem_of_mem_take hx)
    have inT : Indep f n (rows.take (pre.length + 1)) := by
      have := hi
      rw [← List.take_append_drop (pre.length + 1) rows] at this
      exact this.take
    have hrank := rank_ok (S := S') (rows := rows.take (pre.length + 1)) h2 h3 (by omega) okT (by simp; omega) htk
    rw [found_len h2 h3 okT inT (steps_ok h2 h3 okT)] at hrank
    have hL : (rows.take (pre.length + 1)).length = pre.length + 1 := by simp; omega
    rw [hL] at hrank
    have hmany : f ^ (pre.length + 1) ≤ 729 := by
      rw [pow_int h2]
      have : f.toNat ^ (pre.length + 1) ≤ f.toNat ^ rows.length := Nat.pow_le_pow_right (by omega) (by omega)
      omega
    have hmu : okMul (f ^ pre.length) f = true := okMul_r (by omega)
    have hrow1 := is_row_ok (S := S') (hr r hrm) (by omega)
    have e9 : ¬ (729 < f ^ (pre.length + 1)) := by omega
    have ed : f ^ pre.length * f = f ^ (pre.length + 1) := (Int.pow_succ ..).symm
    refine ⟨_, _, _, rfl, ?_, rfl, .ro (.int (pre.length : Int)), .ro (encR r), by simp; rfl⟩
    unfold fb_need_code_1
    have hs1 : HT.sIx rows.length rows.length (some ((pre.length : Int) + 1)) = pre.length + 1 := by
      rw [show ((pre.length : Int) + 1) = ((pre.length + 1 : Nat) : Int) by omega, HT.sIx_nat]; omega
    have hle : ¬ ((pre.length : Int) + 1 ≤ (pre.length : Int)) := by omega
    push_cast at hrank
    simp [hmu, ed, e9, hrow1, hs1, HT.sIx_none, ← List.map_take, hrank, hle]
  have hz : dEnum (rows.map encR) = (List.zip (List.range rows.length) rows).map fun p : Nat × List Int => D.tup [.int (p.1 : Int), encR p.2] := by
    unfold dEnum
    rw [dRange_zero, dZip_map, List.length_map]
  have hT : tyN (codeD f n rows) = some "tuple" := rfl
  have hLn : gLen [codeD f n rows] = some (.int 3) := rfl
  have hb : ∀ {b1 b2 b3 : Bd} {ρ : En}, bTup3 b1 b2 b3 (codeD f n rows) ρ = (b1 (.int f) ρ).bind fun ρ => (b2 (.int (n : Int)) ρ).bind fun ρ => b3 (.tup (rows.map encR)) ρ := fun {_ _ _ _} => rfl
  have hn1 : (decide ((2 : Int) ≤ f) && decide (f ≤ 3)) = true := by simp; omega
  have hn2 : (decide ((1 : Int) ≤ (n : Int)) && decide ((n : Int) ≤ 10)) = true := by simp; omega
  unfold q_need_code fs_need_code
  simp only [runB_at, List.map_cons, List.map_nil, List.length_cons, List.length_nil]
  simp [hT, isB, tyNames, hLn, hb, is_number_ok, -Bool.and_eq_true, hn1, hn2, hz, e]
theorem words_ok {f : Int} {n : Nat} {rows : List (List Int)} {S : Store} (C : CodeOk f n rows) : q_words [codeD f n rows] S = .ok (.lst ((sortR (spanL f n rows)).map encR)) S := by
  have h1 := need_code_ok (S := S) C
  have h2 := words_of_ok (S := S) C.f2 C.f3 (by have := C.n10; omega) C.n1 C.ok C.k
  unfold q_words fs_words
  simp [h1, h2]
def stdRows (f : Int) (n : Nat) (rows : List (List Int)) : List (List Int) := foundD (stepsP f n rows)
theorem standard_of_ok {f : Int} {n : Nat} {rows : List (List Int)} {S : Store} (C : CodeOk f n rows) : q_standard_of [codeD f n rows] S = .ok (codeD f n (stdRows f n rows)) S := by
  have n10 := C.n10
  have e := in_steps_ok (S := S) (X := .tup (rows.map encR)) C.f2 C.f3 (by omega) (.inr rfl) C.ok (by have := C.k; omega)
  have g0 : gIx (codeD f n rows) (.int 0) = some (.int f) := rfl
  have g1 : gIx (codeD f n rows) (.int 1) = some (.int (n : Int)) := rfl
  have g2 : gIx (codeD f n rows) (.int 2) = some (.tup (rows.map encR)) := rfl
  have ho : okLen n = true := ok_le (by omega)
  unfold q_standard_of fs_standard_of
  simp [g0, g1, g2, okR_nat (n := n) (by omega), dRange_zero, ho, e, a0']
  rfl
theorem standard_ok {f : Int} {n : Nat} {rows : List (List Int)} {S : Store} (C : CodeOk f n rows) : q_standard [codeD f n rows] S = .ok (codeD f n (stdRows f n rows)) S := by
  have h1 := need_code_ok (S := S) C
  have h2 := standard_of_ok (S := S) C
  unfold q_standard fs_standard
  simp [h1, h2]
end CB
set_option Elab.async false
set_option linter.all false
set_option maxRecDepth 100000
namespace CB
open PySem PySem.Spec PyProof.Rows L2
/-! likeness of a thing with itself -/
def plain : Nat → D → Bool
  | 0, _ => false
  | m + 1, .int _ => true
  | m + 1, .bl _ => true
  | m + 1, .non => true
  | m + 1, .str s => PyData.strOk s
  | m + 1, .tup xs => decide (xs.length ≤ 100000) && xs.all (plain m)
  | m + 1, .lst xs => decide (xs.length ≤ 100000) && xs.all (plain m)
  | m + 1, _ => false
theorem okR_nat' {n : Nat} (h : n ≤ 100000) : okR (n : Int) = true := okR_small (by omega) (by omega)
theorem alike_comp {q : Sem1} {xs : List D} {X : D} {x2 : Sl} {S : Store} (hX : ∀ i < xs.length, ∃ d, gIx X (.int (i : Int)) = some d ∧ q [d, d] S = .ok (.bl true) S) :
    compF (bName 3) (fNot (fB (fCall (fun ds S => noEx (q ds S)) (fCons (fBin gIx (fVar 0) (fVar 3)) (fCons (fBin gIx (fVar 1) (fVar 3)) fNil))))) (fVar 3) [.ro X, .ro X, x2, .no] ((List.range xs.length).map fun (i : Nat) => D.int (i : Int)) S = .ok [] S := by
  rw [compF_map (fun (i : Nat) => D.int (i : Int)) (fun _ => false) (fun i => D.int (i : Int)) (List.range xs.length) fun i hi => ⟨_, rfl, ?_, fun h => by cases h⟩]
  · rw [List.filter_eq_nil_iff.mpr (by simp)]; rfl
  · obtain ⟨d, h1, h2⟩ := hX i (by simpa using hi)
    simp [h1, h2]
theorem alike_self : ∀ (m : Nat) (d : D) (S : Store), plain m d = true → q_law_alike m [d, d] S = .ok (.bl true) S
  | 0, d, S, h => by cases h
  | m + 1, d, S, h => by
    have gn : ∀ {d : D}, tyN d = some "int" ∨ tyN d = some "bool" → gIsN d .non = some (.bl false) := fun {d} e => by
      cases d <;> simp [tyN] at e <;> rfl
    have hE : gEq (.lst []) (.lst []) = some (.bl true) := rfl
    have gnn : gIsN .non .non = some (.bl true) := rfl
    cases d <;> simp only [plain, Bool.and_eq_true, decide_eq_true_eq, reduceCtorEq, Bool.false_eq_true] at h
    · show q_law_alike (m + 1) [_, _] S = _
      unfold q_law_alike fs_law_alike
      simp [isB, tyNames, gnn]
    · show q_law_alike (m + 1) [_, _] S = _
      unfold q_law_alike fs_law_alike
      simp [isB, tyNames, gn]
    · show q_law_alike (m + 1) [_, _] S = _
      unfold q_law_alike fs_law_alike
      simp [isB, tyNames, gn]
    · rename_i s
      have g1 : gIsN (.str s) .non = some (.bl false) := rfl
      have g2 : gEq (.str s) (.str s) = some (.bl true) := by
        unfold gEq
        have hs : SeqAt.shaped (D.str s).py = true := by simpa [SeqAt.shaped, PyData.canLay0, PyData.depth, D.py] using h
        rw [if_pos (by rw [hs]; rfl)]
        simp [D.py, PyData.eqv]
      have g3 : tyN (.str s) = some "str" := rfl
      show q_law_alike (m + 1) [_, _] S = _
      unfold q_law_alike fs_law_alike
      simp [isB, tyNames, g1, g2, g3]
    · rename_i xs
      have hc := alike_comp (q := q_law_alike m) (xs := xs) (X := .tup xs) (x2 := .no) (S := S) fun i hi => ⟨xs[i], by rw [gIx_tup, atI_nat' hi, List.getElem?_eq_getElem hi], alike_self m _ S (List.all_eq_true.mp h.2 _ (List.getElem_mem hi))⟩
      have hl : okLen xs.length = true := ok_le (by omega)
      unfold q_law_alike fs_law_alike
      simp [isB, tyNames, okR_nat' h.1, dRange_zero, hl, hc, hE]
    · rename_i xs
      have hc := alike_comp (q := q_law_alike m) (xs := xs) (X := .lst xs) (x2 := .no) (S := S) fun i hi => ⟨xs[i], by rw [gIx_lst, atI_nat' hi, List.getElem?_eq_getElem hi], alike_self m _ S (List.all_eq_true.mp h.2 _ (List.getElem_mem hi))⟩
      have hl : okLen xs.length = true := ok_le (by omega)
      unfold q_law_alike fs_law_alike
      simp [isB, tyNames, okR_nat' h.1, dRange_zero, hl, hc, hE]
theorem plain_mono : ∀ {m : Nat} {d : D}, plain m d = true → plain (m + 1) d = true
  | 0, d, h => by cases h
  | m + 1, d, h => by
    cases d <;> simp only [plain, Bool.and_eq_true, decide_eq_true_eq, reduceCtorEq, Bool.false_eq_true] at h ⊢
    · exact h
    · exact ⟨h.1, List.all_eq_true.mpr fun x hx => plain_mono (List.all_eq_true.mp h.2 x hx)⟩
    · exact ⟨h.1, List.all_eq_true.mpr fun x hx => plain_mono (List.all_eq_true.mp h.2 x hx)⟩
theorem plain_row {r : List Int} (h : r.length ≤ 100000) : plain 2 (encR r) = true := by
  simp [encR, plain, h]
theorem plain_rows {rows : List (List Int)} (h : rows.length ≤ 100000) (hr : ∀ r ∈ rows, r.length ≤ 100000) : plain 3 (.lst (rows.map encR)) = true := by
  simp only [plain, Bool.and_eq_true, decide_eq_true_eq, List.length_map, h, true_and, List.all_map, List.all_eq_true, Function.comp]
  exact fun r hrr => plain_row (hr r hrr)
theorem plain_code {f : Int} {n : Nat} {rows : List (List Int)} (h : rows.length ≤ 100000) (hr : ∀ r ∈ rows, r.length ≤ 100000) : plain 4 (codeD f n rows) = true := by
  have : ∀ x ∈ rows, plain 2 (encR x) = true := fun r hrr => plain_row (hr r hrr)
  simp [codeD, plain, h]
  intro r hrr
  have := this r hrr
  simpa [plain] using this
/-! the law's row; weights -/
theorem law_row_ok {ns : List Int} (S : Store) : ∃ mixed, q_law_row [.fro (ns.map D.int)] S = .ok (.lst (curD ns 0 0 mixed)) S := by
  obtain ⟨ρ', S', e, rfl, m, x2, rfl⟩ := loopS_all (b := bName 2) (body := fb_law_row_1) D.int (fun pre ρ S' => S' = S ∧ ∃ m x2, ρ = [.ro (.fro (ns.map D.int)), .ro (.int m), x2]) ns [.ro (.fro (ns.map D.int)), .ro (.int 7), .no] S ⟨rfl, 7, .no, rfl⟩ fun pre x post ρ S' hs ⟨e1, m, x2, e2⟩ => by
    subst e1 e2
    refine ⟨_, _, _, rfl, ?_, rfl, (m * 48271 + x + 11) % 2147483647, .ro (.int x), rfl⟩
    have e1 : okMul m 48271 = true := okMul_r (by decide)
    unfold fb_law_row_1
    simp [e1]
  refine ⟨m, ?_⟩
  unfold q_law_row fs_law_row
  simp [e, curD]
def hv (w : List Int) : Nat := (w.filter fun x => decide (0 < x)).length
theorem heavy_ok {w : List Int} {S : Store} (h : w.length ≤ 1000) : q_law_heavy [encR w] S = .ok (.int (hv w : Int)) S := by
  have hc := compF_map (b := bName 1) (c := fB (fBin gGt (fVar 1) (fC (.int 0)))) (elt := fVar 1) (ρ := [.ro (encR w), .no]) (S := S) D.int (fun x => decide (0 < x)) D.int w fun x hx => ⟨_, rfl, by simp, fun _ => by simp⟩
  have hl : okLen w.length = true := ok_le (by omega)
  have hI : ∀ {ρ : En} {S : Store}, (fIter (fVar 0)) (.ro (encR w) :: ρ) S = .ok (w.map D.int) S := by intros; simp [encR]
  unfold q_law_heavy fs_law_heavy
  simp [-fIter_at, hI, hl, hc, hv]
end CB
set_option Elab.async false
set_option linter.all false
set_option maxRecDepth 100000
namespace CB
open PySem PySem.Spec PyProof.Rows L2
/-! a list without its repeats -/
section
variable {α : Type} [DecidableEq α]
def dd1 (acc : List α) (w : α) : List α := if w ∈ acc then acc else acc ++ [w]
def dd (xs : List α) : List α := xs.foldl dd1 []
theorem dd_snoc (xs : List α) (x : α) : dd (xs ++ [x]) = dd1 (dd xs) x := by unfold dd; rw [List.foldl_append]; rfl
theorem dd_mem (xs : List α) : ∀ w, w ∈ dd xs ↔ w ∈ xs := by
  refine snoc_rec (P := fun xs => ∀ w, w ∈ dd xs ↔ w ∈ xs) (by simp [dd]) (fun rs r ih w => ?_) xs
  rw [dd_snoc, dd1]
  split
  · rename_i h
    rw [ih] at h
    rw [ih]; simp only [List.mem_append, List.mem_singleton]
    exact ⟨.inl, fun z => z.elim id fun e => by rw [e]; exact h⟩
  · simp [ih]
theorem dd_nodup (xs : List α) : (dd xs).Nodup := by
  refine snoc_rec (P := fun xs => (dd xs).Nodup) (by simp [dd]) (fun rs r ih => ?_) xs
  rw [dd_snoc, dd1]
  split
  · exact ih
  · rename_i h
    rw [List.nodup_append]
    exact ⟨ih, by simp, fun a ha b hb e => h (by
      have : b = r := by simpa using hb
      rw [← this, ← e]; exact ha)⟩
theorem dd_len (xs : List α) : (dd xs).length ≤ xs.length := nodup_le (dd_nodup xs) fun x hx => (dd_mem xs x).mp hx
theorem putKs_map {β : Type} [DecidableEq β] {g : α → β} (inj : ∀ a b, g a = g b → a = b) (acc : List α) (w : α) : putKs (acc.map g) (g w) = (dd1 acc w).map g := by
  unfold putKs dd1
  have : g w ∈ acc.map g ↔ w ∈ acc := by
    rw [List.mem_map]
    exact ⟨fun ⟨a, ha, e⟩ => by rw [← inj a w e]; exact ha, fun h => ⟨w, h, rfl⟩⟩
  by_cases h : w ∈ acc
  · rw [if_pos (this.mpr h), if_pos h]
  · rw [if_neg (fun z => h (this.mp z)), if_neg h, List.map_append]; rfl
theorem putVs_imm {ks : List α} {vs : List D} {k : α} {v : D} (hv : v.imm = true) (h : immL vs = true) : immL (putVs ks vs k v) = true := by
  unfold putVs
  split
  · exact immL_mapV hv h
  · simp [h, hv]
end
def keyR (w : List Int) : List Key := w.map Sum.inl
theorem keyR_inj (a b : List Int) (h : keyR a = keyR b) : a = b := by
  unfold keyR at h
  induction a generalizing b with
  | nil => cases b with
    | nil => rfl
    | cons y b => simp at h
  | cons x a ih => cases b with
    | nil => simp at h
    | cons y b =>
      simp only [List.map_cons, List.cons.injEq, Sum.inl.injEq] at h
      rw [h.1, ih b h.2]
theorem dictOf_rows : ∀ (ws acc : List (List Int)) (vs : List D), immL vs = true → ∃ vs', dictOf (ws.map fun w => .tup [encR w, .bl true]) (acc.map keyR) vs = some ((ws.foldl dd1 acc).map keyR, vs') ∧ immL vs' = true
  | [], acc, vs, h => ⟨vs, rfl, h⟩
  | w :: ws, acc, vs, h => by
    obtain ⟨vs', e, hi⟩ := dictOf_rows ws (dd1 acc w) (putVs (acc.map keyR) vs (keyR w) (.bl true)) (putVs_imm rfl h)
    refine ⟨vs', ?_, hi⟩
    have : tupKD (encR w) = some (keyR w) := tupKD_enc w
    simp only [List.map_cons, dictOf, this, Option.bind_some, putKs_map keyR_inj, e, List.foldl_cons]
theorem gDict_rows (ws : List (List Int)) : ∃ vs, gDict [.lst (ws.map fun w => .tup [encR w, .bl true])] = some (.dT ((dd ws).map keyR) vs) ∧ immL vs = true := by
  obtain ⟨vs, e, hi⟩ := dictOf_rows ws [] [] rfl
  refine ⟨vs, ?_, hi⟩
  show (dictOf (ws.map fun w => D.tup [encR w, .bl true]) [] []).map _ = _
  rw [show ([] : List (List Key)) = ([] : List (List Int)).map keyR from rfl, e]; rfl
theorem gListD_rows (ws : List (List Int)) (vs : List D) : gListD [.dT (ws.map keyR) vs] = some (.lst (ws.map encR)) := by
  show some (D.lst ((ws.map keyR).map tupKV)) = _
  rw [List.map_map]
  congr 2
  refine List.map_congr_left fun w _ => ?_
  simp only [Function.comp, keyR, tupKV, encR, List.map_map]
  rfl
theorem gDIn_row {w : List Int} {ws : List (List Int)} {vs : List D} : gDNotIn (encR w) (.dT (ws.map keyR) vs) = some (.bl (!decide (w ∈ ws))) := by
  have : tupKD (encR w) = some (keyR w) := tupKD_enc w
  have hm : keyR w ∈ ws.map keyR ↔ w ∈ ws := by
    rw [List.mem_map]
    exact ⟨fun ⟨a, ha, e⟩ => by rw [← keyR_inj a w e]; exact ha, fun h => ⟨w, h, rfl⟩⟩
  unfold gDNotIn hasD
  rw [this]
  have e : memK (ws.map keyR) (keyR w) = decide (w ∈ ws) := by
    unfold memK
    exact decide_eq_decide.mpr hm
  show some (D.bl (!memK (ws.map keyR) (keyR w))) = _
  rw [e]
/-! the places of first digits -/
def isLead (n : Nat) (w : List Int) (j : Nat) : Prop := j < n ∧ 0 < gd w j ∧ ∀ i < j, ¬ 0 < gd w i
def keyJ (j : Nat) : Key := Sum.inl (j : Int)
theorem keyJ_inj (a b : Nat) (h : keyJ a = keyJ b) : a = b := by
  have := Sum.inl.inj h
  omega
theorem head_lead {n : Nat} {w : List Int} {j : Nat} : isLead n w j ↔ ((List.range n).filter fun i => decide (0 < gd w i)).head? = some j := by
  rw [List.head?_filter, List.find?_range_eq_some]
  unfold isLead
  simp only [decide_eq_true_eq, List.mem_range, decide_eq_false_iff_not, Bool.not_eq_true']
  constructor
  · rintro ⟨h1, h2, h3⟩
    exact ⟨h2, h1, h3⟩
  · rintro ⟨h2, h1, h3⟩
    exact ⟨h1, h2, h3⟩
theorem hv_pos {n : Nat} {w : List Int} (h : w.length = n) : (0 < hv w) ↔ ∃ j, isLead n w j := by
  unfold hv
  rw [List.length_pos_iff_exists_mem]
  constructor
  · rintro ⟨x, hx⟩
    obtain ⟨hm, hp⟩ := List.mem_filter.mp hx
    obtain ⟨i, hi, rfl⟩ := List.getElem_of_mem hm
    have : ((List.range n).filter fun i => decide (0 < gd w i)) ≠ [] := fun z => by
      rw [List.filter_eq_nil_iff] at z
      refine z i (by simp; omega) ?_
      unfold gd
      rw [List.getD_eq_getElem?_getD, List.getElem?_eq_getElem hi]
      simpa using hp
    cases e : ((List.range n).filter fun i => decide (0 < gd w i)) with
    | nil => exact absurd e this
    | cons j l => exact ⟨j, head_lead.mpr (by rw [e]; rfl)⟩
  · rintro ⟨j, h1, h2, _⟩
    refine ⟨w[j]'(by omega), List.mem_filter.mpr ⟨List.getElem_mem _, ?_⟩⟩
    unfold gd at h2
    rw [List.getD_eq_getElem?_getD, List.getElem?_eq_getElem (by omega)] at h2
    simpa using h2
theorem lead_unique {n : Nat} {w : List Int} {i j : Nat} (h : isLead n w i) (g : isLead n w j) : i = j := by
  rw [head_lead] at h g
  rw [h] at g
  exact Option.some.inj g
end CB
set_option Elab.async false
set_option linter.all false
set_option maxRecDepth 100000
namespace CB
open PySem PySem.Spec PyProof.Rows L2
@[simp] theorem sPutD_at {ρ : En} {S : Store} {i : Nat} {fk fe : F D} : sPutD i fk fe ρ S = (fe ρ S).toS fun v S => match ρ[i]? with
  | some (.own d) => (fk ρ S).toS fun k S => match gDPut d k v with
    | some d' => .nx (ρ.set i (.own d')) S
    | none => .no
  | _ => .no := rfl
@[simp] theorem sPar2_at {ρ : En} {S : Store} {i j : Nat} {f g : F D} : sPar2 i j f g ρ S = (f ρ S).toS fun a S => (g ρ S).toS fun b S => match (putSl i a ρ).bind fun ρ1 => putSl j b ρ1 with
  | some ρ2 => .nx ρ2 S
  | none => .no := rfl
@[simp] theorem fKeysF_at {ρ : En} {S : Store} {f : F D} : fKeysF f ρ S = (f ρ S).bind fun d S => match d with
  | .fdk xs => .ok xs S
  | _ => .no := rfl
@[simp] theorem fLockT_at {ρ : En} {S : Store} {i : Nat} {f : F Bool} : fLockT i f ρ S = (match ρ[i]? with
  | some (.own d) => match keysF d with
    | some xs => (f (ρ.set i (.ro (.fdk xs))) S).bindN fun y S => .ok y S
    | none => .no
  | _ => .no) := rfl
theorem lead_comp {n : Nat} {w : List Int} {ρ : En} {S : Store} (hw : w.length = n) (e4 : ∀ x, (ρ.set 6 x)[4]? = some (.ro (encR w))) (e6 : ∀ x, (ρ.set 6 x)[6]? = some x) :
    compF (bName 6) (fB (fBin gGt (fBin gIx (fVar 4) (fVar 6)) (fC (.int 0)))) (fVar 6) ρ ((List.range n).map fun (i : Nat) => D.int (i : Int)) S = .ok (((List.range n).filter fun i => decide (0 < gd w i)).map fun (i : Nat) => D.int (i : Int)) S :=
  compF_map (fun (i : Nat) => D.int (i : Int)) (fun i => decide (0 < gd w i)) (fun i => D.int (i : Int)) (List.range n) fun i hi => ⟨_, rfl, by
    have hi' : i < w.length := by rw [hw]; simpa using hi
    simp only [fB_at, fBin_at, fVar_at, fC_at, e4, e6, Out.bind_ok, gIx_enc hi', ofOpt_some, gGt_at], fun _ => by simp only [fVar_at, e6]⟩
theorem firsts_body {f : Int} {n : Nat} {X : D} {ls : List Nat} {vs : List D} {w : List Int} {S : Store} (hn : n ≤ 1000) (hw : w.length = n) (hl : ls.length ≤ 100000) (hv' : immL vs = true) :
    ∃ ls' vs', fb_law_steps_1 [.ro (.int f), .ro (.int (n : Int)), .ro X, .own (.dK (ls.map keyJ) vs), .ro (encR w), .no, .no, .no, .no] S =
      .nx [.ro (.int f), .ro (.int (n : Int)), .ro X, .own (.dK (ls'.map keyJ) vs'), .ro (encR w), .no, .no, .no, .no] S ∧ immL vs' = true ∧ (ls' = ls ∧ (∀ j, ¬ isLead n w j) ∨ ∃ j, isLead n w j ∧ ls' = dd1 ls j) := by
  have hh := heavy_ok (w := w) (S := S) (by omega)
  have hc := lead_comp (n := n) (w := w) (ρ := [.ro (.int f), .ro (.int (n : Int)), .ro X, .own (.dK (ls.map keyJ) vs), .ro (encR w), .no, .no, .no, .no]) (S := S) hw (fun _ => rfl) (fun _ => rfl)
  have ho : okLen n = true := ok_le (by omega)
  by_cases hp : 0 < hv w
  · obtain ⟨j, hj⟩ := (hv_pos hw).mp hp
    have hh0 := head_lead.mp hj
    cases e : ((List.range n).filter fun i => decide (0 < gd w i)) with
    | nil => rw [e] at hh0; cases hh0
    | cons j' l =>
      rw [e] at hh0
      have : j' = j := Option.some.inj hh0
      subst this
      rw [e] at hc
      have hlk : okLen (ls.length + 1) = true := ok_le (by omega)
      have hput : gDPut (.dK (ls.map keyJ) vs) (.int (j' : Int)) (.bl true) = some (.dK ((dd1 ls j').map keyJ) (putVs (ls.map keyJ) vs (keyJ j') (.bl true))) := by
        rw [← putKs_map keyJ_inj]
        show (if _ then some (D.dK (putKs (ls.map keyJ) (keyJ j')) _) else none) = _
        rw [if_pos (by simp [hlk])]
        rfl
      refine ⟨dd1 ls j', _, ?_, putVs_imm (ks := ls.map keyJ) (vs := vs) (k := keyJ j') (v := .bl true) rfl hv', .inr ⟨j', hj, rfl⟩⟩
      unfold fb_law_steps_1
      have hp' : (0 : Int) < (hv w : Int) := by omega
      simp [hh, hp', okR_nat (n := n) hn, dRange_zero, ho, hc, a0', hput]
      intro h0; omega
  · refine ⟨ls, vs, ?_, hv', .inl ⟨rfl, fun j hj => hp ((hv_pos hw).mpr ⟨j, hj⟩)⟩⟩
    unfold fb_law_steps_1
    have hp' : ¬ (0 : Int) < (hv w : Int) := by omega
    simp [hh, hp']
    intro h0; exact absurd h0 hp
def pick1 (p : Nat) (w : List Int) : Bool := (gd w p == 1) && ((hv (w.take p) : Int) == 0)
def pick2 (ls : List Nat) (p : Nat) (w : List Int) : Bool := (ls.filter fun j => decide (p < j) && decide (0 < gd w j)).isEmpty
theorem hv_take {n p : Nat} {f : Int} {w : List Int} (h : RowOk f n w) (hp : p < n) : hv (w.take p) = 0 ↔ ∀ i < p, gd w i = 0 := by
  unfold hv
  rw [List.length_eq_zero_iff, List.filter_eq_nil_iff]
  constructor
  · intro e i hi
    have hiw : i < w.length := by rw [h.len]; omega
    have hm : w[i] ∈ w.take p := by
      rw [List.mem_take_iff_getElem]
      exact ⟨i, by omega, rfl⟩
    have := e _ hm
    have g := h.dig _ (List.getElem_mem hiw)
    unfold gd
    rw [List.getD_eq_getElem?_getD, List.getElem?_eq_getElem hiw]
    simp at this ⊢
    omega
  · intro e x hx
    rw [List.mem_take_iff_getElem] at hx
    obtain ⟨i, hi, rfl⟩ := hx
    have hiw : i < w.length := by omega
    have := e i (by omega)
    unfold gd at this
    rw [List.getD_eq_getElem?_getD, List.getElem?_eq_getElem hiw] at this
    simp at this
    simp [this]
theorem pick_body {f : Int} {n p : Nat} {L acc : List (List Int)} {ls : List Nat} {vs : List D} {x4 x7 : Sl} {S : Store} (hn : n ≤ 1000) (hp : p < n) (hL : ∀ w ∈ L, w.length = n) (hLl : L.length ≤ 100000) (hls : ∀ j ∈ ls, j < n) (hll : ls.length ≤ 1000)
    (hal : acc.length ≤ 100000) : ∃ x7', fb_law_steps_2 [.ro (.int f), .ro (.int (n : Int)), .ro (.lst (L.map encR)), .own (.dK (ls.map keyJ) vs), x4, .ro (.lst (acc.map encR)), .ro (.int (p : Int)), x7, .no] S =
      .nx [.ro (.int f), .ro (.int (n : Int)), .ro (.lst (L.map encR)), .own (.dK (ls.map keyJ) vs), x4, .ro (.lst ((acc ++ (L.filter (pick1 p)).filter (pick2 ls p)).map encR)), .ro (.int (p : Int)), x7', .no] S := by
  have hc1 := compF_map (b := bName 4) (c := fAnd (fB (fBin gEq (fBin gIx (fVar 4) (fVar 6)) (fC (.int 1)))) (fB (fBin gEq (fCall (fun ds S => noEx (q_law_heavy ds S)) (fCons (fSl (fVar 4) fNoPart (fPart (fVar 6))) fNil)) (fC (.int 0))))) (elt := fVar 4)
    (ρ := [.ro (.int f), .ro (.int (n : Int)), .ro (.lst (L.map encR)), .own (.dK (ls.map keyJ) vs), .no, .ro (.lst (acc.map encR)), .ro (.int (p : Int)), x7, .no]) (S := S) encR (pick1 p) encR L fun w hw => ⟨_, rfl, by
      have hpw : p < w.length := by rw [hL w hw]; exact hp
      have hh := heavy_ok (w := w.take p) (S := S) (by simp; omega)
      have hs : gSl (encR w) none (some (p : Int)) = some (encR (w.take p)) := by
        show some (D.tup (((w.map D.int).drop (HT.sIx (w.map D.int).length 0 none)).take (HT.sIx (w.map D.int).length (w.map D.int).length (some (p : Int)) - HT.sIx (w.map D.int).length 0 none))) = _
        rw [HT.sIx_nat, HT.sIx_none, List.length_map, Nat.min_eq_left (by omega), List.drop_zero, Nat.sub_zero, ← List.map_take]
        rfl
      simp [gIx_enc hpw, hs, hh, pick1]
      by_cases h1 : gd w p = 1 <;> simp [h1], fun _ => by simp⟩
  have hc2 := compF_map (b := bName 4) (c := fLockT 3 (fB (fBin gEq (fComp (fKeysF (fVar 3)) (bName 8) (fAnd (fB (fBin gGt (fVar 8) (fVar 6))) (fB (fBin gGt (fBin gIx (fVar 4) (fVar 8)) (fC (.int 0))))) (fVar 8) [8]) (fLst fNil)))) (elt := fVar 4)
    (ρ := [.ro (.int f), .ro (.int (n : Int)), .ro (.lst (L.map encR)), .own (.dK (ls.map keyJ) vs), .no, .ro (.lst (acc.map encR)), .ro (.int (p : Int)), .own (.lst ((L.filter (pick1 p)).map encR)), .no]) (S := S) encR (pick2 ls p) encR (L.filter (pick1 p)) fun w hw => ⟨_, rfl, by
      have hw' := (List.mem_filter.mp hw).1
      have hk : (ls.map keyJ).map kD = ls.map fun (j : Nat) => D.int (j : Int) := by rw [List.map_map]; rfl
      have hi := compF_map (b := bName 8) (c := fAnd (fB (fBin gGt (fVar 8) (fVar 6))) (fB (fBin gGt (fBin gIx (fVar 4) (fVar 8)) (fC (.int 0))))) (elt := fVar 8)
        (ρ := [.ro (.int f), .ro (.int (n : Int)), .ro (.lst (L.map encR)), .ro (.fdk (ls.map fun (j : Nat) => D.int (j : Int))), .ro (encR w), .ro (.lst (acc.map encR)), .ro (.int (p : Int)), .own (.lst ((L.filter (pick1 p)).map encR)), .no]) (S := S) (fun (j : Nat) => D.int (j : Int)) (fun j => decide (p < j) && decide (0 < gd w j)) (fun (j : Nat) => D.int (j : Int)) ls fun j hj => ⟨_, rfl, by
          have hjw : j < w.length := by rw [hL w hw']; exact hls j hj
          simp [gIx_enc hjw]
          by_cases h1 : p < j <;> simp [h1], fun _ => by simp⟩
      have hok : okLen ls.length = true := ok_le (by omega)
      have hkf : keysF (.dK (ls.map keyJ) vs) = some (ls.map fun (j : Nat) => D.int (j : Int)) := by rw [← hk]; rfl
      have hg := gEq_ints (r := (ls.filter fun j => decide (p < j) && decide (0 < gd w j)).map fun (j : Nat) => (j : Int))
      rw [List.map_map] at hg
      have hg : gEq (.lst ((ls.filter fun j => decide (p < j) && decide (0 < gd w j)).map fun (j : Nat) => D.int (j : Int))) (.lst []) = some (.bl (pick2 ls p w)) := by
        rw [show (fun (j : Nat) => D.int (j : Int)) = D.int ∘ fun (j : Nat) => (j : Int) from rfl, hg, pick2]
        simp
      simp [hkf, hok, hi, hg], fun _ => by simp⟩
  have o1 : okLen L.length = true := ok_le (by omega)
  have o2 : okLen (L.filter (pick1 p)).length = true := ok_le (by have := List.length_filter_le (pick1 p) L; omega)
  have o3 : okLen (acc.length + ((L.filter (pick1 p)).filter (pick2 ls p)).length) = true := ok_le (by have := List.length_filter_le (pick1 p) L; have := List.length_filter_le (pick2 ls p) (L.filter (pick1 p)); omega)
  refine ⟨.own (.lst (((L.filter (pick1 p)).filter (pick2 ls p)).map encR)), ?_⟩
  unfold fb_law_steps_2
  simp only [sSeq_at, sSetO_at, sSet_at, fComp_at, fIter_at, fOwnL_at, fVar_at, fVarO_at, fImm1_at, fBin_at, List.getElem?_cons_succ, List.getElem?_cons_zero, Out.bind_ok, List.length_map, o1, o2, if_true, wipeE_cons, wipeE_nil, List.set_cons_succ, List.set_cons_zero, hc1, Out.toS_ok, isC_lst, topImm_lst, immL_encs, Bool.and_self, hc2, gAdd_lst, o3, ofOpt_some, immL_app, List.map_append]
end CB
set_option Elab.async false
set_option linter.all false
set_option maxRecDepth 100000
namespace CB
open PySem PySem.Spec PyProof.Rows L2
theorem gSortedD_leads {ls : List Nat} {vs : List D} {ps : List Nat} (hl : ls.length < 64) (hn : ls.Nodup) (hp : ps.Pairwise (· < ·)) (hm : ∀ j, j ∈ ls ↔ j ∈ ps) : gSortedD [.dK (ls.map keyJ) vs] = some (.lst (ps.map fun (j : Nat) => D.int (j : Int))) := by
  have e : ls.map keyJ = (ls.map fun (j : Nat) => (j : Int)).map Sum.inl := by rw [List.map_map]; rfl
  have hs : ps.map (fun (j : Nat) => (j : Int)) = sortI (ls.map fun (j : Nat) => (j : Int)) := by
    refine sortI_eq (List.Perm.map _ ?_) ?_
    · refine (List.perm_ext_iff_of_nodup ?_ hn).mpr fun a => (hm a).symm
      rw [List.nodup_iff_pairwise_ne]
      exact hp.imp fun h => by omega
    · rw [List.pairwise_map]
      exact hp.imp fun h => by omega
  unfold gSortedD
  simp only [e, inlsOf_map, Option.bind_some]
  rw [if_pos (by simpa using hl), ← hs, List.map_map]
  rfl
section
variable {f : Int} {n : Nat} {rows : List (List Int)}
theorem lead_iff {s : StepSt} {due : List (List Int)} (hf : 2 ≤ f) (h : StepOk f n rows n s) (hdue : ∀ w, w ∈ due ↔ Sp f n (s.found.map Prod.snd) w) (j : Nat) : (∃ w ∈ due, isLead n w j) ↔ j ∈ s.found.map Prod.fst := by
  have f0 : 0 < f := by omega
  constructor
  · rintro ⟨w, hw, h1, h2, h3⟩
    have sp := (hdue w).mp hw
    have ow := sp.ok f0 h.okF
    obtain ⟨q, hq, e⟩ := sp_lead hf h sp h1 (fun i hi => by have := h3 i hi; have := (ow.gd f0 i).1; omega) (by omega)
    exact List.mem_map.mpr ⟨q, hq, e⟩
  · intro hj
    obtain ⟨q, hq, rfl⟩ := List.mem_map.mp hj
    refine ⟨q.2, (hdue _).mpr (Sp.mem f0 h.okF (List.mem_map.mpr ⟨q, hq, rfl⟩)), h.lt q hq, by rw [h.one q hq]; omega, fun i hi => by rw [h.zf q hq i hi]; omega⟩
theorem fit_one {s : StepSt} {L : List (List Int)} {ls : List Nat} (hf : 2 ≤ f) (h : StepOk f n rows n s) (hL : ∀ w, w ∈ L ↔ Sp f n (s.found.map Prod.snd) w) (hn : L.Nodup) (hls : ∀ j, j ∈ ls ↔ j ∈ s.found.map Prod.fst) {q : Nat × List Int} (hq : q ∈ s.found) :
    (L.filter (pick1 q.1)).filter (pick2 ls q.1) = [q.2] := by
  have f0 : 0 < f := by omega
  have hqm : q.2 ∈ s.found.map Prod.snd := List.mem_map.mpr ⟨q, hq, rfl⟩
  have hlt := h.lt q hq
  rw [List.filter_filter]
  refine filter_one hn ((hL _).mpr (Sp.mem f0 h.okF hqm)) fun w hw => ?_
  have sp := (hL w).mp hw
  have ow := sp.ok f0 h.okF
  have oq := h.okF _ hqm
  have p1 : ∀ {v}, RowOk f n v → (pick1 q.1 v = true ↔ gd v q.1 = 1 ∧ ∀ i < q.1, gd v i = 0) := fun {v} hv' => by
    unfold pick1
    rw [Bool.and_eq_true, beq_iff_eq, beq_iff_eq, ← hv_take hv' hlt]
    constructor
    · rintro ⟨a, b⟩; exact ⟨a, by omega⟩
    · rintro ⟨a, b⟩; exact ⟨a, by omega⟩
  have p2 : ∀ {v}, pick2 ls q.1 v = true ↔ ∀ j ∈ ls, ¬ (q.1 < j ∧ 0 < gd v j) := fun {v} => by
    unfold pick2
    rw [List.isEmpty_iff, List.filter_eq_nil_iff]
    simp
  rw [Bool.and_eq_true, p1 ow, p2]
  constructor
  · rintro ⟨a, b, c⟩
    refine sp_unique hf h sp (Sp.mem f0 h.okF hqm) fun q' hq' => ?_
    by_cases e : q'.1 = q.1
    · rw [e, b, h.one q hq]
    · rw [h.oth q hq q' hq' (fun z => e z.symm)]
      by_cases hl : q'.1 < q.1
      · exact c _ hl
      · have := a q'.1 ((hls _).mpr (List.mem_map.mpr ⟨q', hq', rfl⟩))
        have := (ow.gd f0 q'.1).1
        omega
  · rintro rfl
    refine ⟨fun j hj ⟨h1, h2⟩ => ?_, h.one q hq, h.zf q hq⟩
    obtain ⟨q', hq', rfl⟩ := List.mem_map.mp ((hls j).mp hj)
    rw [h.oth q hq q' hq' (by omega)] at h2
    omega
/-- rows that steps can be made of -/
structure RowsIn (f : Int) (n : Nat) (rows : List (List Int)) : Prop where
  f2 : 2 ≤ f
  f3 : f ≤ 3
  n10 : n ≤ 10
  ok : AllOk f n rows
  k : rows.length ≤ 10
theorem CodeOk.rowsIn (C : CodeOk f n rows) : RowsIn f n rows := ⟨C.f2, C.f3, C.n10, C.ok, C.k⟩
theorem law_steps_ok {due : List (List Int)} {S : Store} (C : RowsIn f n rows) (hdue : ∀ w, w ∈ due ↔ Sp f n rows w) (hl : due.length ≤ 10000) : q_law_steps [.int f, .int (n : Int), .lst (due.map encR)] S = .ok (.tup ((stdRows f n rows).map encR)) S := by
  have h2 := C.f2
  have n10 := C.n10
  have f0 : 0 < f := by omega
  have h := steps_ok C.f2 C.f3 C.ok
  generalize hs : stepsP f n rows = s at h
  have hdue' : ∀ w, w ∈ dd due ↔ Sp f n (s.found.map Prod.snd) w := fun w => by rw [dd_mem, hdue, sp_found h2 C.ok h]
  have hLn : ∀ w ∈ dd due, w.length = n := fun w hw => ((hdue' w).mp hw |>.ok f0 h.okF).len
  have hLl : (dd due).length ≤ 10000 := Nat.le_trans (dd_len due) hl
  obtain ⟨vs0, hg, _⟩ := gDict_rows due
  -- the leads
  obtain ⟨ρ', S', e, rfl, ls, vs, x4, hvi, hnd, hlen, hmem, rfl⟩ := loopS_all (b := bName 4) (body := fb_law_steps_1) encR (fun pre ρ S' => S' = S ∧ ∃ ls vs x4, immL vs = true ∧ ls.Nodup ∧ ls.length ≤ pre.length ∧ (∀ j, j ∈ ls ↔ ∃ w ∈ pre, isLead n w j) ∧
      ρ = [.ro (.int f), .ro (.int (n : Int)), .ro (.lst ((dd due).map encR)), .own (.dK (ls.map keyJ) vs), x4, .no, .no, .no, .no]) (dd due) [.ro (.int f), .ro (.int (n : Int)), .ro (.lst ((dd due).map encR)), .own (.dK [] []), .no, .no, .no, .no, .no] S ⟨rfl, [], [], .no, rfl, by simp, by simp, by simp, rfl⟩ fun pre w post ρ S' hsp ⟨e1, ls, vs, x4, hvi, hnd, hlen, hmem, e2⟩ => by
    subst e1 e2
    have hpl : ls.length ≤ 100000 := by
      have := congrArg List.length hsp
      simp at this; omega
    obtain ⟨ls', vs', e, hi, hc⟩ := firsts_body (f := f) (n := n) (X := .lst ((dd due).map encR)) (ls := ls) (vs := vs) (w := w) (S := S') (by omega) (hLn w (by rw [hsp]; simp)) hpl hvi
    refine ⟨_, _, _, rfl, e, rfl, ls', vs', .ro (encR w), hi, ?_, ?_, ?_, rfl⟩
    · rcases hc with ⟨rfl, _⟩ | ⟨j, _, rfl⟩
      · exact hnd
      · unfold dd1; split
        · exact hnd
        · rename_i hj
          rw [List.nodup_append]
          exact ⟨hnd, by simp, fun a ha b hb e => hj (by
            have : b = j := by simpa using hb
            rw [← this, ← e]; exact ha)⟩
    · rcases hc with ⟨rfl, _⟩ | ⟨j, _, rfl⟩
      · simp; omega
      · unfold dd1; split
        · simp; omega
        · simp; omega
    · intro j
      rcases hc with ⟨rfl, hno⟩ | ⟨i, hi, rfl⟩
      · rw [hmem]
        constructor
        · rintro ⟨v, hv', h⟩; exact ⟨v, by simp [hv'], h⟩
        · rintro ⟨v, hv', h⟩
          rcases List.mem_append.mp hv' with hv' | hv'
          · exact ⟨v, hv', h⟩
          · have : v = w := by simpa using hv'
            subst this
            exact absurd h (hno j)
      · have : j ∈ dd1 ls i ↔ j ∈ ls ∨ j = i := by
          unfold dd1; split
          · rename_i hm
            exact ⟨.inl, fun z => z.elim id fun e => by rw [e]; exact hm⟩
          · simp
        rw [this, hmem]
        constructor
        · rintro (⟨v, hv', h⟩ | rfl)
          · exact ⟨v, by simp [hv'], h⟩
          · exact ⟨w, by simp, hi⟩
        · rintro ⟨v, hv', h⟩
          rcases List.mem_append.mp hv' with hv' | hv'
          · exact .inl ⟨v, hv', h⟩
          · have : v = w := by simpa using hv'
            subst this
            exact .inr (lead_unique h hi)
  have hls : ∀ j, j ∈ ls ↔ j ∈ s.found.map Prod.fst := fun j => by rw [hmem, lead_iff h2 h hdue']
  have hlsn : ∀ j ∈ ls, j < n := fun j hj => by
    obtain ⟨q, hq, rfl⟩ := List.mem_map.mp ((hls j).mp hj)
    exact h.lt q hq
  have hlsl : ls.length ≤ n := by
    have := nodup_le hnd (ys := List.range n) fun j hj => by simpa using hlsn j hj
    simpa using this
  have hpw : (s.found.map Prod.fst).Pairwise (· < ·) := by rw [List.pairwise_map]; exact h.pw
  have hsort := gSortedD_leads (vs := vs) (by omega) hnd hpw hls
  have hfl : s.found.length ≤ 10 := by have := h.len; have := C.k; omega
  -- the rows
  obtain ⟨ρ', S2, e5, rfl, y4, y6, y7, rfl⟩ := loopS_all (b := bName 6) (body := fb_law_steps_2) (fun q : Nat × List Int => D.int (q.1 : Int)) (fun pre ρ S2 => S2 = S' ∧ ∃ x4 x6 x7, ρ = [.ro (.int f), .ro (.int (n : Int)), .ro (.lst ((dd due).map encR)), .own (.dK (ls.map keyJ) vs), x4, .ro (.lst ((pre.map Prod.snd).map encR)), x6, x7, .no]) s.found
      [.ro (.int f), .ro (.int (n : Int)), .ro (.lst ((dd due).map encR)), .own (.dK (ls.map keyJ) vs), x4, .ro (.lst []), .no, .no, .no] S' ⟨rfl, x4, .no, .no, rfl⟩ fun pre q post ρ S2 hsp ⟨e1, x4, x6, x7, e2⟩ => by
    subst e1 e2
    have hq : q ∈ s.found := by rw [hsp]; simp
    have hpl : pre.length ≤ 10 := by
      have := congrArg List.length hsp
      simp at this; omega
    obtain ⟨x7', e⟩ := pick_body (f := f) (n := n) (p := q.1) (L := dd due) (acc := pre.map Prod.snd) (ls := ls) (vs := vs) (x4 := x4) (x7 := x7) (S := S2) (by omega) (h.lt q hq) hLn (by omega) hlsn (by omega) (by simp; omega)
    rw [fit_one h2 h hdue' (dd_nodup due) hls hq] at e
    exact ⟨_, _, _, rfl, e, rfl, x4, .ro (.int (q.1 : Int)), x7', by simp⟩
  have o1 : okLen due.length = true := ok_le (by omega)
  have hc := compF_all (b := bName 4) (elt := fImm (fTup (fCons (fVar 4) (fCons (fC (.bl true)) fNil)))) (ρ := [.ro (.int f), .ro (.int (n : Int)), .ro (.lst (due.map encR)), .no, .no, .no, .no, .no, .no]) (S := S2) encR (fun w => D.tup [encR w, .bl true]) due fun w hw => ⟨_, rfl, by simp⟩
  have hLD := gListD_rows (dd due) vs0
  rw [List.map_map] at hsort
  have hsort : gSortedD [.dK (ls.map keyJ) vs] = some (.lst (s.found.map fun q => D.int (q.1 : Int))) := hsort
  have him : immL (s.found.map fun q => D.int (q.1 : Int)) = true := by rw [immL_all]; simp
  unfold q_law_steps fs_law_steps stdRows
  rw [hs]
  simp [hc, o1, hg, hLD, putSl, e, hsort, him, e5, -List.map_map]
  rfl
end
end CB
set_option Elab.async false
set_option linter.all false
set_option maxRecDepth 100000
namespace CB
open PySem PySem.Spec PyProof.Rows L2
@[simp] theorem fDispT_at {ρ : En} {S : Store} {fk fv : F D} : fDispT fk fv ρ S = (fk ρ S).bind fun x S => (fv ρ S).bind fun y S => match tupKD x with
  | some k => if y.imm then .ok (.dT [k] [y]) S else .no
  | none => .no := rfl
@[simp] theorem tupKD_row {w : List Int} : tupKD (encR w) = some (keyR w) := tupKD_enc w
@[simp] theorem gMin2_at {a b : Int} : gMin2 [.int a, .int b] = some (.int (if b < a then b else a)) := rfl
@[simp] theorem gInt_bl {b : Bool} : gInt [.bl b] = some (.int (if b then 1 else 0)) := rfl
@[simp] theorem gInt_int {a : Int} : gInt [.int a] = some (.int a) := rfl
theorem units_ok [Base] {p : Addr} {S : Store} {n : Nat} {f : Int} {a1 a2 a3 a5 a6 a8 a9 : Sl} (h : Cur p S) (h2 : 2 ≤ f) (n1 : 1 ≤ n) (hn : n ≤ 1000) : ∃ r S', compF (bName 7) fYes (fApp gInt (fCons (fBin gEq (fVar 7) (fCall (fun ds S => noEx (q_law_taken ds S)) (fCons (fVar 0) (fCons (fVar 4) fNil)))) fNil))
    [.ro (.val (.ref p)), a1, a2, a3, .ro (.int (n : Int)), a5, a6, .no, a8, a9] ((List.range n).map fun (i : Nat) => D.int (i : Int)) S = .ok (r.map D.int) S' ∧ Cur p S' ∧ RowOk f n r := by
  obtain ⟨ys, S', e, c, hl, hy⟩ := compF_rel (b := bName 7) (elt := fApp gInt (fCons (fBin gEq (fVar 7) (fCall (fun ds S => noEx (q_law_taken ds S)) (fCons (fVar 0) (fCons (fVar 4) fNil)))) fNil)) (ρ := [.ro (.val (.ref p)), a1, a2, a3, .ro (.int (n : Int)), a5, a6, .no, a8, a9])
    (fun (i : Nat) => D.int (i : Int)) (Cur p) (fun y => ∃ v : Int, y = .int v ∧ 0 ≤ v ∧ v < f) (List.range n) S h fun x hx S hS => by
    obtain ⟨v, S2, e, c, b⟩ := taken_ok (m := (n : Int)) hS (by omega) (by omega)
    exact ⟨_, .int (if (x : Int) == v then 1 else 0), S2, rfl, by simp [e], c, _, rfl, by split <;> omega, by split <;> omega⟩
  obtain ⟨r, rfl, hr⟩ := ex_map ys hy
  exact ⟨r, S', e, c, by simpa using hl, hr⟩
theorem Indep.snoc {f : Int} {n : Nat} {rows : List (List Int)} {r : List Int} (h : Indep f n rows) (hr : ¬ Sp f n rows r) : Indep f n (rows ++ [r]) := fun pre x post e => by
  rcases List.eq_nil_or_concat post with rfl | ⟨p, y, rfl⟩
  · have := List.append_inj' e rfl
    obtain ⟨rfl, e2⟩ := this
    have : r = x := by simpa using e2
    rw [← this]; exact hr
  · have e' : rows ++ [r] = (pre ++ x :: p) ++ [y] := by rw [e]; simp
    obtain ⟨rfl, _⟩ := List.append_inj' e' rfl
    exact h pre x p rfl
/-- what the law's code has so far -/
structure SoFar (f : Int) (n : Nat) (rows W : List (List Int)) : Prop where
  ok : AllOk f n rows
  ind : Indep f n rows
  mem : ∀ w, w ∈ W ↔ Sp f n rows w
theorem code_body [Base] {p : Addr} {S : Store} {f : Int} {n : Nat} {rows W : List (List Int)} {vs : List D} {far most : Int} {k : Nat} {x8 : Sl} (hc : Cur p S) (h2 : 2 ≤ f) (h3 : f ≤ 3) (n1 : 1 ≤ n) (n10 : n ≤ 10) (h : SoFar f n rows W) (hk : rows.length ≤ 9) :
    ∃ rows' W' vs' x7' x8' S', fb_law_code_1 [.ro (.val (.ref p)), .ro (.int far), .ro (.int most), .ro (.int f), .ro (.int (n : Int)), .own (.lst (rows.map encR)), .own (.dT (W.map keyR) vs), .ro (.int (k : Int)), x8, .no] S =
      .nx [.ro (.val (.ref p)), .ro (.int far), .ro (.int most), .ro (.int f), .ro (.int (n : Int)), .own (.lst (rows'.map encR)), .own (.dT (W'.map keyR) vs'), x7', x8', .no] S' ∧ Cur p S' ∧ SoFar f n rows' W' ∧ rows'.length ≤ rows.length + 1 := by
  have f0 : 0 < f := by omega
  obtain ⟨r1, S1, e1, c1, o1⟩ := digits_ok (f := f) (n := n) hc (by omega) (by omega) (by omega)
  obtain ⟨v2, S2, e2, c2, _, _⟩ := taken_ok (m := 4) c1 (by omega) (by omega)
  -- the row that is tried
  have first : ∃ (r : List Int) (S3 : Store), (sIf (fAnd (fB (fBin gEq (fCall (fun ds S => noEx (q_law_taken ds S)) (fCons (fVar 0) (fCons (fC (.int 4)) fNil))) (fC (.int 0)))) (fB (fBin gNe (fVarO 5) (fLst fNil)))) (sSet 8 (fImm (fApp gTuple
      (fCons (fComp (fAppL gRange1 (fCons (fVar 4) fNil)) (bName 7) fYes (fApp gInt (fCons (fBin gEq (fVar 7) (fCall (fun ds S => noEx (q_law_taken ds S)) (fCons (fVar 0) (fCons (fVar 4) fNil)))) fNil)) [7]) fNil)))) sSkip)
      [.ro (.val (.ref p)), .ro (.int far), .ro (.int most), .ro (.int f), .ro (.int (n : Int)), .own (.lst (rows.map encR)), .own (.dT (W.map keyR) vs), .ro (.int (k : Int)), .ro (encR r1), .no] S1 =
      .nx [.ro (.val (.ref p)), .ro (.int far), .ro (.int most), .ro (.int f), .ro (.int (n : Int)), .own (.lst (rows.map encR)), .own (.dT (W.map keyR) vs), .ro (.int (k : Int)), .ro (encR r), .no] S3 ∧ Cur p S3 ∧ RowOk f n r := by
    by_cases hz : v2 = 0 ∧ rows.isEmpty = false
    · obtain ⟨r, S3, e3, c3, o3⟩ := units_ok (f := f) (a1 := .ro (.int far)) (a2 := .ro (.int most)) (a3 := .ro (.int f)) (a5 := .own (.lst (rows.map encR))) (a6 := .own (.dT (W.map keyR) vs)) (a8 := .ro (encR r1)) (a9 := .no) c2 h2 n1 (by omega)
      refine ⟨r, S3, ?_, c3, o3⟩
      have ho : okLen n = true := ok_le (by omega)
      simp [e2, hz.1, hz.2, okR_nat (n := n) (by omega), dRange_zero, ho, e3]
      rfl
    · refine ⟨r1, S2, ?_, c2, o1⟩
      by_cases h0 : v2 = 0
      · have : rows.isEmpty = true := by
          cases hE : rows.isEmpty with
          | true => rfl
          | false => exact absurd ⟨h0, hE⟩ hz
        simp [e2, h0, this]
      · simp [e2, h0]
  obtain ⟨r, S3, e3, c3, o3⟩ := first
  have e1' : (sSet 8 (fCall (fun ds S => noEx (q_law_digits ds S)) (fCons (fVar 0) (fCons (fVar 3) (fCons (fVar 4) fNil))))) [.ro (.val (.ref p)), .ro (.int far), .ro (.int most), .ro (.int f), .ro (.int (n : Int)), .own (.lst (rows.map encR)), .own (.dT (W.map keyR) vs), .ro (.int (k : Int)), x8, .no] S =
    .nx [.ro (.val (.ref p)), .ro (.int far), .ro (.int most), .ro (.int f), .ro (.int (n : Int)), .own (.lst (rows.map encR)), .own (.dT (W.map keyR) vs), .ro (.int (k : Int)), .ro (encR r1), .no] S1 := by simp [e1]
  unfold fb_law_code_1
  rw [sSeq_at, e1']
  simp only
  rw [sSeq_at, e3]
  simp only
  by_cases hw : r ∈ W
  · refine ⟨rows, W, vs, .ro (.int (k : Int)), .ro (encR r), S3, ?_, c3, h, Nat.le_succ _⟩
    have := gDIn_row (w := r) (ws := W) (vs := vs)
    rw [decide_eq_true hw] at this
    simp only [sIf_at, fB_at, fBin_at, fVar_at, fVarO_at, List.getElem?_cons_succ, List.getElem?_cons_zero, Out.bind_ok, this, ofOpt_some, Bool.not_true, Out.toS_ok, sSkip_at, Bool.false_eq_true, if_false]
  · have hno : ¬ Sp f n rows r := fun z => hw ((h.mem r).mpr z)
    have ok' : AllOk f n (rows ++ [r]) := fun x hx => by
      rcases List.mem_append.mp hx with hx | hx
      · exact h.ok x hx
      · have : x = r := by simpa using hx
        rw [this]; exact o3
    have hsp := span_ok (S := S3) (X := .lst ((rows ++ [r]).map encR)) h2 h3 (n := n) (by omega) (.inl rfl) ok' (by simp; omega)
    have hsl : (spanL f n (rows ++ [r])).length ≤ 59049 := by rw [spanL_len]; exact pows h3 (by simp; omega)
    have os : okLen (spanL f n (rows ++ [r])).length = true := ok_le (by omega)
    obtain ⟨vs', hg, hvi⟩ := gDict_rows (spanL f n (rows ++ [r]))
    have hcc := compF_all (b := bName 9) (elt := fImm (fTup (fCons (fVar 9) (fCons (fC (.bl true)) fNil)))) (ρ := [.ro (.val (.ref p)), .ro (.int far), .ro (.int most), .ro (.int f), .ro (.int (n : Int)), .own (.lst ((rows ++ [r]).map encR)), .own (.dT (W.map keyR) vs), .ro (.int (k : Int)), .ro (encR r), .no]) (S := S3) encR (fun w => D.tup [encR w, .bl true]) (spanL f n (rows ++ [r])) fun w hw => ⟨_, rfl, by simp⟩
    refine ⟨rows ++ [r], dd (spanL f n (rows ++ [r])), vs', .ro (.int (k : Int)), .ro (encR r), S3, ?_, c3, ⟨ok', h.ind.snoc hno, fun w => ?_⟩, by simp⟩
    · have hgn := gDIn_row (w := r) (ws := W) (vs := vs)
      rw [decide_eq_false hw] at hgn
      have ol : okLen (rows.length + 1) = true := ok_le (by omega)
      have em : (rows ++ [r]).map encR = rows.map encR ++ [encR r] := by simp
      rw [em] at hcc hsp ⊢
      simp only [sIf_at, fB_at, fBin_at, fVar_at, fVarO_at, List.getElem?_cons_succ, List.getElem?_cons_zero, Out.bind_ok, hgn, ofOpt_some, Bool.not_false, Out.toS_ok, if_true, sSeq_at, sMut_at, fCons_at, fNil_at, gAppend_at, imm_enc, List.length_map, ol, Bool.and_self, Bool.true_and, List.set_cons_succ, List.set_cons_zero,
        sSetO_at, fApp_at, fComp_at, fIter_at, fCall_at, hsp, noEx_ok, os, wipeE_cons, wipeE_nil, hcc, hg, isC_dT, topImm_dT, hvi]
    · rw [dd_mem]
      exact ⟨spanL_sp _ w, sp_spanL f0 _ ok' w⟩
theorem law_code_ok [Base] {p : Addr} {S : Store} {far most : Nat} (hc : Cur p S) (f1 : 1 ≤ far) (f10 : far ≤ 10) (m6 : most ≤ 6) : ∃ f n rows S', q_law_code [.val (.ref p), .int (far : Int), .int (most : Int)] S = .ok (codeD f n rows) S' ∧ Cur p S' ∧ CodeOk f n rows ∧ n ≤ far ∧ rows.length ≤ most := by
  obtain ⟨v1, S1, e1, c1, a1, b1⟩ := taken_ok (m := 2) hc (by omega) (by omega)
  obtain ⟨v2, S2, e2, c2, a2, b2⟩ := taken_ok (m := (far : Int)) c1 (by omega) (by omega)
  obtain ⟨n, hn⟩ : ∃ n : Nat, 1 + v2 = (n : Int) := ⟨(1 + v2).toNat, by omega⟩
  generalize hf : 2 + v1 = f at *
  have h2 : 2 ≤ f := by omega
  have h3 : f ≤ 3 := by omega
  have n1 : 1 ≤ n := by omega
  have n10 : n ≤ far := by omega
  have f0 : 0 < f := by omega
  obtain ⟨v3, S3, e3, c3, a3, b3⟩ := taken_ok (m := (if (most : Int) < (n : Int) then (most : Int) else (n : Int)) + 1) c2 (by split <;> omega) (by split <;> omega)
  obtain ⟨m, rfl⟩ : ∃ m : Nat, v3 = (m : Int) := ⟨v3.toNat, by omega⟩
  have hmm : m ≤ most ∧ m ≤ n := by split at b3 <;> omega
  obtain ⟨ρ', S4, e4, rows, W, vs, x7, x8, c4, sf, hl, rfl⟩ := loopS_all (b := bName 7) (body := fb_law_code_1) (fun (i : Nat) => D.int (i : Int)) (fun pre ρ S' => ∃ rows W vs x7 x8, Cur p S' ∧ SoFar f n rows W ∧ rows.length ≤ pre.length ∧
      ρ = [.ro (.val (.ref p)), .ro (.int (far : Int)), .ro (.int (most : Int)), .ro (.int f), .ro (.int (n : Int)), .own (.lst (rows.map encR)), .own (.dT (W.map keyR) vs), x7, x8, .no]) (List.range m)
      [.ro (.val (.ref p)), .ro (.int (far : Int)), .ro (.int (most : Int)), .ro (.int f), .ro (.int (n : Int)), .own (.lst []), .own (.dT [keyR (zer n)] [.bl true]), .no, .no, .no] S3
      ⟨[], [zer n], [.bl true], .no, .no, c3, ⟨fun r h => by simp at h, fun pre r post e => by simp at e, fun w => by
        have := sp_spanL (f := f) (n := n) f0 [] (fun r h => by simp at h) w
        constructor
        · intro h
          have : w = zer n := by simpa using h
          rw [this]; exact .zero
        · intro h
          have := this h
          simpa [spanL] using this⟩, by simp, rfl⟩ fun pre k post ρ S' hs ⟨rows, W, vs, x7, x8, c, sf, hl, e⟩ => by
    subst e
    have hpl : pre.length < m := by
      have := congrArg List.length hs
      simp at this; omega
    obtain ⟨rows', W', vs', x7', x8', S', e, c', sf', hl'⟩ := code_body (far := (far : Int)) (most := (most : Int)) (vs := vs) (k := k) (x8 := x8) c h2 h3 n1 (by omega) sf (by omega)
    exact ⟨_, _, _, rfl, e, rows', W', vs', x7', x8', c', sf', by simp; omega, rfl⟩
  have hml : rows.length ≤ m := by simpa using hl
  refine ⟨f, n, rows, S4, ?_, c4, ⟨h2, h3, n1, by omega, sf.ok, sf.ind, by omega, ?_⟩, n10, by omega⟩
  · unfold q_law_code fs_law_code
    simp only [Int.ofNat_lt] at e3
    simp [-tupKD_enc, e1, hf, e2, hn, gRepA_zero (n := n) (by omega), putSl, e3, okR_nat (n := m) (by omega), dRange_zero, e4]
    rfl
  · exact Nat.le_trans (Nat.pow_le_pow_left (by omega : f.toNat ≤ 3) _) (Nat.le_trans (Nat.pow_le_pow_right (by omega) (by omega : rows.length ≤ 6)) (by decide))
end CB
set_option Elab.async false
set_option linter.all false
set_option maxRecDepth 100000
namespace CB
open PySem PySem.Spec PyProof.Rows L2
/-! texts: split, join, str(int), int(text), a sign in a text -/
def fSM (g : Str → D → Option D) (fa fb : F D) : F D := fun ρ S => (fa ρ S).bind fun x S => match x with
  | .str a => (fb ρ S).bind fun y S => ofOpt (g a y) S
  | _ => .no
def gS (g : Str → D → Option D) (x y : D) : Option D := match x with
  | .str a => g a y
  | _ => none
def strsOf : List D → Option (List Str)
  | [] => some []
  | .str b :: xs => (strsOf xs).map (b :: ·)
  | _ :: _ => none
theorem strsOf_rep {K : PySem.W.Frag} {A : Addr → Prop} {H : Hp} : ∀ {ds : List D} {bs : List Str} {vs : List V}, strsOf ds = some bs → RepL K A H ds vs → vs = bs.map V.str
  | [], bs, vs, e, r => by unfold RepL at r; cases e; exact r
  | .str b :: ds, bs, vs, e, r => by
    unfold strsOf at e
    cases e1 : strsOf ds with
    | none => rw [e1] at e; cases e
    | some cs =>
      rw [e1] at e
      cases e
      unfold RepL at r
      obtain ⟨v, us, rfl, h1, h2⟩ := r
      rw [rS.mp h1, strsOf_rep e1 h2]; rfl
def gSplit (a : Str) : D → Option D
  | .str b => if !(b.length == 0) && okLen (a.length + 2) then some (.lst ((Txt.split a b).map D.str)) else none
  | _ => none
def gJoin (a : Str) : D → Option D
  | .lst xs => match strsOf xs with
    | some ys => if okLen ((ys.map (·.length)).sum + ys.length * a.length) then some (.str (Txt.join a ys)) else none
    | none => none
  | _ => none
def gIntT : List D → Option D
  | [.str a] => if decide (a.length ≤ 640) then (PySem.intText? a).map D.int else none
  | _ => none
def gIntA (ds : List D) : Option D := (gInt ds).or (gIntT ds)
def gInSg (x y : D) : Option D := match x, y with
  | .str w, .str z => match w.cps.toList with
    | [c] => some (.bl (decide (c ∈ z.cps.toList)))
    | _ => none
  | _, _ => none
def gNotInSg (x y : D) : Option D := match x, y with
  | .str w, .str z => match w.cps.toList with
    | [c] => some (.bl (!decide (c ∈ z.cps.toList)))
    | _ => none
  | _, _ => none
section
variable {K : PySem.W.Frag}
theorem rep_strs {A : Addr → Prop} {H : Hp} : ∀ ys : List Str, RepL K A H (ys.map D.str) (ys.map V.str)
  | [] => RepL.nil
  | y :: ys => RepL.cons (rS.mpr rfl) (rep_strs ys)
theorem g2_split {t} : G2 K t (fun x y H Q => ∃ a b, x = .str a ∧ [y] = [.str b] ∧ (b.length == 0) = false ∧ a.length + 2 ≤ sizeLine ∧ rNewStrs (Txt.split a b) H Q) (gS gSplit) := by
  intro A x y dx dy d H Q hA hx hy e q
  cases dx <;> cases dy <;> simp only [gS, gSplit, reduceCtorEq] at e
  rename_i a b
  split at e
  · rename_i hz
    cases e
    rw [Bool.and_eq_true, Bool.not_eq_true'] at hz
    refine ⟨a, b, rS.mp hx, by rw [rS.mp hy], hz.1, okLen_line hz.2, fun p hp => ?_⟩
    exact q _ _ (same_upd hp) (newL hA hp (rep_strs _)) fun _ => newFT hp (rep_strs _)
  · cases e
theorem g2_join {t} : G2 K t (fun x y H Q => ∃ a p, ∃ ys : List Str, x = .str a ∧ [y] = [.ref p] ∧ (SqL K H p (ys.map V.str) ∨ SqT K H p (ys.map V.str)) ∧
      (ys.map (·.length)).sum + ys.length * a.length ≤ 16777216 ∧ Q (.str (Txt.join a ys)) H) (gS gJoin) := by
  refine G2.flat fun A x y dx dy d H Q hx hy e => ?_
  cases dx <;> cases dy <;> simp only [gS, gJoin, reduceCtorEq] at e
  rename_i a xs
  split at e
  · rename_i ys hys
    split at e
    · rename_i hz
      cases e
      obtain ⟨p, vs, rfl, _, h1, h2⟩ := rL.mp hy
      rw [strsOf_rep hys h2] at h1
      exact ⟨rfl, fun q => ⟨a, p, ys, rS.mp hx, rfl, .inl (.of h1), okLen_line hz, q _ (rS.mpr rfl)⟩⟩
    · cases e
  · cases e
theorem g2_inSg : G2 K true (fun x y H Q => ∃ (c : Nat) (z : Str), x = .str ⟨#[c]⟩ ∧ y = .str z ∧ Q (.bl (decide (c ∈ z.cps.toList))) H) gInSg := by
  refine G2.flat fun A x y dx dy d H Q hx hy e => ?_
  cases dx <;> cases dy <;> simp only [gInSg, reduceCtorEq] at e
  rename_i w z
  split at e
  · rename_i c hc
    cases e
    have hw : w = ⟨#[c]⟩ := Str.ext' (Array.toList_inj.mp hc)
    exact ⟨rfl, fun q => ⟨c, z, by rw [rS.mp hx, hw], rS.mp hy, q _ (rB.mpr rfl)⟩⟩
  · cases e
theorem g2_notInSg : G2 K true (fun x y H Q => ∃ (c : Nat) (z : Str), x = .str ⟨#[c]⟩ ∧ y = .str z ∧ Q (.bl (!decide (c ∈ z.cps.toList))) H) gNotInSg := by
  refine G2.flat fun A x y dx dy d H Q hx hy e => ?_
  cases dx <;> cases dy <;> simp only [gNotInSg, reduceCtorEq] at e
  rename_i w z
  split at e
  · rename_i c hc
    cases e
    have hw : w = ⟨#[c]⟩ := Str.ext' (Array.toList_inj.mp hc)
    exact ⟨rfl, fun q => ⟨c, z, by rw [rS.mp hx, hw], rS.mp hy, q _ (rB.mpr rfl)⟩⟩
  · cases e
theorem gn_intT {t : Bool} : GN K t (fun xs H Q => ∃ a n, xs = [.str a] ∧ PySem.intText? a = some n ∧ a.length ≤ 640 ∧ Q (.int n) H) gIntT := by
  refine GN.flat fun A vs ds d H Q hx e => ?_
  unfold gIntT at e
  split at e
  · rename_i a
    split at e
    · rename_i hz
      cases e1 : PySem.intText? a with
      | none => rw [e1] at e; cases e
      | some n =>
        rw [e1] at e
        cases e
        obtain ⟨v, rfl, h1⟩ := hx.one'
        rw [rS.mp h1]
        exact ⟨rfl, fun q => ⟨a, n, rfl, e1, of_decide_eq_true hz, q _ (CB.rI.mpr rfl)⟩⟩
    · cases e
  · cases e
theorem gn_intA {t : Bool} : GN K t (fun xs H Q => ((∃ i, xs = [.int i] ∧ Q (.int i) H) ∨ ∃ k, xs = [.bl k] ∧ Q (.int (if k then 1 else 0)) H) ∨ ∃ a n, xs = [.str a] ∧ PySem.intText? a = some n ∧ a.length ≤ 640 ∧ Q (.int n) H) gIntA := gn_int.or gn_intT
theorem gn_strI {t : Bool} : GN K t (fun xs H Q => ∃ i, xs = [.int i] ∧ i.natAbs.log2 < 1920 ∧ Q (.str (toString i)) H) gStrI := by
  refine GN.flat fun A vs ds d H Q hx e => ?_
  unfold gStrI at e
  split at e
  · rename_i i
    split at e
    · rename_i hz
      cases e
      obtain ⟨v, rfl, h1⟩ := hx.one'
      rw [CB.rI.mp h1]
      exact ⟨rfl, fun q => ⟨i, rfl, of_decide_eq_true hz, q _ (rS.mpr rfl)⟩⟩
    · cases e
  · cases e
theorem fl_gInSg : ∀ x y d, gInSg x y = some d → flat1 d = true := fun x y d e => by
  unfold gInSg at e
  split at e
  · split at e
    · cases e; rfl
    · cases e
  · cases e
theorem fl_gNotInSg : ∀ x y d, gNotInSg x y = some d → flat1 d = true := fun x y d e => by
  unfold gNotInSg at e
  split at e
  · split at e
    · cases e; rfl
    · cases e
  · cases e
theorem fl_strI : ∀ x d, gStrI x = some d → flat1 d = true := fun x d e => by
  unfold gStrI at e
  split at e
  · split at e
    · cases e; rfl
    · cases e
  · cases e
theorem fl_intA : ∀ x d, gIntA x = some d → flat1 d = true := fun x d e => by
  unfold gIntA at e
  cases e1 : gInt x with
  | some z => rw [e1] at e; cases e; exact fl_int x _ e1
  | none =>
    rw [e1] at e
    have e : gIntT x = some d := e
    unfold gIntT at e
    split at e
    · split at e
      · rw [Option.map_eq_some_iff] at e
        obtain ⟨_, _, rfl⟩ := e
        rfl
      · cases e
    · cases e
end
section
variable {X : Cx} {W : Wx} {l : Lvl} {pos : Pos} {fa fb : F D} {o e : Expr}
theorem ev_globS {x : Str} {s : Str} (C : ∃ t, X.mg x = some (.str s t)) (hg : Gl X x := by rfl) (hdd : (x == ("__debug__" : Str)) = false := by decide) : PE X (.Name x pos) (tE W l X.K (fC (.str s))) := by
  obtain ⟨t, hm⟩ := C
  exact ev_glob (v := .str s) hg hm ⟨t, rfl⟩ rfl (fun A H => rS.mpr rfl) hdd
theorem tE_sm {t : Bool} {r : V → List V → Hp → VK → Prop} {g : Str → D → Option D} {σ : L2.St} {H : Hp} {Q : VK} (hg : G2 X.K t (fun x y H Q => r x [y] H Q) (gS g)) (hl : l = .top → t = true)
    (h : tE W l X.K (fSM g fa fb) σ H Q) : tM1 r (tE W l.sub X.K fa) (tE W l.sub X.K fb) σ H Q := by
  obtain ⟨S0, H0, P, S, ρ, R, q⟩ := h
  refine tE_seq R q fun d S1 H1 v _ E r1 q => ?_
  have R1 := R.step E
  cases d with
  | str a =>
    have q : OutE l X.K W P S H0 H Q ((fb ρ S1).bind fun y S => ofOpt (gS g (.str a) y) S) := q
    have x1 : Rep X.K (avo P S H0 H l) H1 (.str a) v := RepAt.sub r1
    refine ⟨⟨a, rS.mp x1⟩, S0, H0, P, S1, ρ, R1, ?_⟩
    cases e : fb ρ S1 with
    | ok d2 S2 =>
      rw [e] at q
      intro H2 v2 E2 r2
      have x2 : Rep X.K (avo P S1 H0 H1 l) H2 d2 v2 := RepAt.sub r2
      have q : OutE l X.K W P S H0 H Q (ofOpt (gS g (.str a) d2) S2) := q
      cases eg : gS g (.str a) d2 with
      | none => rw [eg] at q; exact q.elim
      | some z =>
        rw [eg] at q
        have EE := E.trans E2
        refine hg (avo P S H0 H l) v v2 (.str a) d2 z H2 Q (fun a ha => EE.kp.dom a (av_dom R a ha)) (x1.later R E E2) (Rep.av (fun a => av_step E a) x2) eg fun H3 v3 s3 r3 ft => ?_
        refine q H3 v3 (EE.trans (.of_same s3)) (.of r3 fun et ic => ?_)
        obtain ⟨p, h1, h2, h3⟩ := ft (hl et) ic
        subst et
        exact ⟨p, h1, Classical.byContradiction fun z => EE.kp.dom p z h2, h3⟩
    | ex x S2 =>
      rw [e] at q
      exact fun H2 E2 => q H2 (E.trans E2)
    | no =>
      rw [e] at q
      exact q
  | _ => exact q.elim
theorem ev_split {apos : Pos} (ho : PE X o (tE W l.sub X.K fa)) (he : PE X e (tE W l.sub X.K fb)) (hs : starEach [e] X.env = [(false, eval e X.env)] := by rfl) (hbase : attributeBase o "split" X.env (eval o X.env) = eval o X.env := by rfl) (hline : (apos.endLine == pos.line) = true := by rfl) :
    PE X (.Call (.Attribute o "split" apos) [e] [] pos) (tE W l X.K (fSM gSplit fa fb)) := PE.imp (pe_split ho he hs hbase hline) fun _ _ _ h => tE_sm (t := true) g2_split (fun _ => rfl) h
theorem ev_join {apos : Pos} (ho : PE X o (tE W l.sub X.K fa)) (he : PE X e (tE W l.sub X.K fb)) (hs : starEach [e] X.env = [(false, eval e X.env)] := by rfl) (hbase : attributeBase o "join" X.env (eval o X.env) = eval o X.env := by rfl) (hline : (apos.endLine == pos.line) = true := by rfl) :
    PE X (.Call (.Attribute o "join" apos) [e] [] pos) (tE W l X.K (fSM gJoin fa fb)) := PE.imp (pe_join ho he hs hbase hline) fun _ _ _ h => tE_sm (t := true) g2_join (fun _ => rfl) h
theorem flat_join : ∀ ρ S d S1, fSM gJoin fa fb ρ S = .ok d S1 → flat1 d = true := by
  intro ρ S d S1 h
  unfold fSM at h
  cases e : fa ρ S with
  | ok x S2 =>
    rw [e, Out.bind_ok] at h
    cases x with
    | str a =>
      simp only at h
      cases e2 : fb ρ S2 with
      | ok y S3 =>
        rw [e2, Out.bind_ok] at h
        cases e3 : gJoin a y with
        | some z =>
          rw [e3] at h; cases h
          unfold gJoin at e3
          split at e3
          · split at e3
            · split at e3
              · cases e3; rfl
              · cases e3
            · cases e3
          · cases e3
        | none => rw [e3] at h; cases h
      | ex _ _ => rw [e2] at h; cases h
      | no => rw [e2] at h; cases h
    | _ => cases h
  | ex _ _ => rw [e] at h; cases h
  | no => rw [e] at h; cases h
end
end CB
set_option Elab.async false
set_option linter.all false
set_option maxRecDepth 100000
namespace CB
open PySem PySem.Spec PyProof.Rows L2
/-! for x in one's own list: an expression alone (the list stays one's own) -/
def loopE (b : Bd) (fe : F D) : List D → FS
  | [], ρ, S => .nx ρ S
  | d :: ds, ρ, S => match b d ρ with
    | none => .no
    | some ρ1 => (fe ρ1 S).toS fun _ S2 => loopE b fe ds ρ1 S2
def sForE (it : F (List D)) (b : Bd) (fe : F D) : FS := fun ρ S => (it ρ S).toS fun ds S => loopE b fe ds ρ S
section
variable {X : Cx} {W : Wx} {pos pos1 : Pos} {tg e : Expr}
theorem es_forE {iter : Expr} {it : F (List D)} {g : TG} {b : Bd} {fe : F D} {vs : List Nat} (hi : PI X tg iter (tIc W X.K it)) (hg : PG X tg g) (hgb : TGok X.K vs g b) (he : PE X e (tE W .any X.K fe)) (hp : PassesOwn (model X.prog X.w) X.A X.env X.xe) (hc : X.calm = true)
    (hx : swapsWith e none pos1.line X.env = pure false := by rfl) (hs : ∀ x, foldedSetIterable iter X.env x = pure x := by intro _; rfl) : PS X (.For tg iter [.Expr e pos1] [] pos) (tS W X.K (sForE it b fe)) := by
  refine PS.imp (ps_for hp hc hi hg (pss_one (ps_expr he hx)) hs) fun Dn σ H ⟨S0, H0, P, S, ρ, R, q⟩ => ?_
  refine ⟨S0, H0, P, S, ρ, R, ?_⟩
  unfold sForE at q
  cases e1 : it ρ S with
  | ex x S1 => rw [e1] at q; exact fun H1 E => q H1 (R.evo.trans E)
  | no => rw [e1] at q; exact q
  | ok ds S1 =>
    rw [e1, Out.toS_ok] at q
    intro H1 J E ⟨Y, w, hY⟩
    have R1 := R.step E
    have q := q.mono .refl (R.kpP E)
    refine for_it w (fun i σ' H' => ∃ S' ρ', Evo X.K S1 H1 S' H' ∧ Rel X.K S0 H0 P S' ρ' σ' H' ∧ Good X.K W S0 H0 P H' Dn (loopE b fe (ds.drop i) ρ' S')) ⟨S1, ρ, .refl, R1, by simpa using q⟩ ?_ ?_ ?_
    · rintro i σ' H' _ ⟨S', ρ', k, _⟩
      exact k.kp
    · rintro i x σ' Ha Hb hlt ⟨S', ρ', k, R', q⟩ y
      obtain ⟨sm, hx⟩ := hY i Ha x Hb hlt k.kp y
      obtain ⟨d, hd, rx⟩ := hx P .refl
      have Es : Evo X.K S' Ha S' Hb := .of_same sm
      have R2 := R'.step Es
      have ed : ds.drop i = d :: ds.drop (i + 1) := by
        rw [List.drop_eq_getElem_cons hlt]
        rw [List.getElem?_eq_getElem hlt] at hd
        cases hd; rfl
      rw [ed] at q
      unfold loopE at q
      have q := q.mono .refl (R'.kpP Es)
      split at q
      · exact q.elim
      · rename_i ρ1 eb
        refine hgb _ _ _ _ _ _ _ d x ρ1 _ R2 rx eb fun σ1 _ _ R3 => ?_
        refine ⟨S0, H0, P, S', ρ1, R3, ?_⟩
        cases eo : fe ρ1 S' with
        | ok z S2 =>
          rw [eo, Out.toS_ok] at q
          intro H2 v E2 r
          exact ⟨S2, ρ1, (k.trans Es).trans E2, R3.step E2, q.mono .refl (R3.kpP E2)⟩
        | ex x S2 => rw [eo] at q; exact fun H2 E2 => q H2 (R3.evo.trans E2)
        | no => rw [eo] at q; exact q
    · rintro σ' H' ⟨S', ρ', k, R', q⟩
      rw [List.drop_length] at q
      exact q P σ' H' .refl .refl R'
end
end CB
set_option Elab.async false
set_option linter.all false
set_option maxRecDepth 100000
namespace CB
open PySem PySem.Spec PyProof.Rows L2
def fs_number_of : FS := (sSeq (sIf (fOr (fNot (fB (fChain gLe gLe (fC (.int 1)) (fApp gLen (fCons (fVar 0) fNil)) (fC (.int 2))))) (fB (fApp gAny (fCons (fComp (fIter (fVar 0)) (bName 2) fYes (fBin gNotInSg (fVar 2) (fC (.str (Str.ofString "0123456789")))) [2]) fNil)))) sNo
 sSkip)
 (sSeq (sIf (fAnd (fB (fBin gEq (fBin gIx (fVar 0) (fC (.int 0))) (fC (.str (Str.ofString "0"))))) (fB (fBin gNe (fVar 0) (fC (.str (Str.ofString "0")))))) sNo
 sSkip)
 (sRet (fApp gIntA (fCons (fVar 0) fNil)))))
def q_number_of : Sem1 := runB 3 fs_number_of

def fb_read_1 : FS := (sSeq (sSet 4 (fImm1 (fSM gSplit (fVar 3) (fC (.str (Str.ofString " "))))))
 (sIf (fB (fBin gEq (fBin gIx (fVar 4) (fC (.int 0))) (fC (.str (Str.ofString "code"))))) (sSeq (sIf (fB (fBin gNe (fApp gLen (fCons (fVar 4) fNil)) (fC (.int 3)))) sNo
 sSkip)
 (sMut 1 gAppend (fCons (fTup (fCons (fCall (fun ds S => noEx (q_number_of ds S)) (fCons (fBin gIx (fVar 4) (fC (.int 1))) (fCons (fVar 2) fNil))) (fCons (fCall (fun ds S => noEx (q_number_of ds S)) (fCons (fBin gIx (fVar 4) (fC (.int 2))) (fCons (fVar 2) fNil))) (fCons (fTup fNil) fNil)))) fNil)))
 (sIf (fOr (fB (fBin gEq (fVarO 1) (fLst fNil))) (fOr (fB (fBin gNe (fApp gLen (fCons (fVar 4) fNil)) (fC (.int 1)))) (fOr (fB (fBin gEq (fVar 3) (fC (.str (Str.ofString ""))))) (fB (fApp gAny (fCons (fComp (fIter (fVar 3)) (bName 9) fYes (fBin gNotInSg (fVar 9) (fC (.str (Str.ofString "0123456789")))) [9]) fNil)))))) sNo
 (sSeq (sSetT (bTup3 (bName 5) (bName 6) (bName 7)) (fImm (fBin gIx (fVarO 1) (fNeg (fC (.int 1))))))
 (sPut 1 (fNeg (fC (.int 1))) (fTup (fCons (fVar 5) (fCons (fVar 6) (fCons (fBin gAdd (fVar 7) (fTup (fCons (fApp gTuple (fCons (fComp (fIter (fVar 3)) (bName 9) fYes (fApp gIntA (fCons (fVar 9) fNil)) [9]) fNil)) fNil))) fNil)))))))))
def fs_read : FS := (sSeq (sSetO 1 (fLst fNil))
 (sSeq (sFor (fAppL gEnum (fCons (fIf (fB (fBin gNe (fVar 0) (fC (.str (Str.ofString ""))))) (fImm1 (fSM gSplit (fVar 0) (fC (.str (Str.ofString "\n"))))) (fImm1 (fLst fNil))) fNil)) (bTup2 (bName 2) (bName 3)) fb_read_1)
 (sSeq (sForE (fOwnL 1) (bName 8) (fCall (fun ds S => noEx (q_need_code ds S)) (fCons (fVar 8) fNil)))
 (sRet (fVarO 1)))))
def q_read : Sem1 := runB 10 fs_read

def fb_written_1 : FS := (sSeq (sDrop (fCall (fun ds S => noEx (q_need_code ds S)) (fCons (fVar 2) fNil)))
 (sSeq (sMut 1 gAppend (fCons (fBin gAdd (fBin gAdd (fBin gAdd (fBin gAdd (fC (.str (Str.ofString "code"))) (fC (.str (Str.ofString " ")))) (fApp gStrI (fCons (fBin gIx (fVar 2) (fC (.int 0))) fNil))) (fC (.str (Str.ofString " ")))) (fApp gStrI (fCons (fBin gIx (fVar 2) (fC (.int 1))) fNil))) fNil))
 (sMut 1 gExtend (fCons (fComp (fIter (fImm (fBin gIx (fVar 2) (fC (.int 2))))) (bName 3) fYes (fSM gJoin (fC (.str (Str.ofString ""))) (fComp (fIter (fVar 3)) (bName 4) fYes (fApp gStrI (fCons (fVar 4) fNil)) [4])) [3]) fNil))))
def fs_written : FS := (sSeq (sSetO 1 (fLst fNil))
 (sSeq (sFor (fIter (fVar 0)) (bName 2) fb_written_1)
 (sRet (fSM gJoin (fC (.str (Str.ofString "\n"))) (fVarO 1)))))
def q_written : Sem1 := runB 5 fs_written

end CB
set_option Elab.async false
set_option linter.all false
set_option maxRecDepth 100000
namespace CB
open PySem PySem.Spec PyProof.Rows L2 TL
/-! texts of codes -/
def numS (i : Int) : Str := Str.ofString (toString i)
def hdrS (f n : Int) : Str := Str.ofString "code" ++ Str.ofString " " ++ numS f ++ Str.ofString " " ++ numS n
def digS (r : List Int) : Str := Txt.join (Str.ofString "") (r.map numS)
inductive Ln where
  | hd (f : Int) (n : Nat)
  | rw (r : List Int)
def Ln.str : Ln → Str
  | .hd f n => hdrS f n
  | .rw r => digS r
def Ln.Ok : Ln → Prop
  | .hd f n => 1 ≤ f ∧ f ≤ 10 ∧ 1 ≤ n ∧ n ≤ 10
  | .rw r => 1 ≤ r.length ∧ r.length ≤ 10 ∧ ∀ x ∈ r, 0 ≤ x ∧ x < 3
theorem tl_numS {i : Int} (h : 0 ≤ i) : tl (numS i) = numL i.toNat := by
  obtain ⟨n, rfl⟩ := Int.eq_ofNat_of_zero_le h
  exact tl_num n
theorem tl_nil : tl (Str.ofString "") = [] := by rw [tl_ofString]; rfl
theorem tl_sp : tl (Str.ofString " ") = [32] := by rw [tl_ofString]; rfl
theorem tl_nl : tl (Str.ofString "\n") = [10] := by rw [tl_ofString]; rfl
theorem tl_code : tl (Str.ofString "code") = [99, 111, 100, 101] := by rw [tl_ofString]; rfl
theorem joinL_nil : ∀ ps : List (List Nat), joinL [] ps = ps.flatten
  | [] => rfl
  | [p] => by simp [joinL]
  | p :: q :: r => by
    show p ++ ([] ++ joinL [] (q :: r)) = _
    rw [List.nil_append, joinL_nil (q :: r)]; rfl
theorem tl_digS : ∀ {r : List Int}, (∀ x ∈ r, 0 ≤ x ∧ x < 10) → tl (digS r) = r.map fun d => 48 + d.toNat := fun {r} h => by
  unfold digS
  rw [join_eq, tl_join, tl_nil, joinL_nil, List.map_map]
  induction r with
  | nil => rfl
  | cons x r ih =>
    have hx := h x (by simp)
    rw [List.map_cons, List.flatten_cons, ih fun y hy => h y (by simp [hy])]
    show tl (numS x) ++ _ = _
    rw [tl_numS hx.1, numL_lt (by omega)]
    rfl
theorem tl_hdrS {f n : Int} (hf : 0 ≤ f) (hn : 0 ≤ n) : tl (hdrS f n) = [99, 111, 100, 101, 32] ++ numL f.toNat ++ [32] ++ numL n.toNat := by
  unfold hdrS
  rw [tl_append, tl_append, tl_append, tl_append, tl_code, tl_sp, tl_numS hf, tl_numS hn]
  rfl
theorem hdr_join {f n : Int} : hdrS f n = Txt.join (Str.ofString " ") [Str.ofString "code", numS f, numS n] := by
  refine ext_tl ?_
  unfold hdrS
  rw [join_eq, tl_join]
  simp only [tl_append, List.map_cons, List.map_nil, joinL, List.append_assoc]
theorem sp_kind : (Str.ofString " ").cps.all (· < 256) = true := by decide +kernel
theorem nl_kind : (Str.ofString "\n").cps.all (· < 256) = true := by decide +kernel
theorem split_hdr {f n : Int} (hf : 0 ≤ f) (hn : 0 ≤ n) : Txt.split (hdrS f n) (Str.ofString " ") = [Str.ofString "code", numS f, numS n] := by
  rw [hdr_join]
  refine split_join tl_sp sp_kind (by simp) fun p hp => ?_
  rcases List.mem_cons.mp hp with rfl | hp
  · rw [tl_code]; decide
  rcases List.mem_cons.mp hp with rfl | hp
  · rw [tl_numS hf]; exact numL_free (by omega)
  rcases List.mem_cons.mp hp with rfl | hp
  · rw [tl_numS hn]; exact numL_free (by omega)
  · cases hp
theorem dig_free {r : List Int} {s : Nat} (h : ∀ x ∈ r, 0 ≤ x ∧ x < 10) (hs : s < 48 ∨ 57 < s) : s ∉ tl (digS r) := by
  rw [tl_digS h]
  intro hm
  obtain ⟨x, hx, rfl⟩ := List.mem_map.mp hm
  have := h x hx
  omega
theorem join_one {y x : Str} : Txt.join y [x] = x := by
  refine ext_tl ?_
  rw [join_eq, tl_join]; rfl
theorem split_dig {r : List Int} (h : ∀ x ∈ r, 0 ≤ x ∧ x < 10) : Txt.split (digS r) (Str.ofString " ") = [digS r] := by
  have := split_join (y := Str.ofString " ") (parts := [digS r]) tl_sp sp_kind (by simp) fun p hp => by
    rcases List.mem_cons.mp hp with rfl | hp
    · exact dig_free h (by omega)
    · cases hp
  rw [join_one] at this
  exact this
theorem Ln.free {l : Ln} (h : l.Ok) : 10 ∉ tl l.str := by
  cases l with
  | hd f n =>
    obtain ⟨h1, h2, h3, h4⟩ := h
    show 10 ∉ tl (hdrS f n)
    rw [tl_hdrS (by omega) (by omega)]
    have a := numL_free (n := f.toNat) (s := 10) (by omega)
    have b := numL_free (n := (n : Int).toNat) (s := 10) (by omega)
    simp only [List.mem_append, List.mem_cons, List.not_mem_nil, or_false, not_or]
    refine ⟨⟨⟨by omega, a⟩, by omega⟩, b⟩
  | rw r => exact dig_free (fun x hx => by have := h.2.2 x hx; omega) (by omega)
theorem Ln.len {l : Ln} (h : l.Ok) : 1 ≤ l.str.length ∧ l.str.length ≤ 20 := by
  rw [len_tl]
  cases l with
  | hd f n =>
    obtain ⟨h1, h2, h3, h4⟩ := h
    show 1 ≤ (tl (hdrS f n)).length ∧ (tl (hdrS f n)).length ≤ 20
    rw [tl_hdrS (by omega) (by omega)]
    have a := numL_len (n := f.toNat) (k := 2) (by omega) (by omega)
    have b := numL_len (n := (n : Int).toNat) (k := 2) (by omega) (by omega)
    simp only [List.length_append, List.length_cons, List.length_nil]
    omega
  | rw r =>
    show 1 ≤ (tl (digS r)).length ∧ (tl (digS r)).length ≤ 20
    rw [tl_digS fun x hx => by have := h.2.2 x hx; omega, List.length_map]
    have := h.1; have := h.2.1
    omega
theorem dStr_dig {r : List Int} (h : ∀ x ∈ r, 0 ≤ x ∧ x < 10) : dStr (digS r) = r.map fun d => D.str ⟨#[48 + d.toNat]⟩ := by
  unfold dStr
  have e : (digS r).cps.toList = tl (digS r) := rfl
  rw [e, tl_digS h, List.map_map]; rfl
theorem dig3 {x : Int} (h : 0 ≤ x ∧ x < 3) : x = 0 ∨ x = 1 ∨ x = 2 := by omega
theorem notIn_fig {x : Int} (h : 0 ≤ x ∧ x < 3) : gNotInSg (.str ⟨#[48 + x.toNat]⟩) (.str (Str.ofString "0123456789")) = some (.bl false) := by
  rcases dig3 h with rfl | rfl | rfl <;> kernel_rfl
theorem int_fig {x : Int} (h : 0 ≤ x ∧ x < 3) : gIntA [.str ⟨#[48 + x.toNat]⟩] = some (.int x) := by
  rcases dig3 h with rfl | rfl | rfl <;> kernel_rfl
theorem ten {i : Int} (h : 0 ≤ i) (h2 : i ≤ 10) : i = 0 ∨ i = 1 ∨ i = 2 ∨ i = 3 ∨ i = 4 ∨ i = 5 ∨ i = 6 ∨ i = 7 ∨ i = 8 ∨ i = 9 ∨ i = 10 := by omega
theorem gStrI_ok {i : Int} (h : 0 ≤ i) (h2 : i ≤ 10) : gStrI [.int i] = some (.str (numS i)) := by
  rcases ten h h2 with rfl | rfl | rfl | rfl | rfl | rfl | rfl | rfl | rfl | rfl | rfl <;> rfl
theorem number_of_ok {i : Int} {d : D} {S : Store} (h : 1 ≤ i) (h2 : i ≤ 10) : q_number_of [.str (numS i), d] S = .ok (.int i) S := by
  rcases ten (by omega) h2 with rfl | rfl | rfl | rfl | rfl | rfl | rfl | rfl | rfl | rfl | rfl
  · omega
  all_goals kernel_rfl
theorem joinL_len (S : List Nat) : ∀ ps : List (List Nat), (joinL S ps).length ≤ (ps.map List.length).sum + ps.length * S.length
  | [] => by simp [joinL]
  | [p] => by simp [joinL]
  | p :: q :: r => by
    have := joinL_len S (q :: r)
    show (p ++ (S ++ joinL S (q :: r))).length ≤ _
    rw [List.length_append, List.length_append, List.map_cons, List.sum_cons, List.length_cons, Nat.add_mul, Nat.one_mul]
    omega
theorem join_len (y : Str) (ps : List Str) : (Txt.join y ps).length ≤ (ps.map (·.length)).sum + ps.length * y.length := by
  rw [len_tl, join_eq, tl_join]
  have := joinL_len (tl y) (ps.map tl)
  rw [List.length_map, List.map_map] at this
  have e : (ps.map (List.length ∘ tl)) = ps.map (·.length) := List.map_congr_left fun x _ => (len_tl x).symm
  rw [e] at this
  rw [len_tl y]
  exact this
theorem sum_le {α : Type} {g : α → Nat} {k : Nat} : ∀ l : List α, (∀ x ∈ l, g x ≤ k) → (l.map g).sum ≤ l.length * k
  | [], _ => by simp
  | x :: l, h => by
    have a := sum_le l fun y hy => h y (by simp [hy])
    have b := h x (by simp)
    rw [List.map_cons, List.sum_cons, List.length_cons, Nat.add_mul, Nat.one_mul]
    omega
end CB
set_option Elab.async false
set_option linter.all false
set_option maxRecDepth 100000
namespace CB
open PySem PySem.Spec PyProof.Rows L2
/-! products -/
def dotZ (a b : List Int) : Int := lsum (fun p : Int × Int => p.1 * p.2) (List.zip a b)
theorem dotZ_comm : ∀ a b : List Int, dotZ a b = dotZ b a
  | [], b => by cases b <;> rfl
  | _ :: _, [] => rfl
  | x :: a, y :: b => by
    have := dotZ_comm a b
    unfold dotZ at this ⊢
    rw [List.zip_cons_cons, List.zip_cons_cons, lsum, lsum, this, Int.mul_comm]
theorem dotZ_pt {f t : Int} : ∀ {w v b : List Int}, w.length = v.length → w.length = b.length → dotZ (pt f w v t) b % f = (dotZ w b + t * dotZ v b) % f
  | [], v, b, h1, h2 => by
    have : v = [] := List.eq_nil_of_length_eq_zero (by simpa using h1.symm)
    subst this; simp [dotZ, pt, lsum]
  | x :: w, [], b, h1, _ => by simp at h1
  | x :: w, y :: v, [], _, h2 => by simp at h2
  | x :: w, y :: v, z :: b, h1, h2 => by
    have ih := dotZ_pt (f := f) (t := t) (w := w) (v := v) (b := b) (by simpa using h1) (by simpa using h2)
    have e : pt f (x :: w) (y :: v) t = ((x + t * y) % f) :: pt f w v t := rfl
    rw [e]
    unfold dotZ at ih ⊢
    rw [List.zip_cons_cons, List.zip_cons_cons, List.zip_cons_cons, lsum, lsum, lsum, Int.add_emod, ih, Int.mul_emod, Int.emod_emod, ← Int.mul_emod, ← Int.add_emod]
    congr 1
    simp only
    rw [Int.add_mul, Int.mul_add, Int.mul_assoc]
    omega
theorem dotZ_zer {n : Nat} {b : List Int} : dotZ (zer n) b = 0 := by
  unfold dotZ
  refine lsum_zero fun p hp => ?_
  have := (List.of_mem_zip hp).1
  have : p.1 = 0 := List.eq_of_mem_replicate this
  rw [this]; omega
theorem dotZ_sum {n : Nat} : ∀ {a b : List Int}, a.length = n → b.length = n → dotZ a b = lsum (fun j => gd a j * gd b j) (List.range n) := by
  induction n with
  | zero =>
    intro a b ha hb
    have : a = [] := List.eq_nil_of_length_eq_zero ha
    subst this; rfl
  | succ n ih =>
    intro a b ha hb
    cases a with
    | nil => simp at ha
    | cons x a => cases b with
      | nil => simp at hb
      | cons y b =>
        have h := ih (a := a) (b := b) (by simpa using ha) (by simpa using hb)
        have hm : ∀ (g : Nat → Int) (l : List Nat), lsum g (l.map Nat.succ) = lsum (fun j => g (j + 1)) l := fun g l => by
          induction l with
          | nil => rfl
          | cons x l ih => rw [List.map_cons, lsum, lsum, ih]
        unfold dotZ at h ⊢
        rw [List.zip_cons_cons, lsum, h, List.range_succ_eq_map, lsum, hm]
        rfl
def Orth (f : Int) (rows : List (List Int)) (w : List Int) : Prop := ∀ r ∈ rows, dotZ w r % f = 0
theorem Orth.sp {f : Int} {n : Nat} {rows : List (List Int)} {w v : List Int} (hf : 0 < f) (hr : AllOk f n rows) (hw : w.length = n) (h : Orth f rows w) (hv : Sp f n rows v) : dotZ w v % f = 0 := by
  induction hv with
  | zero => rw [dotZ_comm, dotZ_zer]; simp
  | @add u r t hu hm ih =>
    rw [dotZ_comm, dotZ_pt (by rw [(hu.ok hf hr).len, (hr r hm).len]) (by rw [(hu.ok hf hr).len, hw]), dotZ_comm u w, dotZ_comm r w, Int.add_emod, ih, Int.mul_emod, h r hm]
    simp
theorem lsum_only {g : Nat → Int} {c : Nat} : ∀ {l : List Nat}, l.Nodup → c ∈ l → (∀ y ∈ l, y ≠ c → g y = 0) → lsum g l = g c
  | [], _, h, _ => by simp at h
  | y :: l, hn, hc, h => by
    rw [List.nodup_cons] at hn
    by_cases e : y = c
    · subst e
      rw [lsum, lsum_zero fun z hz => h z (by simp [hz]) fun e => hn.1 (by rw [← e]; exact hz)]; omega
    · rw [lsum, h y (by simp) e, lsum_only hn.2 (by simpa [Ne.symm e, fun z : c = y => e z.symm] using hc) fun z hz => h z (by simp [hz])]; omega
theorem lsum_two {g : Nat → Int} {a b : Nat} : ∀ {l : List Nat}, l.Nodup → a ∈ l → b ∈ l → a ≠ b → (∀ x ∈ l, x ≠ a → x ≠ b → g x = 0) → lsum g l = g a + g b
  | [], _, h, _, _, _ => by simp at h
  | x :: l, hn, ha, hb, ne, h => by
    rw [List.nodup_cons] at hn
    by_cases hxa : x = a
    · subst hxa
      have hb' : b ∈ l := by
        rcases List.mem_cons.mp hb with e | e
        · exact absurd e.symm ne
        · exact e
      rw [lsum, lsum_only hn.2 hb' fun y hy hyb => h y (by simp [hy]) (fun e => hn.1 (by rw [← e]; exact hy)) hyb]
    · have ha' : a ∈ l := by
        rcases List.mem_cons.mp ha with e | e
        · exact absurd e.symm hxa
        · exact e
      by_cases hxb : x = b
      · subst hxb
        rw [lsum, lsum_only hn.2 ha' fun y hy hya => h y (by simp [hy]) hya (fun e => hn.1 (by rw [← e]; exact hy))]; omega
      · have hb' : b ∈ l := by
          rcases List.mem_cons.mp hb with e | e
          · exact absurd e.symm hxb
          · exact e
        rw [lsum, h x (by simp) hxa hxb, lsum_two hn.2 ha' hb' ne fun y hy => h y (by simp [hy])]; omega
theorem lsum_split {α : Type} {g : α → Int} (p : α → Bool) : ∀ l : List α, lsum g l = lsum g (l.filter p) + lsum g (l.filter fun x => !p x)
  | [] => rfl
  | x :: l => by
    have := lsum_split (g := g) p l
    cases h : p x <;> simp [h, lsum] <;> omega
end CB
set_option Elab.async false
set_option linter.all false
set_option maxRecDepth 100000
namespace CB
open PySem PySem.Spec PyProof.Rows L2
/-! the rows that check -/
def crow (f : Int) (n : Nat) (Q : List (Nat × List Int)) (p : Nat) : List Int := Q.foldl (fun row q => row.set q.1 ((0 - gd q.2 p) % f)) ((zer n).set p 1)
def free (n : Nat) (Q : List (Nat × List Int)) : List Nat := (List.range n).filter fun j => !decide (j ∈ Q.map Prod.fst)
def checks (f : Int) (n : Nat) (Q : List (Nat × List Int)) : List (List Int) := (free n Q).map (crow f n Q)
theorem gd_set {row : List Int} {i j : Nat} {v : Int} (hi : i < row.length) : gd (row.set i v) j = if i = j then v else gd row j := by
  unfold gd
  rw [List.getD_eq_getElem?_getD, List.getD_eq_getElem?_getD, List.getElem?_set]
  split
  · rename_i h; subst h; simp [hi]
  · rfl
section
variable {f : Int} {n p : Nat}
theorem cf_len (Q : List (Nat × List Int)) : ∀ row : List Int, (Q.foldl (fun row q => row.set q.1 ((0 - gd q.2 p) % f)) row).length = row.length := by
  induction Q with
  | nil => intro row; rfl
  | cons x Q ih => intro row; rw [List.foldl_cons, ih]; simp
theorem cf_out {j : Nat} : ∀ (Q : List (Nat × List Int)) (row : List Int), (∀ q ∈ Q, q.1 < row.length) → j ∉ Q.map Prod.fst → gd (Q.foldl (fun row q => row.set q.1 ((0 - gd q.2 p) % f)) row) j = gd row j
  | [], row, _, _ => rfl
  | x :: Q, row, h, hj => by
    simp only [List.map_cons, List.mem_cons, not_or] at hj
    rw [List.foldl_cons, cf_out Q _ (fun q hq => by simpa using h q (by simp [hq])) hj.2, gd_set (h x (by simp)), if_neg (fun e => hj.1 e.symm)]
theorem cf_in {q : Nat × List Int} : ∀ (Q : List (Nat × List Int)) (row : List Int), (∀ q ∈ Q, q.1 < row.length) → Q.Pairwise (fun p q => p.1 < q.1) → q ∈ Q → gd (Q.foldl (fun row q => row.set q.1 ((0 - gd q.2 p) % f)) row) q.1 = (0 - gd q.2 p) % f
  | [], row, _, _, h => by simp at h
  | x :: Q, row, h, pw, hq => by
    rw [List.pairwise_cons] at pw
    rw [List.foldl_cons]
    rcases List.mem_cons.mp hq with e | e
    · subst e
      rw [cf_out Q _ (fun y hy => by simpa using h y (by simp [hy])) (fun hm => by
        obtain ⟨y, hy, e⟩ := List.mem_map.mp hm
        have := pw.1 y hy
        omega), gd_set (h q (by simp)), if_pos rfl]
    · exact cf_in Q _ (fun y hy => by simpa using h y (by simp [hy])) pw.2 e
theorem nodup_filter {α : Type} {p : α → Bool} {l : List α} (h : l.Nodup) : (l.filter p).Nodup := by
  rw [List.nodup_iff_pairwise_ne] at h ⊢
  exact h.filter _
theorem mem_free {Q : List (Nat × List Int)} {j : Nat} : j ∈ free n Q ↔ j < n ∧ j ∉ Q.map Prod.fst := by
  unfold free; simp
theorem free_nodup {Q : List (Nat × List Int)} : (free n Q).Nodup := nodup_filter List.nodup_range
variable {rows : List (List Int)} {s : StepSt}
theorem crow_len : (crow f n s.found p).length = n := by unfold crow; rw [cf_len]; simp [zer]
theorem crow_pivot (h : StepOk f n rows n s) {q : Nat × List Int} (hq : q ∈ s.found) : gd (crow f n s.found p) q.1 = (0 - gd q.2 p) % f :=
  cf_in s.found _ (fun x hx => by simpa [zer] using h.lt x hx) h.pw hq
theorem crow_free (h : StepOk f n rows n s) {j : Nat} (hp : p < n) (hj : j ∉ s.found.map Prod.fst) : gd (crow f n s.found p) j = if p = j then 1 else 0 := by
  unfold crow
  rw [cf_out s.found _ (fun x hx => by simpa [zer] using h.lt x hx) hj, gd_set (by simpa [zer] using hp), gd_zer]
theorem crow_ok (hf : 2 ≤ f) (h : StepOk f n rows n s) (hp : p < n) : RowOk f n (crow f n s.found p) := ⟨crow_len, fun x hx => by
  obtain ⟨i, hi, rfl⟩ := List.getElem_of_mem hx
  have e : (crow f n s.found p)[i] = gd (crow f n s.found p) i := by
    unfold gd; rw [List.getD_eq_getElem?_getD, List.getElem?_eq_getElem hi]; rfl
  rw [e]
  by_cases hm : i ∈ s.found.map Prod.fst
  · obtain ⟨q, hq, rfl⟩ := List.mem_map.mp hm
    rw [crow_pivot h hq]
    exact ⟨Int.emod_nonneg _ (by omega), Int.emod_lt_of_pos _ (by omega)⟩
  · rw [crow_free h hp hm]
    split <;> omega⟩
theorem checks_ok (hf : 2 ≤ f) (h : StepOk f n rows n s) : AllOk f n (checks f n s.found) := fun r hr => by
  obtain ⟨p, hp, rfl⟩ := List.mem_map.mp hr
  exact crow_ok hf h (mem_free.mp hp).1
theorem orth_found {w : List Int} (hf : 2 ≤ f) (hr : AllOk f n rows) (h : StepOk f n rows n s) (hw : w.length = n) : Orth f rows w ↔ Orth f (s.found.map Prod.snd) w := by
  have f0 : 0 < f := by omega
  constructor
  · intro ho r hrr
    exact Orth.sp f0 hr hw ho (h.sp1 r (List.mem_append_left _ hrr))
  · intro ho r hrr
    exact Orth.sp f0 h.okF hw ho ((sp_found hf hr h).mp (Sp.mem f0 hr hrr))
theorem fmem_range {q : Nat × List Int} (h : StepOk f n rows n s) (hq : q ∈ s.found) : q.1 ∈ List.range n := by simpa using h.lt q hq
theorem crow_orth (hf : 2 ≤ f) (h : StepOk f n rows n s) (hp : p ∈ free n s.found) : Orth f (s.found.map Prod.snd) (crow f n s.found p) := fun r hr => by
  obtain ⟨q, hq, rfl⟩ := List.mem_map.mp hr
  obtain ⟨hp1, hp2⟩ := mem_free.mp hp
  have oq := h.okF q.2 hr
  have ne : p ≠ q.1 := fun e => hp2 (List.mem_map.mpr ⟨q, hq, e.symm⟩)
  rw [dotZ_sum crow_len oq.len, lsum_two List.nodup_range (a := p) (b := q.1) (by simpa using hp1) (fmem_range h hq) ne]
  · rw [crow_free h hp1 hp2, if_pos rfl, crow_pivot h hq, h.one q hq, Int.one_mul, Int.mul_one, Int.add_comm, em1, show 0 - gd q.2 p + gd q.2 p = 0 by omega]
    simp
  · intro x hx hxp hxq
    by_cases hm : x ∈ s.found.map Prod.fst
    · obtain ⟨q', hq', rfl⟩ := List.mem_map.mp hm
      rw [h.oth q hq q' hq' (fun e => hxq e.symm)]; simp
    · rw [crow_free h hp1 hm, if_neg (fun e => hxp e.symm)]; simp
theorem sp_orth {w : List Int} (hf : 2 ≤ f) (h : StepOk f n rows n s) (hw : Sp f n (checks f n s.found) w) : Orth f (s.found.map Prod.snd) w := by
  have f0 : 0 < f := by omega
  intro r hr
  have or := h.okF r hr
  rw [dotZ_comm]
  refine Orth.sp (rows := checks f n s.found) f0 (checks_ok hf h) or.len (fun c hc => ?_) hw
  obtain ⟨p, hp, rfl⟩ := List.mem_map.mp hc
  rw [dotZ_comm]
  exact crow_orth hf h hp r hr
def combo (f : Int) (n : Nat) (Q : List (Nat × List Int)) (w : List Int) (l : List Nat) : List Int := l.foldl (fun acc p => pt f acc (crow f n Q p) (gd w p)) (zer n)
theorem combo_sp {w : List Int} (l : List Nat) : (∀ p ∈ l, p ∈ free n s.found) → Sp f n (checks f n s.found) (combo f n s.found w l) := by
  refine snoc_rec (P := fun l => (∀ p ∈ l, p ∈ free n s.found) → Sp f n (checks f n s.found) (combo f n s.found w l)) (fun _ => .zero) (fun l p ih hl => ?_) l
  unfold combo
  rw [List.foldl_append]
  exact Sp.add _ (ih fun q hq => hl q (by simp [hq])) (List.mem_map.mpr ⟨p, hl p (by simp), rfl⟩)
theorem combo_len {w : List Int} (l : List Nat) : (combo f n s.found w l).length = n := by
  refine snoc_rec (P := fun l => (combo f n s.found w l).length = n) (by simp [combo, zer]) (fun l p ih => ?_) l
  unfold combo at ih ⊢
  rw [List.foldl_append]
  exact pt_len ih crow_len
theorem lsum_app {α : Type} {g : α → Int} : ∀ {a b : List α}, lsum g (a ++ b) = lsum g a + lsum g b
  | [], b => by simp [lsum]
  | x :: a, b => by rw [List.cons_append, lsum, lsum, lsum_app]; omega
theorem combo_gd {w : List Int} {j : Nat} (hj : j < n) (l : List Nat) : gd (combo f n s.found w l) j = lsum (fun p => gd w p * gd (crow f n s.found p) j) l % f := by
  refine snoc_rec (P := fun l => gd (combo f n s.found w l) j = lsum (fun p => gd w p * gd (crow f n s.found p) j) l % f) (by simp [combo, gd_zer, lsum]) (fun l p ih => ?_) l
  have e : combo f n s.found w (l ++ [p]) = pt f (combo f n s.found w l) (crow f n s.found p) (gd w p) := by unfold combo; rw [List.foldl_append]; rfl
  rw [e, gd_pt hj (combo_len l) crow_len, ih, em1, lsum_app]
  simp [lsum]
theorem orth_sp {w : List Int} (hf : 2 ≤ f) (h : StepOk f n rows n s) (ow : RowOk f n w) (ho : Orth f (s.found.map Prod.snd) w) : Sp f n (checks f n s.found) w := by
  have f0 : 0 < f := by omega
  have e : combo f n s.found w (free n s.found) = w := by
    refine gd_ext (combo_len _) ow.len fun j hj => ?_
    rw [combo_gd hj]
    by_cases hm : j ∈ s.found.map Prod.fst
    · obtain ⟨q, hq, rfl⟩ := List.mem_map.mp hm
      have oq := h.okF q.2 (List.mem_map.mpr ⟨q, hq, rfl⟩)
      have hd := ho q.2 (List.mem_map.mpr ⟨q, hq, rfl⟩)
      rw [dotZ_sum ow.len oq.len, lsum_split (fun j => !decide (j ∈ s.found.map Prod.fst))] at hd
      have e2 : lsum (fun j => gd w j * gd q.2 j) ((List.range n).filter fun x => !(!decide (x ∈ s.found.map Prod.fst))) = gd w q.1 := by
        rw [lsum_only (nodup_filter List.nodup_range) (c := q.1) (by
          rw [List.mem_filter]; exact ⟨fmem_range h hq, by rw [Bool.not_not, decide_eq_true_eq]; exact hm⟩) ?_]
        · rw [h.one q hq]; omega
        · intro y hy hne
          have hy2 := (List.mem_filter.mp hy).2
          simp only [Bool.not_not, decide_eq_true_eq] at hy2
          obtain ⟨q', hq', rfl⟩ := List.mem_map.mp hy2
          rw [h.oth q hq q' hq' (fun e => hne e.symm)]; simp
      rw [e2] at hd
      have e3 : lsum (fun p => gd w p * gd (crow f n s.found p) q.1) (free n s.found) % f = (0 + -1 * lsum (fun j => gd w j * gd q.2 j) (free n s.found)) % f := by
        have : (0 + -1 * lsum (fun j => gd w j * gd q.2 j) (free n s.found)) = lsum (fun x => (fun _ => (0 : Int)) x + -1 * (fun j => gd w j * gd q.2 j) x) (free n s.found) := by
          rw [lsum_lin, lsum_zero (g := fun _ => (0 : Int)) fun _ _ => rfl]
        rw [this]
        refine lsum_emod fun p hp => ?_
        rw [crow_pivot h hq, Int.mul_emod, Int.emod_emod, ← Int.mul_emod]
        congr 1
        rw [Int.zero_sub, Int.mul_neg]
        show _ = (0 : Int) + -1 * (gd w p * gd q.2 p)
        omega
      rw [e3]
      have hF : free n s.found = (List.range n).filter fun j => !decide (j ∈ s.found.map Prod.fst) := rfl
      rw [← hF] at hd
      generalize lsum (fun j => gd w j * gd q.2 j) (free n s.found) = A at hd ⊢
      have hb := ow.gd f0 q.1
      have : (0 + -1 * A) % f = gd w q.1 % f := by
        have h1 : (0 + -1 * A) = gd w q.1 - (A + gd w q.1) := by omega
        rw [h1, Int.sub_emod, hd]; simp
      rw [this, ow.gdm f0]
    · rw [lsum_only free_nodup (c := j) (mem_free.mpr ⟨hj, hm⟩) fun y hy ne => by
        rw [crow_free h (mem_free.mp hy).1 hm, if_neg ne]; simp]
      rw [crow_free h hj hm, if_pos rfl, Int.mul_one, ow.gdm f0]
  rw [← e]
  exact combo_sp _ fun p hp => hp
/-- the words that all rows check are the span of the checking rows -/
theorem dual_iff {w : List Int} (hf : 2 ≤ f) (hr : AllOk f n rows) (h : StepOk f n rows n s) : Sp f n (checks f n s.found) w ↔ RowOk f n w ∧ Orth f rows w := by
  have f0 : 0 < f := by omega
  constructor
  · intro hw
    have ow := hw.ok f0 (checks_ok hf h)
    exact ⟨ow, (orth_found hf hr h ow.len).mpr (sp_orth hf h hw)⟩
  · rintro ⟨ow, ho⟩
    exact orth_sp hf h ow ((orth_found hf hr h ow.len).mp ho)
/-- rows in steps are independent -/
theorem steps_indep (hf : 2 ≤ f) (h : StepOk f n rows n s) : Indep f n (s.found.map Prod.snd) := by
  have f0 : 0 < f := by omega
  intro pre r post e hsp
  obtain ⟨l1, l2, e1, e2, e3⟩ := List.map_eq_append_iff.mp e
  obtain ⟨q, l3, rfl, rfl, rfl⟩ := List.map_eq_cons_iff.mp e3
  have hq : q ∈ s.found := by rw [e1]; simp
  have pw := h.pw
  rw [e1, List.pairwise_append] at pw
  have hz : ∀ v, Sp f n pre v → gd v q.1 = 0 := fun v hv => by
    have okp : AllOk f n pre := fun x hx => h.okF x (by rw [e]; simp [hx])
    induction hv with
    | zero => exact gd_zer
    | @add u x t hu hx ih =>
      rw [gd_pt (h.lt q hq) (hu.ok f0 okp).len (okp x hx).len, ih]
      rw [← e2] at hx
      obtain ⟨y, hy, rfl⟩ := List.mem_map.mp hx
      have hlt := pw.2.2 y hy q (by simp)
      rw [h.oth y (by rw [e1]; simp [hy]) q hq (by omega)]
      simp
  have := hz _ hsp
  rw [h.one q hq] at this
  omega
end
end CB
set_option Elab.async false
set_option linter.all false
set_option maxRecDepth 100000
namespace CB
open PySem PySem.Spec PyProof.Rows L2
def fs_product : FS := (sRet (fBin gMod (fApp gSum (fCons (fComp (fAppL gZip (fCons (fVar 1) (fCons (fVar 2) fNil))) (bTup2 (bName 3) (bName 4)) fYes (fBin gMulI (fVar 3) (fVar 4)) [3, 4]) fNil)) (fVar 0)))
def q_product : Sem1 := runB 5 fs_product

def fs_need_word : FS := (sIf (fNot (fB (fCall (fun ds S => noEx (q_is_row ds S)) (fCons (fVar 1) (fCons (fBin gIx (fVar 0) (fC (.int 0))) (fCons (fBin gIx (fVar 0) (fC (.int 1))) fNil)))))) sNo
 sSkip)
def q_need_word : Sem1 := runB 2 fs_need_word

def fb_checks_of_1 : FS := (sPut 8 (fVar 10) (fBin gMod (fBin gSub (fC (.int 0)) (fBin gIx (fVar 9) (fVar 7))) (fVar 1)))
def fb_checks_of_2 : FS := (sSeq (sSetO 8 (fBin gRepA (fLst (fCons (fC (.int 0)) fNil)) (fVar 2)))
 (sSeq (sPut 8 (fVar 7) (fC (.int 1)))
 (sSeq (sFor (fAppL gZip (fCons (fVar 4) (fCons (fVar 5) fNil))) (bTup2 (bName 9) (bName 10)) fb_checks_of_1)
 (sMut 6 gAppend (fCons (fApp gTuple (fCons (fVarO 8) fNil)) fNil)))))
def fs_checks_of : FS := (sSeq (sSetT (bTup3 (bName 1) (bName 2) (bName 3)) (fVar 0))
 (sSeq (sSetT (bTup2 (bName 4) (bName 5)) (fCall (fun ds S => noEx (q_in_steps ds S)) (fCons (fVar 1) (fCons (fVar 3) (fCons (fListR gRange1 (fCons (fVar 2) fNil)) fNil)))))
 (sSeq (sSetO 6 (fLst fNil))
 (sSeq (sFor (fIter (fComp (fAppL gRange1 (fCons (fVar 2) fNil)) (bName 7) (fB (fBin gNotIn (fVar 7) (fVar 5))) (fVar 7) [7])) (bName 7) fb_checks_of_2)
 (sRet (fImm (fApp gTuple (fCons (fBin gIx (fCall (fun ds S => noEx (q_in_steps ds S)) (fCons (fVar 1) (fCons (fVarO 6) (fCons (fListR gRange1 (fCons (fVar 2) fNil)) fNil)))) (fC (.int 0))) fNil))))))))
def q_checks_of : Sem1 := runB 11 fs_checks_of

def fs_syndrome_of : FS := (sRet (fImm (fApp gTuple (fCons (fComp (fIter (fCall (fun ds S => noEx (q_checks_of ds S)) (fCons (fVar 0) fNil))) (bName 2) fYes (fCall (fun ds S => noEx (q_product ds S)) (fCons (fBin gIx (fVar 0) (fC (.int 0))) (fCons (fVar 1) (fCons (fVar 2) fNil)))) [2]) fNil))))
def q_syndrome_of : Sem1 := runB 3 fs_syndrome_of

def fs_dual : FS := (sSeq (sDrop (fCall (fun ds S => noEx (q_need_code ds S)) (fCons (fVar 0) fNil)))
 (sSeq (sSet 1 (fImm (fTup (fCons (fBin gIx (fVar 0) (fC (.int 0))) (fCons (fBin gIx (fVar 0) (fC (.int 1))) (fCons (fCall (fun ds S => noEx (q_checks_of ds S)) (fCons (fVar 0) fNil)) fNil))))))
 (sSeq (sDrop (fCall (fun ds S => noEx (q_need_code ds S)) (fCons (fVar 1) fNil)))
 (sRet (fImm (fVar 1))))))
def q_dual : Sem1 := runB 2 fs_dual

def fs_syndrome : FS := (sSeq (sDrop (fCall (fun ds S => noEx (q_need_code ds S)) (fCons (fVar 0) fNil)))
 (sSeq (sDrop (fCall (fun ds S => noEx (q_need_word ds S)) (fCons (fVar 0) (fCons (fVar 1) fNil))))
 (sRet (fCall (fun ds S => noEx (q_syndrome_of ds S)) (fCons (fVar 0) (fCons (fVar 1) fNil))))))
def q_syndrome : Sem1 := runB 2 fs_syndrome

def fb_law_all_1 : FS := (sSetO 4 (fBin gAdd (fVarO 4) (fComp (fAppL gRange1 (fCons (fVar 0) fNil)) (bName 6) fYes (fImm1 (fBin gAdd (fVar 5) (fTup (fCons (fVar 6) fNil)))) [6])))
def fb_law_all_2 : FS := (sSeq (sSetO 4 (fLst fNil))
 (sSeq (sDem 2 (sFor (fIter (fVar 2)) (bName 5) fb_law_all_1))
 (sHand 2 4)))
def fs_law_all : FS := (sSeq (sSetO 2 (fLst (fCons (fTup fNil) fNil)))
 (sSeq (sFor (fAppL gRange1 (fCons (fVar 1) fNil)) (bName 3) fb_law_all_2)
 (sRet (fVarO 2))))
def q_law_all : Sem1 := runB 7 fs_law_all

def fs_law_dot : FS := (sRet (fBin gMod (fApp gSum (fCons (fComp (fAppL gZip (fCons (fVar 1) (fCons (fVar 2) fNil))) (bTup2 (bName 3) (bName 4)) fYes (fBin gMulI (fVar 3) (fVar 4)) [3, 4]) fNil)) (fVar 0)))
def q_law_dot : Sem1 := runB 5 fs_law_dot

end CB
set_option Elab.async false
set_option linter.all false
set_option maxRecDepth 100000
namespace CB
open PySem PySem.Spec PyProof.Rows L2
theorem lsum_list {α : Type} {g : α → Int} : ∀ l : List α, (l.map g).sum = lsum g l
  | [] => rfl
  | x :: l => by rw [List.map_cons, List.sum_cons, lsum_list l]; rfl
theorem gSum_ints {is : List Int} : gSum [.lst (is.map D.int)] = some (.int is.sum) := by
  show (intsOf (is.map D.int)).map _ = _
  rw [intsOf_map]; rfl
theorem product_ok {f : Int} {a b : List Int} {S : Store} (hf : 0 < f) (hb : ∀ x, ∀ y ∈ b, okMul x y = true) (hl : a.length ≤ 1000) : q_product [.int f, encR a, encR b] S = .ok (.int (dotZ a b % f)) S := by
  have hz : gZip [encR a, encR b] = some ((List.zip a b).map fun p : Int × Int => D.tup [.int p.1, .int p.2]) := by unfold encR; rw [gZip_tup, dZip_map]
  have hc := compF_all (b := bTup2 (bName 3) (bName 4)) (elt := fBin gMulI (fVar 3) (fVar 4)) (ρ := [.ro (.int f), .ro (encR a), .ro (encR b), .no, .no]) (S := S) (fun p : Int × Int => D.tup [.int p.1, .int p.2]) (fun p => D.int (p.1 * p.2)) (List.zip a b) fun p hp => ⟨_, rfl, by
    have := hb p.1 p.2 (List.of_mem_zip hp).2
    simp [this]⟩
  have ho : okLen (min a.length b.length) = true := ok_le (by omega)
  have hs := gSum_ints (is := (List.zip a b).map fun p => p.1 * p.2)
  rw [lsum_list, List.map_map] at hs
  have hs : gSum [.lst ((List.zip a b).map fun p => D.int (p.1 * p.2))] = some (.int (dotZ a b)) := hs
  unfold q_product fs_product
  simp [hz, ho, hc, hs, hf]
theorem law_dot_ok {f : Int} {a b : List Int} {S : Store} (hf : 0 < f) (hb : ∀ x, ∀ y ∈ b, okMul x y = true) (hl : a.length ≤ 1000) : q_law_dot [.int f, encR a, encR b] S = .ok (.int (dotZ a b % f)) S := by
  have hz : gZip [encR a, encR b] = some ((List.zip a b).map fun p : Int × Int => D.tup [.int p.1, .int p.2]) := by unfold encR; rw [gZip_tup, dZip_map]
  have hc := compF_all (b := bTup2 (bName 3) (bName 4)) (elt := fBin gMulI (fVar 3) (fVar 4)) (ρ := [.ro (.int f), .ro (encR a), .ro (encR b), .no, .no]) (S := S) (fun p : Int × Int => D.tup [.int p.1, .int p.2]) (fun p => D.int (p.1 * p.2)) (List.zip a b) fun p hp => ⟨_, rfl, by
    have := hb p.1 p.2 (List.of_mem_zip hp).2
    simp [this]⟩
  have ho : okLen (min a.length b.length) = true := ok_le (by omega)
  have hs := gSum_ints (is := (List.zip a b).map fun p => p.1 * p.2)
  rw [lsum_list, List.map_map] at hs
  have hs : gSum [.lst ((List.zip a b).map fun p => D.int (p.1 * p.2))] = some (.int (dotZ a b)) := hs
  unfold q_law_dot fs_law_dot
  simp [hz, ho, hc, hs, hf]
theorem okMul_any {f : Int} {n : Nat} {r : List Int} (h : RowOk f n r) (hf : f ≤ 1000) : ∀ x, ∀ y ∈ r, okMul x y = true := fun x y hy => okMul_row h hf y hy
@[simp] theorem sPut_at {ρ : En} {S : Store} {i : Nat} {fk fe : F D} : sPut i fk fe ρ S = (fe ρ S).toS fun d S => match ρ[i]? with
  | some (.own (.lst xs)) => (fk ρ S).toS fun k S => match k with
    | .int k => match ixN xs.length k with
      | some j => if d.imm then .nx (ρ.set i (.own (.lst (xs.set j d)))) S else .no
      | none => .no
    | _ => .no
  | _ => .no := rfl
theorem ixN_nat' {n p : Nat} (h : p < n) : ixN n (p : Int) = some p := by
  unfold ixN
  rw [if_pos (by omega), if_pos (by omega)]; simp
theorem gNotIn_nats {ps : List Nat} {p : Nat} : gNotIn (.int (p : Int)) (.lst (ps.map fun (j : Nat) => D.int (j : Int))) = some (.bl (!decide (p ∈ ps))) := by
  have hs : SeqAt.shaped (D.lst (ps.map fun (j : Nat) => D.int (j : Int))).py = true := by
    have := shaped_ints (ps.map fun (j : Nat) => (j : Int))
    rwa [List.map_map] at this
  have ha : ((ps.map fun (j : Nat) => D.int (j : Int)).any fun z => PyData.eqv z.py (D.int (p : Int)).py) = decide (p ∈ ps) := by
    induction ps with
    | nil => rfl
    | cons x ps ih =>
      have hs' : SeqAt.shaped (D.lst (ps.map fun (j : Nat) => D.int (j : Int))).py = true := by
        have := shaped_ints (ps.map fun (j : Nat) => (j : Int))
        rwa [List.map_map] at this
      rw [List.map_cons, List.any_cons, ih hs']
      have : PyData.eqv (D.int (x : Int)).py (D.int (p : Int)).py = decide (p = x) := by
        show ((x : Int) == (p : Int)) = _
        by_cases h : p = x
        · subst h; simp
        · have : ¬ (x : Int) = (p : Int) := by omega
          simp [h, this]
      rw [this]
      by_cases h : p = x <;> simp [h]
  show (if _ then some (D.bl (!((ps.map fun (j : Nat) => D.int (j : Int)).any fun z => PyData.eqv z.py (D.int (p : Int)).py))) else none) = _
  have e : (SeqAt.shaped (D.int (p : Int)).py && SeqAt.shaped (D.lst (ps.map fun (j : Nat) => D.int (j : Int))).py) = true := by
    rw [Bool.and_eq_true]; exact ⟨rfl, hs⟩
  rw [if_pos e, ha]
theorem gRepA_zlist {n : Nat} (h : n ≤ 1000) : gRepA (.lst [.int 0]) (.int (n : Int)) = some (.lst ((zer n).map D.int)) := by
  have e : (okLen (([D.int 0] : List D).length * ((n : Int)).toNat) && decide (-(2 ^ 63) ≤ (n : Int)) && decide ((n : Int) < 2 ^ 63)) = true := by
    rw [Bool.and_eq_true, Bool.and_eq_true]
    refine ⟨⟨ok_le (by simp; omega), decide_eq_true (by omega)⟩, decide_eq_true (by omega)⟩
  show (if _ then some _ else none) = _
  rw [if_pos e]
  simp [zer]
section
variable {f : Int} {n : Nat} {rows : List (List Int)} {s : StepSt}
theorem crow_body {a0 a3 a4 a5 a6 : Sl} {p : Nat} {row : List Int} {q : Nat × List Int} {S : Store} (hf : 0 < f) (hq : q.1 < row.length) (hp : p < q.2.length) :
    fb_checks_of_1 [a0, .ro (.int f), .ro (.int (n : Int)), a3, a4, a5, a6, .ro (.int (p : Int)), .own (.lst (row.map D.int)), .ro (encR q.2), .ro (.int (q.1 : Int))] S =
      .nx [a0, .ro (.int f), .ro (.int (n : Int)), a3, a4, a5, a6, .ro (.int (p : Int)), .own (.lst ((row.set q.1 ((0 - gd q.2 p) % f)).map D.int)), .ro (encR q.2), .ro (.int (q.1 : Int))] S := by
  unfold fb_checks_of_1
  simp [gIx_enc hp, hf, ixN_nat' hq, List.map_set]
theorem checks_body {a0 a3 x8 x9 x10 : Sl} {p : Nat} {acc : List (List Int)} {S : Store} (h2 : 2 ≤ f) (hn : n ≤ 500) (h : StepOk f n rows n s) (hp : p < n) (hal : acc.length ≤ 1000) (hk : s.found.length ≤ 1000) :
    ∃ x8' x9' x10', fb_checks_of_2 [a0, .ro (.int f), .ro (.int (n : Int)), a3, .ro (.lst ((foundD s).map encR)), .ro (.lst (pivD s)), .own (.lst (acc.map encR)), .ro (.int (p : Int)), x8, x9, x10] S =
      .nx [a0, .ro (.int f), .ro (.int (n : Int)), a3, .ro (.lst ((foundD s).map encR)), .ro (.lst (pivD s)), .own (.lst ((acc ++ [crow f n s.found p]).map encR)), .ro (.int (p : Int)), x8', x9', x10'] S := by
  have hz : gZip [.lst ((foundD s).map encR), .lst (pivD s)] = some (s.found.map fun q => D.tup [encR q.2, .int (q.1 : Int)]) := by
    rw [gZip_lst]
    unfold dZip foundD pivD
    rw [List.map_map, List.zip_map', List.map_map]; rfl
  obtain ⟨ρ', S', e, rfl, x9', x10', rfl⟩ := loopS_all (b := bTup2 (bName 9) (bName 10)) (body := fb_checks_of_1) (fun q : Nat × List Int => D.tup [encR q.2, .int (q.1 : Int)]) (fun pre ρ S' => S' = S ∧ ∃ x9 x10, ρ = [a0, .ro (.int f), .ro (.int (n : Int)), a3, .ro (.lst ((foundD s).map encR)), .ro (.lst (pivD s)), .own (.lst (acc.map encR)), .ro (.int (p : Int)),
      .own (.lst ((pre.foldl (fun row q => row.set q.1 ((0 - gd q.2 p) % f)) ((zer n).set p 1)).map D.int)), x9, x10]) s.found
    [a0, .ro (.int f), .ro (.int (n : Int)), a3, .ro (.lst ((foundD s).map encR)), .ro (.lst (pivD s)), .own (.lst (acc.map encR)), .ro (.int (p : Int)), .own (.lst (((zer n).set p 1).map D.int)), x9, x10] S ⟨rfl, x9, x10, rfl⟩ fun pre q post ρ S' hs ⟨e1, x9, x10, e2⟩ => by
    subst e1 e2
    have hq : q ∈ s.found := by rw [hs]; simp
    have hl := (h.okF q.2 (List.mem_map.mpr ⟨q, hq, rfl⟩)).len
    refine ⟨_, _, _, rfl, crow_body (n := n) (by omega) (by rw [cf_len]; simpa [zer] using h.lt q hq) (by omega), rfl, .ro (encR q.2), .ro (.int (q.1 : Int)), by rw [List.foldl_append]; rfl⟩
  have ec : s.found.foldl (fun row q => row.set q.1 ((0 - gd q.2 p) % f)) ((zer n).set p 1) = crow f n s.found p := rfl
  rw [ec] at e
  refine ⟨.own (.lst ((crow f n s.found p).map D.int)), x9', x10', ?_⟩
  have o1 : okLen (acc.length + 1) = true := ok_le (by omega)
  have hzl : (zer n).length = n := by simp [zer]
  have hset : ((zer n).map D.int).set p (.int 1) = ((zer n).set p 1).map D.int := by rw [List.map_set]
  unfold fb_checks_of_2
  have hrz := gRepA_zlist (n := n) (by omega)
  have him : immL ((zer n).map D.int) = true := immL_ints
  simp only [sSeq_at, sSetO_at, fBin_at, fLst_at, fCons_at, fC_at, fNil_at, Out.bind_ok, List.length_cons, List.length_nil, Nat.zero_add, okLen_1, if_true, fVar_at, List.getElem?_cons_succ, List.getElem?_cons_zero, hrz, ofOpt_some, Out.toS_ok, isC_lst, topImm_lst, him, Bool.and_self, List.set_cons_succ, List.set_cons_zero,
    sPut_at, List.length_map, hzl, ixN_nat' hp, imm_int, hset, sFor_at, fAppL_at, hz, e, sMut_at, fApp_at, fVarO_at, gTuple_lst, gAppend_at, imm_tup, immL_ints, o1, List.map_append, List.map_cons, List.map_nil, encR_def, imm_enc, Bool.and_true]
theorem free_len : (free n s.found).length ≤ n := by
  unfold free
  have := List.length_filter_le (fun j => !decide (j ∈ s.found.map Prod.fst)) (List.range n)
  simpa using this
theorem checks_of_ok {S : Store} (C : CodeOk f n rows) : q_checks_of [codeD f n rows] S = .ok (.tup ((stdRows f n (checks f n (stepsP f n rows).found)).map encR)) S := by
  have n10 := C.n10
  have h2 := C.f2
  have hst := steps_ok C.f2 C.f3 C.ok
  have e1 := in_steps_ok (S := S) (X := .tup (rows.map encR)) C.f2 C.f3 (n := n) (by omega) (.inr rfl) C.ok (by have := C.k; omega)
  generalize hs : stepsP f n rows = s at hst e1 ⊢
  have hfl : s.found.length ≤ 10 := by have := hst.len; have := C.k; omega
  have hfr := free_len (n := n) (s := s)
  have hcl : (checks f n s.found).length ≤ 10 := by simp [checks]; omega
  have e2 := in_steps_ok (S := S) (X := .lst ((checks f n s.found).map encR)) C.f2 C.f3 (n := n) (by omega) (.inl rfl) (checks_ok h2 hst) (by omega)
  have hb : ∀ {b1 b2 b3 : Bd} {ρ : En}, bTup3 b1 b2 b3 (codeD f n rows) ρ = (b1 (.int f) ρ).bind fun ρ => (b2 (.int (n : Int)) ρ).bind fun ρ => b3 (.tup (rows.map encR)) ρ := fun {_ _ _ _} => rfl
  have hpn : pivD s = (s.found.map Prod.fst).map fun (j : Nat) => D.int (j : Int) := by unfold pivD; rw [List.map_map]; rfl
  have hc := compF_map (b := bName 7) (c := fB (fBin gNotIn (fVar 7) (fVar 5))) (elt := fVar 7) (ρ := [.ro (codeD f n rows), .ro (.int f), .ro (.int (n : Int)), .ro (.tup (rows.map encR)), .ro (.lst ((foundD s).map encR)), .ro (.lst (pivD s)), .own (.lst []), .no, .no, .no, .no]) (S := S)
    (fun (i : Nat) => D.int (i : Int)) (fun j => !decide (j ∈ s.found.map Prod.fst)) (fun (i : Nat) => D.int (i : Int)) (List.range n) fun j hj => ⟨_, rfl, by
      have := gNotIn_nats (ps := s.found.map Prod.fst) (p := j)
      rw [← hpn] at this
      simp only [fB_at, fBin_at, fVar_at, List.set_cons_succ, List.set_cons_zero, List.getElem?_cons_succ, List.getElem?_cons_zero, Out.bind_ok, this, ofOpt_some], fun _ => by simp⟩
  obtain ⟨ρ', S', e3, rfl, x7, x8, x9, x10, rfl⟩ := loopS_all (b := bName 7) (body := fb_checks_of_2) (fun (i : Nat) => D.int (i : Int)) (fun pre ρ S' => S' = S ∧ ∃ x7 x8 x9 x10, ρ = [.ro (codeD f n rows), .ro (.int f), .ro (.int (n : Int)), .ro (.tup (rows.map encR)), .ro (.lst ((foundD s).map encR)), .ro (.lst (pivD s)), .own (.lst ((pre.map (crow f n s.found)).map encR)), x7, x8, x9, x10]) (free n s.found)
    [.ro (codeD f n rows), .ro (.int f), .ro (.int (n : Int)), .ro (.tup (rows.map encR)), .ro (.lst ((foundD s).map encR)), .ro (.lst (pivD s)), .own (.lst []), .no, .no, .no, .no] S ⟨rfl, .no, .no, .no, .no, rfl⟩ fun pre p post ρ S' hsp ⟨e8, x7, x8, x9, x10, e9⟩ => by
    subst e8 e9
    have hp := (mem_free.mp (show p ∈ free n s.found by rw [hsp]; simp)).1
    have hpl : pre.length ≤ 10 := by
      have := congrArg List.length hsp
      simp at this; omega
    obtain ⟨x8', x9', x10', e⟩ := checks_body (a0 := .ro (codeD f n rows)) (a3 := .ro (.tup (rows.map encR))) (x8 := x8) (x9 := x9) (x10 := x10) (acc := pre.map (crow f n s.found)) (S := S') h2 (by omega) hst hp (by simp; omega) (by omega)
    exact ⟨_, _, _, rfl, e, rfl, .ro (.int (p : Int)), x8', x9', x10', by simp⟩
  have o1 : okLen n = true := ok_le (by omega)
  have ok1 : okR (n : Int) = true := okR_nat (by omega)
  have hck : (free n s.found).map (crow f n s.found) = checks f n s.found := rfl
  have hfr2 : (List.range n).filter (fun j => !decide (j ∈ s.found.map Prod.fst)) = free n s.found := rfl
  rw [hck] at e3
  rw [hfr2] at hc
  unfold q_checks_of fs_checks_of
  simp only [runB_at, List.map_cons, List.map_nil, List.length_cons, List.length_nil]
  have hrep : List.replicate (11 - (0 + 1)) Sl.no = [.no, .no, .no, .no, .no, .no, .no, .no, .no, .no] := rfl
  rw [hrep]
  simp only [sSeq_at, sSetT_at, fVar_at, List.cons_append, List.nil_append, List.getElem?_cons_succ, List.getElem?_cons_zero, Out.toS_ok, hb, bName_at, Option.bind_some, List.set_cons_succ, List.set_cons_zero, fCall_at, fCons_at, fListR_at, fNil_at, Out.bind_ok, gRange1_at, ok1, if_true, Int.toNat_natCast, dRange_zero, List.length_map, List.length_range, o1, ofOpt_some, e1, noEx_ok, bTup2_at,
    sSetO_at, fLst_at, List.length_nil, okLen_0, isC_lst, topImm_lst, immL_nil, Bool.and_self, sFor_at, fIter_at, fComp_at, fAppL_at, wipeE_cons, wipeE_nil, hc, e3, sRet_at, fImm_at, fApp_at, fBin_at, fVarO_at, e2, fC_at, gIx_tup, a0', gTuple_lst, imm_tup, immL_encs]
  rfl
end
end CB
set_option Elab.async false
set_option linter.all false
set_option maxRecDepth 100000
namespace CB
open PySem PySem.Spec PyProof.Rows L2 TL
/-! read, of the lines of codes -/
abbrev CT := Int × Nat × List (List Int)
def cD (c : CT) : D := codeD c.1 c.2.1 c.2.2
def stepLn (found : List CT) : Ln → List CT
  | .hd f n => found ++ [(f, n, [])]
  | .rw r => match found.getLast? with
    | some (f, n, rows) => found.dropLast ++ [(f, n, rows ++ [r])]
    | none => []
def lns (c : CT) : List Ln := .hd c.1 c.2.1 :: c.2.2.map .rw
theorem fold_rows {found : List CT} {f : Int} {n : Nat} : ∀ (rs rows : List (List Int)), (rs.map Ln.rw).foldl stepLn (found ++ [(f, n, rows)]) = found ++ [(f, n, rows ++ rs)]
  | [], rows => by simp
  | r :: rs, rows => by
    have e : stepLn (found ++ [(f, n, rows)]) (.rw r) = found ++ [(f, n, rows ++ [r])] := by simp [stepLn]
    rw [List.map_cons, List.foldl_cons, e, fold_rows rs]
    simp
theorem fold_code {found : List CT} (c : CT) : (lns c).foldl stepLn found = found ++ [c] := by
  unfold lns
  rw [List.foldl_cons]
  show (c.2.2.map Ln.rw).foldl stepLn (found ++ [(c.1, c.2.1, [])]) = _
  rw [fold_rows, List.nil_append]
theorem fold_codes : ∀ (cs found : List CT), (cs.flatMap lns).foldl stepLn found = found ++ cs
  | [], found => by simp
  | c :: cs, found => by
    rw [List.flatMap_cons, List.foldl_append, fold_code, fold_codes cs]
    simp
theorem shaped_cD : ∀ cs : List CT, PyData.canLayAll0 (pyL (cs.map cD)) = true ∧ PyData.depthAll (pyL (cs.map cD)) ≤ 3
  | [] => ⟨rfl, by simp [pyL, PyData.depthAll]⟩
  | c :: cs => by
    obtain ⟨a, b⟩ := shaped_cD cs
    have h1 := canRows c.2.2
    have h2 := depRows c.2.2
    simp only [List.map_cons, pyL, PyData.canLayAll0, PyData.depthAll, a, Bool.and_true, cD, codeD, D.py, PyData.canLay0, h1, PyData.depth]
    refine ⟨trivial, ?_⟩
    omega
theorem gEq_codes {cs : List CT} : gEq (.lst (cs.map cD)) (.lst []) = some (.bl cs.isEmpty) := by
  show (if _ then some (D.bl (PyData.eqvAll (pyL (cs.map cD)) [])) else none) = _
  have e : (SeqAt.shaped (D.lst (cs.map cD)).py && SeqAt.shaped (D.lst []).py) = true := by
    rw [Bool.and_eq_true]
    refine ⟨?_, rfl⟩
    obtain ⟨a, b⟩ := shaped_cD cs
    show SeqAt.shaped (.list (pyL (cs.map cD))) = true
    unfold SeqAt.shaped
    simp [PyData.canLay0, a, PyData.depth]
    omega
  rw [if_pos e, eqv_nil]
theorem strOk_small {x : Str} (h : ∀ c ∈ tl x, c < 1114112) : PyData.strOk x = true := by
  unfold PyData.strOk
  rw [← Array.all_toList, List.all_eq_true]
  exact fun c hc => decide_eq_true (h c hc)
theorem shaped_str' {x : Str} (h : ∀ c ∈ tl x, c < 1114112) : SeqAt.shaped (D.str x).py = true := by
  show SeqAt.shaped (.str x) = true
  rw [shaped_str]
  exact strOk_small h
theorem gEq_str {x y : Str} (hx : ∀ c ∈ tl x, c < 1114112) (hy : ∀ c ∈ tl y, c < 1114112) : gEq (.str x) (.str y) = some (.bl (decide (x = y))) := by
  show (if _ then some (D.bl (PyData.eqv (.str x) (.str y))) else none) = _
  have e : (SeqAt.shaped (D.str x).py && SeqAt.shaped (D.str y).py) = true := by rw [Bool.and_eq_true]; exact ⟨shaped_str' hx, shaped_str' hy⟩
  rw [if_pos e]
  congr 2
theorem gNe_str {x y : Str} (hx : ∀ c ∈ tl x, c < 1114112) (hy : ∀ c ∈ tl y, c < 1114112) : gNe (.str x) (.str y) = some (.bl (!decide (x = y))) := by
  show (if _ then some (D.bl (!PyData.eqv (.str x) (.str y))) else none) = _
  have e : (SeqAt.shaped (D.str x).py && SeqAt.shaped (D.str y).py) = true := by rw [Bool.and_eq_true]; exact ⟨shaped_str' hx, shaped_str' hy⟩
  rw [if_pos e]
  congr 3
theorem numL_small {n c : Nat} (h : c ∈ numL n) : c < 1114112 := by
  have : ¬ (c < 48 ∨ 57 < c) := fun z => numL_free (n := n) z h
  omega
theorem Ln.small {l : Ln} (h : l.Ok) : ∀ c ∈ tl l.str, c < 1114112 := by
  cases l with
  | hd f n =>
    obtain ⟨h1, h2, h3, h4⟩ := h
    intro c hc
    have hc : c ∈ tl (hdrS f n) := hc
    rw [tl_hdrS (by omega) (by omega)] at hc
    simp only [List.mem_append, List.mem_cons, List.not_mem_nil, or_false] at hc
    rcases hc with ((h | h) | h) | h
    · omega
    · exact numL_small h
    · omega
    · exact numL_small h
  | rw r =>
    intro c hc
    have hc : c ∈ tl (digS r) := hc
    rw [tl_digS fun x hx => by have := h.2.2 x hx; omega] at hc
    obtain ⟨x, hx, rfl⟩ := List.mem_map.mp hc
    have := h.2.2 x hx
    omega
theorem code_small : ∀ c ∈ tl (Str.ofString "code"), c < 1114112 := by rw [tl_code]; decide
theorem empty_small : ∀ c ∈ tl (Str.ofString ""), c < 1114112 := by rw [tl_nil]; decide
theorem dig_not_code {r : List Int} (h : ∀ x ∈ r, 0 ≤ x ∧ x < 10) : digS r ≠ Str.ofString "code" := fun e => by
  have a := congrArg tl e
  rw [tl_digS h, tl_code] at a
  cases r with
  | nil => simp at a
  | cons x r =>
    have hx := h x (by simp)
    rw [List.map_cons] at a
    injection a with a _
    omega
theorem ne_empty {x : Str} (h : 1 ≤ x.length) : x ≠ Str.ofString "" := fun e => by
  have a := congrArg tl e
  rw [tl_nil] at a
  rw [len_tl, a] at h
  simp at h
theorem gSplit_ok {a b : Str} (hb : (b.length == 0) = false) (ha : a.length + 2 ≤ 1000000) : gSplit a (.str b) = some (.lst ((Txt.split a b).map D.str)) := by
  show (if (!(b.length == 0) && okLen (a.length + 2)) = true then _ else _) = _
  rw [hb, ok_le ha]
  rfl
theorem ixN_last {k : Nat} : ixN (k + 1) (-1) = some k := by
  unfold ixN
  have h : ¬ ((0 : Int) ≤ -1) := by omega
  have h2 : ((k + 1 : Nat) : Int) + -1 = (k : Int) := by omega
  simp [h, h2]
  try omega
theorem sp_ne : ((Str.ofString " ").length == 0) = false := by rw [len_tl, tl_sp]; rfl
theorem nl_ne : ((Str.ofString "\n").length == 0) = false := by rw [len_tl, tl_nl]; rfl
section
variable {S : Store} {found : List CT} {x0 x2 x4 x5 x6 x7 : Sl} {i : Nat}
theorem read_hd {f : Int} {n : Nat} (h : (Ln.hd f n).Ok) (hk : found.length ≤ 1000) :
    ∃ x4', fb_read_1 [x0, .own (.lst (found.map cD)), .ro (.int (i : Int)), .ro (.str (hdrS f n)), x4, x5, x6, x7, .no, .no] S =
      .nx [x0, .own (.lst ((found ++ [(f, n, [])]).map cD)), .ro (.int (i : Int)), .ro (.str (hdrS f n)), x4', x5, x6, x7, .no, .no] S := by
  have hl := Ln.len h
  obtain ⟨h1, h2, h3, h4⟩ := h
  have hsp : gSplit (hdrS f n) (.str (Str.ofString " ")) = some (.lst [.str (Str.ofString "code"), .str (numS f), .str (numS n)]) := by
    rw [gSplit_ok sp_ne (by have := hl.2; show (Ln.hd f n).str.length + 2 ≤ _; omega), split_hdr (by omega) (by omega)]
    rfl
  have hi : topImm (.lst [.str (Str.ofString "code"), .str (numS f), .str (numS n)]) = true := rfl
  have x0' : gIx (.lst [.str (Str.ofString "code"), .str (numS f), .str (numS n)]) (.int 0) = some (.str (Str.ofString "code")) := rfl
  have x1' : gIx (.lst [.str (Str.ofString "code"), .str (numS f), .str (numS n)]) (.int 1) = some (.str (numS f)) := rfl
  have x2' : gIx (.lst [.str (Str.ofString "code"), .str (numS f), .str (numS n)]) (.int 2) = some (.str (numS n)) := rfl
  have hc : gEq (.str (Str.ofString "code")) (.str (Str.ofString "code")) = some (.bl true) := by rw [gEq_str code_small code_small, decide_eq_true rfl]
  have hlen : gLen [.lst [.str (Str.ofString "code"), .str (numS f), .str (numS n)]] = some (.int 3) := rfl
  have n1 := number_of_ok (S := S) (i := f) (d := .int (i : Int)) (by omega) (by omega)
  have n2 := number_of_ok (S := S) (i := (n : Int)) (d := .int (i : Int)) (by omega) (by omega)
  have hne : ((3 : Int) != 3) = false := rfl
  have ol : okLen ((found.map cD).length + 1) = true := ok_le (by simp; omega)
  have hD : D.tup [.int f, .int (n : Int), .tup []] = cD (f, n, []) := rfl
  have him : (cD (f, n, [])).imm = true := rfl
  refine ⟨.ro (.lst [.str (Str.ofString "code"), .str (numS f), .str (numS n)]), ?_⟩
  unfold fb_read_1
  rw [sSeq_at]
  simp only [fSM, sSet_at, fCall_at, fCons_at, fVar_at, fVarO_at, fC_at, fNil_at, fBin_at, fApp_at, List.getElem?_cons_succ, List.getElem?_cons_zero, Out.bind_ok, ofOpt_some, noEx_ok, Out.toS_ok, List.set_cons_succ, List.set_cons_zero, if_true, fImm_at, fImm1_at, imm_tup, imm_int, imm_non, imm_str, imm_bl, immL_cons, immL_nil, Bool.and_self, fTup_at, fLst_at, List.length_cons, List.length_nil, Nat.zero_add, Nat.reduceAdd, okLen_0, okLen_1, okLen_2, okLen_3, okLen_4, okLen_5, okLen_6, topImm_tup, topImm_lst, topImm_int, gAdd_int, gSub_at, hsp, hi]
  rw [sIf_at]
  simp only [fB_at, sSet_at, fCall_at, fCons_at, fVar_at, fVarO_at, fC_at, fNil_at, fBin_at, fApp_at, List.getElem?_cons_succ, List.getElem?_cons_zero, Out.bind_ok, ofOpt_some, noEx_ok, Out.toS_ok, List.set_cons_succ, List.set_cons_zero, if_true, fImm_at, fImm1_at, imm_tup, imm_int, imm_non, imm_str, imm_bl, immL_cons, immL_nil, Bool.and_self, fTup_at, fLst_at, List.length_cons, List.length_nil, Nat.zero_add, Nat.reduceAdd, okLen_0, okLen_1, okLen_2, okLen_3, okLen_4, okLen_5, okLen_6, topImm_tup, topImm_lst, topImm_int, gAdd_int, gSub_at, x0', hc]
  rw [sSeq_at]
  simp only [sIf_at, fB_at, sSet_at, fCall_at, fCons_at, fVar_at, fVarO_at, fC_at, fNil_at, fBin_at, fApp_at, List.getElem?_cons_succ, List.getElem?_cons_zero, Out.bind_ok, ofOpt_some, noEx_ok, Out.toS_ok, List.set_cons_succ, List.set_cons_zero, if_true, fImm_at, fImm1_at, imm_tup, imm_int, imm_non, imm_str, imm_bl, immL_cons, immL_nil, Bool.and_self, fTup_at, fLst_at, List.length_cons, List.length_nil, Nat.zero_add, Nat.reduceAdd, okLen_0, okLen_1, okLen_2, okLen_3, okLen_4, okLen_5, okLen_6, topImm_tup, topImm_lst, topImm_int, gAdd_int, gSub_at, hlen, gNe_int, hne, Bool.false_eq_true, if_false, sSkip_at]
  simp only [sMut_at, sSet_at, fCall_at, fCons_at, fVar_at, fVarO_at, fC_at, fNil_at, fBin_at, fApp_at, List.getElem?_cons_succ, List.getElem?_cons_zero, Out.bind_ok, ofOpt_some, noEx_ok, Out.toS_ok, List.set_cons_succ, List.set_cons_zero, if_true, fImm_at, fImm1_at, imm_tup, imm_int, imm_non, imm_str, imm_bl, immL_cons, immL_nil, Bool.and_self, fTup_at, fLst_at, List.length_cons, List.length_nil, Nat.zero_add, Nat.reduceAdd, okLen_0, okLen_1, okLen_2, okLen_3, okLen_4, okLen_5, okLen_6, topImm_tup, topImm_lst, topImm_int, gAdd_int, gSub_at, x1', x2', n1, n2, hD, gAppend_at, him, Bool.true_and, ol, List.map_append, List.map_cons, List.map_nil]
theorem read_rw {f : Int} {n : Nat} {rows : List (List Int)} {r : List Int} (h : (Ln.rw r).Ok) (hk : found.length ≤ 1000) (hr : rows.length ≤ 1000) :
    ∃ x4' x5' x6' x7', fb_read_1 [x0, .own (.lst ((found ++ [(f, n, rows)]).map cD)), .ro (.int (i : Int)), .ro (.str (digS r)), x4, x5, x6, x7, .no, .no] S =
      .nx [x0, .own (.lst ((found ++ [(f, n, rows ++ [r])]).map cD)), .ro (.int (i : Int)), .ro (.str (digS r)), x4', x5', x6', x7', .no, .no] S := by
  have hl : 1 ≤ (digS r).length ∧ (digS r).length ≤ 20 := Ln.len h
  have hsm : ∀ c ∈ tl (digS r), c < 1114112 := Ln.small h
  obtain ⟨h1, h2, h3⟩ := h
  have hd10 : ∀ x ∈ r, 0 ≤ x ∧ x < 10 := fun x hx => by have := h3 x hx; omega
  have hsp : gSplit (digS r) (.str (Str.ofString " ")) = some (.lst [.str (digS r)]) := by
    rw [gSplit_ok sp_ne (by have := hl.2; omega), split_dig hd10]
    rfl
  have hi : topImm (.lst [.str (digS r)]) = true := rfl
  have x0' : gIx (.lst [.str (digS r)]) (.int 0) = some (.str (digS r)) := rfl
  have hc : gEq (.str (digS r)) (.str (Str.ofString "code")) = some (.bl false) := by rw [gEq_str hsm code_small, decide_eq_false (dig_not_code hd10)]
  have he : gEq (.str (digS r)) (.str (Str.ofString "")) = some (.bl false) := by rw [gEq_str hsm empty_small, decide_eq_false (ne_empty hl.1)]
  have hlen : gLen [.lst [.str (digS r)]] = some (.int 1) := rfl
  have hne : ((1 : Int) != 1) = false := rfl
  have hfe : gEq (.lst ((found ++ [(f, n, rows)]).map cD)) (.lst []) = some (.bl false) := by
    rw [gEq_codes]
    cases found <;> rfl
  have od : okLen (r.map fun d : Int => D.str ⟨#[48 + d.toNat]⟩).length = true := ok_le (by rw [List.length_map]; omega)
  have cA := compF_all (b := bName 9) (elt := fBin gNotInSg (fVar 9) (fC (.str (Str.ofString "0123456789")))) (ρ := [x0, .own (.lst ((found ++ [(f, n, rows)]).map cD)), .ro (.int (i : Int)), .ro (.str (digS r)), .ro (.lst [.str (digS r)]), x5, x6, x7, .no, .no]) (S := S) (fun d : Int => D.str ⟨#[48 + d.toNat]⟩) (fun _ => D.bl false) r fun x hx => ⟨_, rfl, by
    have := notIn_fig (h3 x hx)
    simp only [sSet_at, fCall_at, fCons_at, fVar_at, fVarO_at, fC_at, fNil_at, fBin_at, fApp_at, List.getElem?_cons_succ, List.getElem?_cons_zero, Out.bind_ok, ofOpt_some, noEx_ok, Out.toS_ok, List.set_cons_succ, List.set_cons_zero, if_true, fImm_at, fImm1_at, imm_tup, imm_int, imm_non, imm_str, imm_bl, immL_cons, immL_nil, Bool.and_self, fTup_at, fLst_at, List.length_cons, List.length_nil, Nat.zero_add, Nat.reduceAdd, okLen_0, okLen_1, okLen_2, okLen_3, okLen_4, okLen_5, okLen_6, topImm_tup, topImm_lst, topImm_int, gAdd_int, gSub_at, this]⟩
  have hany : gAny [.lst (r.map fun _ => D.bl false)] = some (.bl false) := by
    have : (r.map fun _ => D.bl false) = (r.map fun _ => false).map D.bl := by rw [List.map_map]; rfl
    show (blsOf _).map _ = _
    rw [this, blsOf_map]
    simp
  have hlast : gIx (.lst ((found ++ [(f, n, rows)]).map cD)) (.int (-1)) = some (cD (f, n, rows)) := by
    rw [gIx_lst, List.map_append, List.map_cons, List.map_nil]
    unfold atI
    have hl : (found.map cD ++ [cD (f, n, rows)]).length = found.length + 1 := by simp
    rw [hl, ixN_last]
    show (found.map cD ++ [cD (f, n, rows)])[found.length]? = _
    rw [List.getElem?_append_right (by simp)]
    simp
  have him : (cD (f, n, rows)).imm = true := by simp [cD, codeD]
  have hbt : ∀ ρ : En, bTup3 (bName 5) (bName 6) (bName 7) (cD (f, n, rows)) ρ = some (((ρ.set 5 (.ro (.int f))).set 6 (.ro (.int (n : Int)))).set 7 (.ro (.tup (rows.map encR)))) := fun ρ => rfl
  have cB := compF_all (b := bName 9) (elt := fApp gIntA (fCons (fVar 9) fNil)) (ρ := [x0, .own (.lst ((found ++ [(f, n, rows)]).map cD)), .ro (.int (i : Int)), .ro (.str (digS r)), .ro (.lst [.str (digS r)]), .ro (.int f), .ro (.int (n : Int)), .ro (.tup (rows.map encR)), .no, .no]) (S := S) (fun d : Int => D.str ⟨#[48 + d.toNat]⟩) D.int r fun x hx => ⟨_, rfl, by
    have := int_fig (h3 x hx)
    simp only [sSet_at, fCall_at, fCons_at, fVar_at, fVarO_at, fC_at, fNil_at, fBin_at, fApp_at, List.getElem?_cons_succ, List.getElem?_cons_zero, Out.bind_ok, ofOpt_some, noEx_ok, Out.toS_ok, List.set_cons_succ, List.set_cons_zero, if_true, fImm_at, fImm1_at, imm_tup, imm_int, imm_non, imm_str, imm_bl, immL_cons, immL_nil, Bool.and_self, fTup_at, fLst_at, List.length_cons, List.length_nil, Nat.zero_add, Nat.reduceAdd, okLen_0, okLen_1, okLen_2, okLen_3, okLen_4, okLen_5, okLen_6, topImm_tup, topImm_lst, topImm_int, gAdd_int, gSub_at, this]⟩
  have oA : okLen ((rows.map encR).length + 1) = true := ok_le (by simp; omega)
  have hadd : gAdd (.tup (rows.map encR)) (.tup [.tup (r.map D.int)]) = some (.tup ((rows ++ [r]).map encR)) := by
    rw [gAdd_tup, List.length_cons, List.length_nil, Nat.zero_add, if_pos oA, List.map_append]; rfl
  have hD : D.tup [.int f, .int (n : Int), .tup ((rows ++ [r]).map encR)] = cD (f, n, rows ++ [r]) := rfl
  have him2 : (cD (f, n, rows ++ [r])).imm = true := by simp [cD, codeD]
  have hix : ixN ((found ++ [(f, n, rows)]).map cD).length (-1) = some found.length := by
    have hl : ((found ++ [(f, n, rows)]).map cD).length = found.length + 1 := by simp
    rw [hl, ixN_last]
  have hset : ((found ++ [(f, n, rows)]).map cD).set found.length (cD (f, n, rows ++ [r])) = (found ++ [(f, n, rows ++ [r])]).map cD := by
    rw [List.map_append, List.map_append, List.map_cons, List.map_nil, List.map_cons, List.map_nil, List.set_append_right _ _ (by simp)]
    simp
  refine ⟨.ro (.lst [.str (digS r)]), .ro (.int f), .ro (.int (n : Int)), .ro (.tup (rows.map encR)), ?_⟩
  have hds := dStr_dig hd10
  unfold fb_read_1
  rw [sSeq_at]
  simp only [fSM, sSet_at, fCall_at, fCons_at, fVar_at, fVarO_at, fC_at, fNil_at, fBin_at, fApp_at, List.getElem?_cons_succ, List.getElem?_cons_zero, Out.bind_ok, ofOpt_some, noEx_ok, Out.toS_ok, List.set_cons_succ, List.set_cons_zero, if_true, fImm_at, fImm1_at, imm_tup, imm_int, imm_non, imm_str, imm_bl, immL_cons, immL_nil, Bool.and_self, fTup_at, fLst_at, List.length_cons, List.length_nil, Nat.zero_add, Nat.reduceAdd, okLen_0, okLen_1, okLen_2, okLen_3, okLen_4, okLen_5, okLen_6, topImm_tup, topImm_lst, topImm_int, gAdd_int, gSub_at, hsp, hi]
  rw [sIf_at]
  simp only [fB_at, sSet_at, fCall_at, fCons_at, fVar_at, fVarO_at, fC_at, fNil_at, fBin_at, fApp_at, List.getElem?_cons_succ, List.getElem?_cons_zero, Out.bind_ok, ofOpt_some, noEx_ok, Out.toS_ok, List.set_cons_succ, List.set_cons_zero, if_true, fImm_at, fImm1_at, imm_tup, imm_int, imm_non, imm_str, imm_bl, immL_cons, immL_nil, Bool.and_self, fTup_at, fLst_at, List.length_cons, List.length_nil, Nat.zero_add, Nat.reduceAdd, okLen_0, okLen_1, okLen_2, okLen_3, okLen_4, okLen_5, okLen_6, topImm_tup, topImm_lst, topImm_int, gAdd_int, gSub_at, x0', hc, Bool.false_eq_true, if_false]
  rw [sIf_at]
  simp only [fOr_at, fB_at, sSet_at, fCall_at, fCons_at, fVar_at, fVarO_at, fC_at, fNil_at, fBin_at, fApp_at, List.getElem?_cons_succ, List.getElem?_cons_zero, Out.bind_ok, ofOpt_some, noEx_ok, Out.toS_ok, List.set_cons_succ, List.set_cons_zero, if_true, fImm_at, fImm1_at, imm_tup, imm_int, imm_non, imm_str, imm_bl, immL_cons, immL_nil, Bool.and_self, fTup_at, fLst_at, List.length_cons, List.length_nil, Nat.zero_add, Nat.reduceAdd, okLen_0, okLen_1, okLen_2, okLen_3, okLen_4, okLen_5, okLen_6, topImm_tup, topImm_lst, topImm_int, gAdd_int, gSub_at, hfe, hlen, gNe_int, hne, he, fComp_at, fIter_at, od, wipeE_cons, wipeE_nil, hds, cA, hany, Bool.false_eq_true, if_false]
  rw [sSeq_at]
  simp only [sSetT_at, fNeg_at, sSet_at, fCall_at, fCons_at, fVar_at, fVarO_at, fC_at, fNil_at, fBin_at, fApp_at, List.getElem?_cons_succ, List.getElem?_cons_zero, Out.bind_ok, ofOpt_some, noEx_ok, Out.toS_ok, List.set_cons_succ, List.set_cons_zero, if_true, fImm_at, fImm1_at, imm_tup, imm_int, imm_non, imm_str, imm_bl, immL_cons, immL_nil, Bool.and_self, fTup_at, fLst_at, List.length_cons, List.length_nil, Nat.zero_add, Nat.reduceAdd, okLen_0, okLen_1, okLen_2, okLen_3, okLen_4, okLen_5, okLen_6, topImm_tup, topImm_lst, topImm_int, gAdd_int, gSub_at, hlast, him, hbt]
  rw [sPut_at]
  simp only [fNeg_at, fComp_at, fIter_at, sSet_at, fCall_at, fCons_at, fVar_at, fVarO_at, fC_at, fNil_at, fBin_at, fApp_at, List.getElem?_cons_succ, List.getElem?_cons_zero, Out.bind_ok, ofOpt_some, noEx_ok, Out.toS_ok, List.set_cons_succ, List.set_cons_zero, if_true, fImm_at, fImm1_at, imm_tup, imm_int, imm_non, imm_str, imm_bl, immL_cons, immL_nil, Bool.and_self, fTup_at, fLst_at, List.length_cons, List.length_nil, Nat.zero_add, Nat.reduceAdd, okLen_0, okLen_1, okLen_2, okLen_3, okLen_4, okLen_5, okLen_6, topImm_tup, topImm_lst, topImm_int, gAdd_int, gSub_at, od, wipeE_cons, wipeE_nil, hds, cB, gTuple_lst, hadd, hD, hix, him2, hset]
end
end CB
set_option Elab.async false
set_option linter.all false
set_option maxRecDepth 100000
namespace CB
open PySem PySem.Spec PyProof.Rows L2 TL
/-! read and written -/
def textOf (cs : List CT) : Str := Txt.join (Str.ofString "\n") ((cs.flatMap lns).map Ln.str)
def COk (c : CT) : Prop := CodeOk c.1 c.2.1 c.2.2
theorem lns_ok {c : CT} (h : COk c) : ∀ l ∈ lns c, l.Ok := fun l hl => by
  rcases List.mem_cons.mp hl with rfl | hl
  · have := h.f2; have := h.f3; have := h.n1; have := h.n10
    exact ⟨by omega, by omega, by omega, by omega⟩
  · obtain ⟨r, hr, rfl⟩ := List.mem_map.mp hl
    have hl := (h.ok r hr).len
    have := h.f3; have := h.n1; have := h.n10
    exact ⟨by omega, by omega, fun x hx => by have := (h.ok r hr).dig x hx; omega⟩
theorem all_lns {cs : List CT} (h : ∀ c ∈ cs, COk c) : ∀ l ∈ cs.flatMap lns, l.Ok := fun l hl => by
  obtain ⟨c, hc, hl⟩ := List.mem_flatMap.mp hl
  exact lns_ok (h c hc) l hl
theorem lns_len : ∀ {cs : List CT}, (∀ c ∈ cs, COk c) → (cs.flatMap lns).length ≤ cs.length * 11
  | [], _ => by simp
  | c :: cs, h => by
    have a := lns_len (cs := cs) fun x hx => h x (by simp [hx])
    have b := (h c (by simp)).k
    rw [List.flatMap_cons, List.length_append, List.length_cons, Nat.add_mul, Nat.one_mul]
    have : (lns c).length = c.2.2.length + 1 := by unfold lns; simp
    omega
theorem text_len {cs : List CT} (h : ∀ c ∈ cs, COk c) (h3 : cs.length ≤ 5) : (textOf cs).length ≤ 2000 ∧ (((cs.flatMap lns).map Ln.str).map (·.length)).sum + ((cs.flatMap lns).map Ln.str).length * (Str.ofString "\n").length ≤ 2000 := by
  have a := join_len (Str.ofString "\n") ((cs.flatMap lns).map Ln.str)
  have b := lns_len h
  have c := sum_le (g := fun x : Str => x.length) (k := 20) ((cs.flatMap lns).map Ln.str) fun x hx => by
    obtain ⟨l, hl, rfl⟩ := List.mem_map.mp hx
    exact (Ln.len (all_lns h l hl)).2
  rw [List.length_map] at a c ⊢
  have e : (Str.ofString "\n").length = 1 := by rw [len_tl, tl_nl]; rfl
  rw [e] at a ⊢
  have t : textOf cs = Txt.join (Str.ofString "\n") ((cs.flatMap lns).map Ln.str) := rfl
  rw [t]
  omega
theorem mem_joinL {S : List Nat} {c : Nat} : ∀ ps : List (List Nat), c ∈ joinL S ps → c ∈ S ∨ ∃ p ∈ ps, c ∈ p
  | [], h => by cases h
  | [p], h => .inr ⟨p, by simp, h⟩
  | p :: q :: r, h => by
    have h : c ∈ p ++ (S ++ joinL S (q :: r)) := h
    rcases List.mem_append.mp h with h | h
    · exact .inr ⟨p, by simp, h⟩
    rcases List.mem_append.mp h with h | h
    · exact .inl h
    rcases mem_joinL (q :: r) h with h | ⟨x, hx, h⟩
    · exact .inl h
    · exact .inr ⟨x, List.mem_cons_of_mem _ hx, h⟩
theorem text_small {cs : List CT} (h : ∀ c ∈ cs, COk c) : ∀ c ∈ tl (textOf cs), c < 1114112 := fun c hc => by
  unfold textOf at hc
  rw [join_eq, tl_join, tl_nl] at hc
  rcases mem_joinL _ hc with hc | ⟨p, hp, hc⟩
  · have : c = 10 := by simpa using hc
    omega
  · rw [List.map_map] at hp
    obtain ⟨l, hl, rfl⟩ := List.mem_map.mp hp
    exact Ln.small (all_lns h l hl) c hc
theorem text_ne {cs : List CT} (h : ∀ c ∈ cs, COk c) (hn : cs ≠ []) : textOf cs ≠ Str.ofString "" := by
  refine ne_empty ?_
  obtain ⟨c, cs, rfl⟩ := List.exists_cons_of_ne_nil hn
  rw [len_tl]
  unfold textOf
  rw [join_eq, tl_join, List.flatMap_cons]
  have hl := (Ln.len (lns_ok (h c (by simp)) (.hd c.1 c.2.1) (by unfold lns; simp))).1
  rw [len_tl] at hl
  unfold lns
  rw [List.cons_append, List.map_cons, List.map_cons]
  cases ((c.2.2.map Ln.rw ++ cs.flatMap fun c => Ln.hd c.1 c.2.1 :: c.2.2.map Ln.rw).map Ln.str).map tl with
  | nil => exact hl
  | cons q r =>
    show 1 ≤ (_ ++ _ : List Nat).length
    rw [List.length_append]
    omega
theorem text_nil : textOf [] = Str.ofString "" := by
  refine ext_tl ?_
  unfold textOf
  rw [join_eq, tl_join, tl_nil]; rfl
theorem text_split {cs : List CT} (h : ∀ c ∈ cs, COk c) (hn : cs ≠ []) : Txt.split (textOf cs) (Str.ofString "\n") = (cs.flatMap lns).map Ln.str := by
  refine split_join tl_nl nl_kind (fun e => ?_) fun p hp => ?_
  · obtain ⟨c, cs, rfl⟩ := List.exists_cons_of_ne_nil hn
    rw [List.flatMap_cons] at e
    unfold lns at e
    simp at e
  · obtain ⟨l, hl, rfl⟩ := List.mem_map.mp hp
    exact Ln.free (all_lns h l hl)
section
variable {S : Store}
theorem loopE_need {x0 x1 x2 x3 x4 x5 x6 x7 x9 : Sl} : ∀ (cs : List CT) (x8 : Sl), (∀ c ∈ cs, COk c) → ∃ x8', loopE (bName 8) (fCall (fun ds S => noEx (q_need_code ds S)) (fCons (fVar 8) fNil)) (cs.map cD) [x0, x1, x2, x3, x4, x5, x6, x7, x8, x9] S = .nx [x0, x1, x2, x3, x4, x5, x6, x7, x8', x9] S
  | [], x8, _ => ⟨x8, rfl⟩
  | c :: cs, x8, h => by
    obtain ⟨x8', e⟩ := loopE_need (x0 := x0) (x1 := x1) (x2 := x2) (x3 := x3) (x4 := x4) (x5 := x5) (x6 := x6) (x7 := x7) (x9 := x9) cs (.ro (cD c)) fun x hx => h x (by simp [hx])
    have n := need_code_ok (S := S) (h c (by simp))
    refine ⟨x8', ?_⟩
    rw [List.map_cons]
    unfold loopE
    have hb : bName 8 (cD c) [x0, x1, x2, x3, x4, x5, x6, x7, x8, x9] = some [x0, x1, x2, x3, x4, x5, x6, x7, .ro (cD c), x9] := rfl
    rw [hb]
    have hf : fCall (fun ds S => noEx (q_need_code ds S)) (fCons (fVar 8) fNil) [x0, x1, x2, x3, x4, x5, x6, x7, .ro (cD c), x9] S = .ok .non S := by
      simp only [sSet_at, fCall_at, fCons_at, fVar_at, fVarO_at, fC_at, fNil_at, fBin_at, fApp_at, List.getElem?_cons_succ, List.getElem?_cons_zero, Out.bind_ok, ofOpt_some, noEx_ok, Out.toS_ok, List.set_cons_succ, List.set_cons_zero, if_true, fImm_at, fImm1_at, imm_tup, imm_int, imm_non, imm_str, imm_bl, immL_cons, immL_nil, Bool.and_self, fTup_at, fLst_at, List.length_cons, List.length_nil, Nat.zero_add, Nat.reduceAdd, okLen_0, okLen_1, okLen_2, okLen_3, okLen_4, okLen_5, okLen_6, topImm_tup, topImm_lst, topImm_int, gAdd_int, gSub_at]
      show noEx (q_need_code [codeD c.1 c.2.1 c.2.2] S) = _
      rw [n]; rfl
    simp only [hf, Out.toS_ok]
    exact e
theorem read_loop {x0 x4 x5 x6 x7 : Sl} {ls : List Ln} (hok : ∀ l ∈ ls, l.Ok) (hl : ls.length ≤ 100) (hhd : ∀ r rest, ls = .rw r :: rest → False) :
    ∃ y2 y3 y4 y5 y6 y7, loopS (bTup2 (bName 2) (bName 3)) fb_read_1 ((List.zip (List.range ls.length) ls).map fun p => D.tup [.int (p.1 : Int), .str p.2.str]) [x0, .own (.lst []), .no, .no, x4, x5, x6, x7, .no, .no] S =
      .nx [x0, .own (.lst ((ls.foldl stepLn []).map cD)), y2, y3, y4, y5, y6, y7, .no, .no] S := by
  have szs : (List.zip (List.range ls.length) ls).map Prod.snd = ls := by rw [List.map_snd_zip (by simp)]
  obtain ⟨ρ', S', e, hS, y2, y3, y4, y5, y6, y7, _, rfl⟩ := loopS_all (b := bTup2 (bName 2) (bName 3)) (body := fb_read_1) (fun p : Nat × Ln => D.tup [.int (p.1 : Int), .str p.2.str]) (fun pre ρ S' => S' = S ∧ ∃ y2 y3 y4 y5 y6 y7, (((pre.map Prod.snd).foldl stepLn []).length ≤ pre.length ∧ (pre ≠ [] → (pre.map Prod.snd).foldl stepLn [] ≠ []) ∧ ∀ c ∈ (pre.map Prod.snd).foldl stepLn [], c.2.2.length ≤ pre.length) ∧ ρ = [x0, .own (.lst (((pre.map Prod.snd).foldl stepLn []).map cD)), y2, y3, y4, y5, y6, y7, .no, .no]) (List.zip (List.range ls.length) ls)
    [x0, .own (.lst []), .no, .no, x4, x5, x6, x7, .no, .no] S ⟨rfl, .no, .no, x4, x5, x6, x7, ⟨by simp, by simp, by simp⟩, rfl⟩ fun pre p post ρ S' hs ⟨e1, y2, y3, y4, y5, y6, y7, ⟨hlen, hne, hrows⟩, e2⟩ => by
    subst e1 e2
    obtain ⟨i, l⟩ := p
    have hsn : ls = pre.map Prod.snd ++ l :: post.map Prod.snd := by rw [← szs, hs]; simp
    have hpl : pre.length < ls.length := by rw [hsn]; simp
    have hlo := hok l (by rw [hsn]; simp)
    have hb : bTup2 (bName 2) (bName 3) (D.tup [.int (i : Int), .str l.str]) [x0, .own (.lst (((pre.map Prod.snd).foldl stepLn []).map cD)), y2, y3, y4, y5, y6, y7, .no, .no] = some [x0, .own (.lst (((pre.map Prod.snd).foldl stepLn []).map cD)), .ro (.int (i : Int)), .ro (.str l.str), y4, y5, y6, y7, .no, .no] := rfl
    cases l with
    | hd f n =>
      obtain ⟨z4, e⟩ := read_hd (S := S') (found := (pre.map Prod.snd).foldl stepLn []) (x0 := x0) (x4 := y4) (x5 := y5) (x6 := y6) (x7 := y7) (i := i) hlo (by omega)
      have hfold : ((pre ++ [(i, Ln.hd f n)]).map Prod.snd).foldl stepLn [] = (pre.map Prod.snd).foldl stepLn [] ++ [(f, n, [])] := by rw [List.map_append, List.foldl_append]; rfl
      refine ⟨_, _, _, hb, e, rfl, _, _, _, _, _, _, ?_, by rw [hfold]⟩
      rw [hfold]
      refine ⟨by simp [stepLn]; omega, fun _ => by simp [stepLn], fun c hc => ?_⟩
      have hc : c ∈ (pre.map Prod.snd).foldl stepLn [] ++ [(f, n, [])] := hc
      rcases List.mem_append.mp hc with hc | hc
      · have := hrows c hc; simp; omega
      · have : c = (f, n, []) := by simpa using hc
        subst this; simp
    | rw r =>
      have hpne : pre ≠ [] := fun z => by
        subst z
        exact hhd r _ (by simpa using hsn)
      have hfne := hne hpne
      obtain ⟨g, ⟨f, n, rows⟩, hg⟩ : ∃ g c, (pre.map Prod.snd).foldl stepLn [] = g ++ [c] := ⟨_, _, (List.dropLast_concat_getLast hfne).symm⟩
      have hst : stepLn ((pre.map Prod.snd).foldl stepLn []) (.rw r) = g ++ [(f, n, rows ++ [r])] := by rw [hg]; simp [stepLn]
      have hgl : g.length + 1 ≤ pre.length := by rw [hg] at hlen; simpa using hlen
      have hrl : rows.length ≤ pre.length := hrows (f, n, rows) (by rw [hg]; simp)
      obtain ⟨z4, z5, z6, z7, e⟩ := read_rw (S := S') (found := g) (x0 := x0) (x4 := y4) (x5 := y5) (x6 := y6) (x7 := y7) (i := i) (f := f) (n := n) (rows := rows) (r := r) hlo (by omega) (by omega)
      rw [← hg] at e
      have hfold : ((pre ++ [(i, Ln.rw r)]).map Prod.snd).foldl stepLn [] = g ++ [(f, n, rows ++ [r])] := by
        rw [List.map_append, List.foldl_append]
        exact hst
      refine ⟨_, _, _, hb, e, rfl, _, _, _, _, _, _, ?_, by rw [hfold]⟩
      rw [hfold]
      refine ⟨by simp; omega, fun _ => by simp, fun c hc => ?_⟩
      rcases List.mem_append.mp hc with hc | hc
      · have := hrows c (by rw [hg]; exact List.mem_append_left _ hc)
        simp; omega
      · have : c = (f, n, rows ++ [r]) := by simpa using hc
        subst this; simp; omega
  subst hS
  rw [szs] at e
  exact ⟨y2, y3, y4, y5, y6, y7, e⟩
end
end CB
set_option Elab.async false
set_option linter.all false
set_option maxRecDepth 100000
namespace CB
open PySem PySem.Spec PyProof.Rows L2
def fb_law_1 : FS := (sSeq (sMut 4 gAppend (fCons (fBin gAdd (fBin gAdd (fBin gAdd (fC (.str (Str.ofString "code "))) (fApp gStrI (fCons (fVar 5) fNil))) (fC (.str (Str.ofString " ")))) (fApp gStrI (fCons (fVar 6) fNil))) fNil))
 (sSetO 4 (fBin gAdd (fVarO 4) (fComp (fIter (fVar 7)) (bName 12) fYes (fSM gJoin (fC (.str (Str.ofString ""))) (fComp (fIter (fVar 12)) (bName 13) fYes (fApp gStrI (fCons (fVar 13) fNil)) [13])) [12]))))
def fb_law_2 : FS := (sSeq (sSetO 10 (fCall (fun ds S => noEx (q_read ds S)) (fCons (fVar 8) fNil)))
 (sSeq (sIf (fOr (fNot (fB (fCall (fun ds S => noEx ((q_law_alike 6) ds S)) (fCons (fCall (fun ds S => noEx (q_written ds S)) (fCons (fVar 3) fNil)) (fCons (fVar 8) fNil))))) (fNot (fB (fCall (fun ds S => noEx ((q_law_alike 6) ds S)) (fCons (fVarO 10) (fCons (fVar 3) fNil)))))) (sRet (fC (.bl false)))
 sSkip)
 (sMut 10 gAppend (fCons (fTup fNil) fNil))))
def fb_law_3 : FS := (sSeq (sPar2 3 4 (fComp (fAppL gRange1 (fCons (fCall (fun ds S => noEx (q_law_taken ds S)) (fCons (fVar 1) (fCons (fC (.int 4)) fNil))) fNil)) (bName 11) fYes (fCall (fun ds S => noEx (q_law_code ds S)) (fCons (fVar 1) (fCons (fC (.int 10)) (fCons (fC (.int 5)) fNil)))) [11]) (fLst fNil))
 (sSeq (sDem 3 (sFor (fIter (fVar 3)) (bTup3 (bName 5) (bName 6) (bName 7)) fb_law_1))
 (sSeq (sSet 8 (fSM gJoin (fC (.str (Str.ofString "\n"))) (fVarO 4)))
 (sFor (fAppL gRange1 (fCons (fC (.int 2)) fNil)) (bName 9) fb_law_2))))
def f1_law : FS := (sSetO 1 (fCall (fun ds S => noEx (q_law_row ds S)) (fCons (fVar 0) fNil)))
def f2_law : FS := (sSeq (sFor (fAppL gRange1 (fCons (fC (.int 4)) fNil)) (bName 2) fb_law_3)
 (sRet (fC (.bl true))))

end CB
set_option Elab.async false
set_option linter.all false
set_option maxRecDepth 100000
namespace CB
open PySem PySem.Spec PyProof.Rows L2 TL
section
variable {S : Store}
theorem gEnum_lst' {xs : List D} : gEnum [.lst xs] = some (dEnum xs) := rfl
theorem gAdd_str {a b : Str} : gAdd (.str a) (.str b) = if okLen (a.length + b.length) then some (.str (a ++ b)) else none := rfl
theorem read_ok {cs : List CT} (h : ∀ c ∈ cs, COk c) (h3 : cs.length ≤ 5) : q_read [.str (textOf cs)] S = .ok (.lst (cs.map cD)) S := by
  have hem : immL ([] : List D) = true := rfl
  have him : immL (cs.map cD) = true := by rw [immL_all]; simp [cD, codeD]
  have hfc : ∀ x8 (x0 x2 x3 x4 x5 x6 x7 x9 : Sl), ∃ x8', loopE (bName 8) (fCall (fun ds S => noEx (q_need_code ds S)) (fCons (fVar 8) fNil)) (cs.map cD) [x0, .own (.lst (cs.map cD)), x2, x3, x4, x5, x6, x7, x8, x9] S = .nx [x0, .own (.lst (cs.map cD)), x2, x3, x4, x5, x6, x7, x8', x9] S := fun x8 x0 x2 x3 x4 x5 x6 x7 x9 => loopE_need cs x8 h
  by_cases hn : cs = []
  · subst hn
    have e0 : gNe (.str (textOf [])) (.str (Str.ofString "")) = some (.bl false) := by rw [text_nil, gNe_str empty_small empty_small, decide_eq_true rfl]; rfl
    unfold q_read fs_read
    simp only [runB_at, List.map_cons, List.map_nil, List.replicate, List.cons_append, List.nil_append, List.length_cons, List.length_nil, Nat.reduceAdd, Nat.reduceSub]
    rw [sSeq_at]
    simp only [sSetO_at, sSet_at, fCall_at, fCons_at, fVar_at, fVarO_at, fC_at, fNil_at, fBin_at, fApp_at, List.getElem?_cons_succ, List.getElem?_cons_zero, Out.bind_ok, ofOpt_some, noEx_ok, Out.toS_ok, List.set_cons_succ, List.set_cons_zero, if_true, fImm_at, fImm1_at, imm_tup, imm_int, imm_non, imm_str, imm_bl, immL_cons, immL_nil, Bool.and_self, fTup_at, fLst_at, List.length_cons, List.length_nil, Nat.zero_add, Nat.reduceAdd, okLen_0, okLen_1, okLen_2, okLen_3, okLen_4, okLen_5, okLen_6, topImm_tup, topImm_lst, topImm_int, gAdd_int, gSub_at, isC_lst]
    rw [sSeq_at]
    have hE : gEnum [.lst []] = some [] := rfl
    simp only [sFor_at, fAppL_at, fIf_at, fB_at, sSet_at, fCall_at, fCons_at, fVar_at, fVarO_at, fC_at, fNil_at, fBin_at, fApp_at, List.getElem?_cons_succ, List.getElem?_cons_zero, Out.bind_ok, ofOpt_some, noEx_ok, Out.toS_ok, List.set_cons_succ, List.set_cons_zero, if_true, fImm_at, fImm1_at, imm_tup, imm_int, imm_non, imm_str, imm_bl, immL_cons, immL_nil, Bool.and_self, fTup_at, fLst_at, List.length_cons, List.length_nil, Nat.zero_add, Nat.reduceAdd, okLen_0, okLen_1, okLen_2, okLen_3, okLen_4, okLen_5, okLen_6, topImm_tup, topImm_lst, topImm_int, gAdd_int, gSub_at, e0, Bool.false_eq_true, if_false, hE, loopS]
    rw [sSeq_at]
    simp only [sForE, fOwnL_at, sSet_at, fCall_at, fCons_at, fVar_at, fVarO_at, fC_at, fNil_at, fBin_at, fApp_at, List.getElem?_cons_succ, List.getElem?_cons_zero, Out.bind_ok, ofOpt_some, noEx_ok, Out.toS_ok, List.set_cons_succ, List.set_cons_zero, if_true, fImm_at, fImm1_at, imm_tup, imm_int, imm_non, imm_str, imm_bl, immL_cons, immL_nil, Bool.and_self, fTup_at, fLst_at, List.length_cons, List.length_nil, Nat.zero_add, Nat.reduceAdd, okLen_0, okLen_1, okLen_2, okLen_3, okLen_4, okLen_5, okLen_6, topImm_tup, topImm_lst, topImm_int, gAdd_int, gSub_at, loopE, sRet_at, List.map_nil]
  · have e0 : gNe (.str (textOf cs)) (.str (Str.ofString "")) = some (.bl true) := by rw [gNe_str (text_small h) empty_small, decide_eq_false (text_ne h hn)]; rfl
    have hsp : gSplit (textOf cs) (.str (Str.ofString "\n")) = some (.lst ((cs.flatMap lns).map fun l => D.str l.str)) := by
      rw [gSplit_ok nl_ne (by have := (text_len h h3).1; omega), text_split h hn, List.map_map]; rfl
    have hti : topImm (.lst ((cs.flatMap lns).map fun l => D.str l.str)) = true := by
      show immL _ = true
      rw [immL_all]
      simp
    have hz : dEnum ((cs.flatMap lns).map fun l => D.str l.str) = (List.zip (List.range (cs.flatMap lns).length) (cs.flatMap lns)).map fun p => D.tup [.int (p.1 : Int), .str p.2.str] := by
      unfold dEnum
      rw [dRange_zero, dZip_map, List.length_map]
    have hl := lns_len h
    obtain ⟨y2, y3, y4, y5, y6, y7, e⟩ := read_loop (S := S) (x0 := .ro (.str (textOf cs))) (x4 := .no) (x5 := .no) (x6 := .no) (x7 := .no) (all_lns h) (by omega) fun r rest er => by
      obtain ⟨c, cs', rfl⟩ := List.exists_cons_of_ne_nil hn
      rw [List.flatMap_cons] at er
      unfold lns at er
      injection er with er _
      cases er
    rw [fold_codes cs [], List.nil_append] at e
    obtain ⟨y8, e8⟩ := hfc .no (.ro (.str (textOf cs))) y2 y3 y4 y5 y6 y7 .no
    unfold q_read fs_read
    simp only [runB_at, List.map_cons, List.map_nil, List.replicate, List.cons_append, List.nil_append, List.length_cons, List.length_nil, Nat.reduceAdd, Nat.reduceSub]
    rw [sSeq_at]
    simp only [sSetO_at, sSet_at, fCall_at, fCons_at, fVar_at, fVarO_at, fC_at, fNil_at, fBin_at, fApp_at, List.getElem?_cons_succ, List.getElem?_cons_zero, Out.bind_ok, ofOpt_some, noEx_ok, Out.toS_ok, List.set_cons_succ, List.set_cons_zero, if_true, fImm_at, fImm1_at, imm_tup, imm_int, imm_non, imm_str, imm_bl, immL_cons, immL_nil, Bool.and_self, fTup_at, fLst_at, List.length_cons, List.length_nil, Nat.zero_add, Nat.reduceAdd, okLen_0, okLen_1, okLen_2, okLen_3, okLen_4, okLen_5, okLen_6, topImm_tup, topImm_lst, topImm_int, gAdd_int, gSub_at, isC_lst]
    rw [sSeq_at]
    simp only [sFor_at, fAppL_at, fIf_at, fB_at, fSM, sSet_at, fCall_at, fCons_at, fVar_at, fVarO_at, fC_at, fNil_at, fBin_at, fApp_at, List.getElem?_cons_succ, List.getElem?_cons_zero, Out.bind_ok, ofOpt_some, noEx_ok, Out.toS_ok, List.set_cons_succ, List.set_cons_zero, if_true, fImm_at, fImm1_at, imm_tup, imm_int, imm_non, imm_str, imm_bl, immL_cons, immL_nil, Bool.and_self, fTup_at, fLst_at, List.length_cons, List.length_nil, Nat.zero_add, Nat.reduceAdd, okLen_0, okLen_1, okLen_2, okLen_3, okLen_4, okLen_5, okLen_6, topImm_tup, topImm_lst, topImm_int, gAdd_int, gSub_at, e0, hsp, hti, gEnum_lst', hz, e]
    rw [sSeq_at]
    simp only [sForE, fOwnL_at, sSet_at, fCall_at, fCons_at, fVar_at, fVarO_at, fC_at, fNil_at, fBin_at, fApp_at, List.getElem?_cons_succ, List.getElem?_cons_zero, Out.bind_ok, ofOpt_some, noEx_ok, Out.toS_ok, List.set_cons_succ, List.set_cons_zero, if_true, fImm_at, fImm1_at, imm_tup, imm_int, imm_non, imm_str, imm_bl, immL_cons, immL_nil, Bool.and_self, fTup_at, fLst_at, List.length_cons, List.length_nil, Nat.zero_add, Nat.reduceAdd, okLen_0, okLen_1, okLen_2, okLen_3, okLen_4, okLen_5, okLen_6, topImm_tup, topImm_lst, topImm_int, gAdd_int, gSub_at, e8, sRet_at]
theorem strsOf_map : ∀ ys : List Str, strsOf (ys.map D.str) = some ys
  | [] => rfl
  | y :: ys => by
    show (strsOf (ys.map D.str)).map (y :: ·) = _
    rw [strsOf_map ys]; rfl
theorem gJoin_ok {a : Str} {ys : List Str} (h : (ys.map (·.length)).sum + ys.length * a.length ≤ 1000000) : gJoin a (.lst (ys.map D.str)) = some (.str (Txt.join a ys)) := by
  unfold gJoin
  simp only [strsOf_map, ok_le h, if_true]
theorem numS_len {i : Int} (h : 0 ≤ i) (h2 : i ≤ 10) : (numS i).length ≤ 2 := by
  rw [len_tl, tl_numS h]
  exact numL_len (by omega) (by omega)
theorem dig_comp {i j : Nat} {ρ : En} (hij : i ≠ j) (hi : i < ρ.length) (hj : j < ρ.length) {rows : List (List Int)} (h : ∀ r ∈ rows, r.length ≤ 100 ∧ ∀ x ∈ r, 0 ≤ x ∧ x < 3) :
    compF (bName i) fYes (fSM gJoin (fC (.str (Str.ofString ""))) (fComp (fIter (fVar i)) (bName j) fYes (fApp gStrI (fCons (fVar j) fNil)) [j])) ρ (rows.map encR) S = .ok ((rows.map digS).map D.str) S := by
  have := compF_all (b := bName i) (elt := fSM gJoin (fC (.str (Str.ofString ""))) (fComp (fIter (fVar i)) (bName j) fYes (fApp gStrI (fCons (fVar j) fNil)) [j])) (ρ := ρ) (S := S) encR (fun r => D.str (digS r)) rows fun r hr => ⟨_, rfl, by
    obtain ⟨hl, hd⟩ := h r hr
    have ai : (ρ.set i (.ro (encR r)))[i]? = some (.ro (encR r)) := by rw [List.getElem?_set_self hi]
    have ol : okLen (r.map D.int).length = true := ok_le (by simp; omega)
    have c := compF_all (b := bName j) (elt := fApp gStrI (fCons (fVar j) fNil)) (ρ := (ρ.set i (.ro (encR r))).set j .no) (S := S) D.int (fun x => D.str (numS x)) r fun x hx => ⟨_, rfl, by
      have aj : (((ρ.set i (.ro (encR r))).set j .no).set j (.ro (.int x)))[j]? = some (.ro (.int x)) := by rw [List.getElem?_set_self (by simpa using hj)]
      have hx' := hd x hx
      have g := gStrI_ok (i := x) (by omega) (by omega)
      simp only [sSet_at, fCall_at, fCons_at, fVar_at, fVarO_at, fC_at, fNil_at, fBin_at, fApp_at, List.getElem?_cons_succ, List.getElem?_cons_zero, Out.bind_ok, ofOpt_some, noEx_ok, Out.toS_ok, List.set_cons_succ, List.set_cons_zero, if_true, fImm_at, fImm1_at, imm_tup, imm_int, imm_non, imm_str, imm_bl, immL_cons, immL_nil, Bool.and_self, fTup_at, fLst_at, List.length_cons, List.length_nil, Nat.zero_add, Nat.reduceAdd, okLen_0, okLen_1, okLen_2, okLen_3, okLen_4, okLen_5, okLen_6, topImm_tup, topImm_lst, topImm_int, gAdd_int, gSub_at, aj, g]⟩
    have hm : (r.map fun x => D.str (numS x)) = (r.map numS).map D.str := by rw [List.map_map]; rfl
    rw [hm] at c
    have hsum := sum_le (g := fun x : Str => x.length) (k := 2) (r.map numS) fun y hy => by
      obtain ⟨x, hx, rfl⟩ := List.mem_map.mp hy
      have := hd x hx
      exact numS_len (by omega) (by omega)
    have e0 : (Str.ofString "").length = 0 := by rw [len_tl, tl_nil]; rfl
    have gj := gJoin_ok (a := Str.ofString "") (ys := r.map numS) (by rw [e0]; rw [List.length_map] at hsum ⊢; omega)
    have hit : ∀ S, fIter (fVar i) (ρ.set i (.ro (encR r))) S = .ok (r.map D.int) S := fun S => by
      simp only [fIter_at, fVar_at, ai, Out.bind_ok]; rfl
    simp only [fSM, fComp_at, hit, sSet_at, fCall_at, fCons_at, fVar_at, fVarO_at, fC_at, fNil_at, fBin_at, fApp_at, List.getElem?_cons_succ, List.getElem?_cons_zero, Out.bind_ok, ofOpt_some, noEx_ok, Out.toS_ok, List.set_cons_succ, List.set_cons_zero, if_true, fImm_at, fImm1_at, imm_tup, imm_int, imm_non, imm_str, imm_bl, immL_cons, immL_nil, Bool.and_self, fTup_at, fLst_at, List.length_cons, List.length_nil, Nat.zero_add, Nat.reduceAdd, okLen_0, okLen_1, okLen_2, okLen_3, okLen_4, okLen_5, okLen_6, topImm_tup, topImm_lst, topImm_int, gAdd_int, gSub_at, ol, wipeE_cons, wipeE_nil, c, gj]
    rfl⟩
  rw [this, List.map_map]; rfl
theorem hdr_app {f n : Int} (hf : 0 ≤ f) (hf2 : f ≤ 10) (hn : 0 ≤ n) (hn2 : n ≤ 10) {ρ : En} {fa fb : F D} (ha : fa ρ S = .ok (.int f) S) (hb : fb ρ S = .ok (.int n) S) :
    fBin gAdd (fBin gAdd (fBin gAdd (fBin gAdd (fC (.str (Str.ofString "code"))) (fC (.str (Str.ofString " ")))) (fApp gStrI (fCons fa fNil))) (fC (.str (Str.ofString " ")))) (fApp gStrI (fCons fb fNil)) ρ S = .ok (.str (hdrS f n)) S := by
  have g1 := gStrI_ok hf hf2
  have g2 := gStrI_ok hn hn2
  have l1 := numS_len hf hf2
  have l2 := numS_len hn hn2
  have lc : (Str.ofString "code").length = 4 := by rw [len_tl, tl_code]; rfl
  have ls : (Str.ofString " ").length = 1 := by rw [len_tl, tl_sp]; rfl
  have la : ∀ x y : Str, (x ++ y).length = x.length + y.length := fun x y => by rw [len_tl, tl_append, List.length_append, ← len_tl, ← len_tl]
  have o1 : okLen ((Str.ofString "code").length + (Str.ofString " ").length) = true := ok_le (by omega)
  have o2 : okLen ((Str.ofString "code" ++ Str.ofString " ").length + (numS f).length) = true := ok_le (by rw [la]; omega)
  have o3 : okLen ((Str.ofString "code" ++ Str.ofString " " ++ numS f).length + (Str.ofString " ").length) = true := ok_le (by rw [la, la]; omega)
  have o4 : okLen ((Str.ofString "code" ++ Str.ofString " " ++ numS f ++ Str.ofString " ").length + (numS n).length) = true := ok_le (by rw [la, la, la]; omega)
  simp only [fBin_at, fApp_at, fC_at, fCons_at, fNil_at, Out.bind_ok, ha, hb, g1, g2, ofOpt_some, gAdd_str, o1, o2, o3, o4, if_true]
  rfl
theorem code2 : Str.ofString "code " = Str.ofString "code" ++ Str.ofString " " := by
  refine ext_tl ?_
  rw [tl_append, tl_code, tl_sp, tl_ofString]; rfl
theorem hdr_app2 {f n : Int} (hf : 0 ≤ f) (hf2 : f ≤ 10) (hn : 0 ≤ n) (hn2 : n ≤ 10) {ρ : En} {fa fb : F D} (ha : fa ρ S = .ok (.int f) S) (hb : fb ρ S = .ok (.int n) S) :
    fBin gAdd (fBin gAdd (fBin gAdd (fC (.str (Str.ofString "code "))) (fApp gStrI (fCons fa fNil))) (fC (.str (Str.ofString " ")))) (fApp gStrI (fCons fb fNil)) ρ S = .ok (.str (hdrS f n)) S := by
  have h := hdr_app (S := S) hf hf2 hn hn2 ha hb
  have e : ∀ S, fBin gAdd (fC (.str (Str.ofString "code"))) (fC (.str (Str.ofString " "))) ρ S = fC (.str (Str.ofString "code ")) ρ S := fun S => by
    have lc : (Str.ofString "code").length = 4 := by rw [len_tl, tl_code]; rfl
    have ls : (Str.ofString " ").length = 1 := by rw [len_tl, tl_sp]; rfl
    have o1 : okLen ((Str.ofString "code").length + (Str.ofString " ").length) = true := ok_le (by omega)
    simp only [fBin_at, fC_at, Out.bind_ok, gAdd_str, o1, if_true, ofOpt_some, code2]
  simp only [fBin_at, fC_at, Out.bind_ok] at h e ⊢
  rw [e] at h
  simpa only [Out.bind_ok] using h
end
end CB
set_option Elab.async false
set_option linter.all false
set_option maxRecDepth 100000
namespace CB
open PySem PySem.Spec PyProof.Rows L2
@[simp] theorem gZip_tl {xs ys : List D} : gZip [.tup xs, .lst ys] = some (dZip xs ys) := rfl
@[simp] theorem gZip_lt {xs ys : List D} : gZip [.lst xs, .tup ys] = some (dZip xs ys) := rfl
@[simp] theorem gZipI_at {x y : D} : gZipI [x, y] = (gZip [x, y]).bind fun zs => if immL zs then some zs else none := rfl
@[simp] theorem sRaise_at {x : Str} {ρ : En} {S : Store} : sRaise x ρ S = .ex (exD x []) S := rfl
theorem anyEnc (w : List Int) (rows : List (List Int)) : ((rows.map encR).any fun z => PyData.eqv z.py (encR w).py) = decide (w ∈ rows) := by
  induction rows with
  | nil => rfl
  | cons r rows ih =>
    rw [List.map_cons, List.any_cons, ih, eqvEnc]
    by_cases h : r = w
    · simp [h]
    · have : ¬ w = r := fun z => h z.symm
      simp [h, this]
theorem gIn_rows {w : List Int} {rows : List (List Int)} : gIn (encR w) (.lst (rows.map encR)) = some (.bl (decide (w ∈ rows))) := by
  show (if _ then some (D.bl _) else none) = _
  rw [if_pos (by rw [Bool.and_eq_true]; exact ⟨shaped_enc w, shaped_rows rows⟩), anyEnc]
theorem gNotIn_rows {w : List Int} {rows : List (List Int)} : gNotIn (encR w) (.lst (rows.map encR)) = some (.bl (!decide (w ∈ rows))) := by
  show (if _ then some (D.bl _) else none) = _
  rw [if_pos (by rw [Bool.and_eq_true]; exact ⟨shaped_enc w, shaped_rows rows⟩), anyEnc]
theorem gEq_enc {a b : List Int} : gEq (encR a) (encR b) = some (.bl (decide (a = b))) := by
  show (if _ then some (D.bl _) else none) = _
  rw [if_pos (by rw [Bool.and_eq_true]; exact ⟨shaped_enc a, shaped_enc b⟩), eqvEnc]
theorem gNe_enc {a b : List Int} : gNe (encR a) (encR b) = some (.bl (!decide (a = b))) := by
  show (if _ then some (D.bl _) else none) = _
  rw [if_pos (by rw [Bool.and_eq_true]; exact ⟨shaped_enc a, shaped_enc b⟩), eqvEnc]
theorem fRefused_ok {live : List Str} {Tb : Addr} {q : Str} {fb : F D} {ρ : En} {S S' : Store} {d : D} (h : S Tb = some (.tbl q)) (e : fb ρ S = .ok d S') : fRefused live Tb q fb ρ S = .ok (.tup [.str "", d]) S' := by
  unfold fRefused
  rw [h]
  simp only [if_true, e]
theorem fRefused_ex {live : List Str} {Tb : Addr} {q : Str} {fb : F D} {ρ : En} {S S' : Store} {x : Str} {is : List Int} (h : S Tb = some (.tbl q)) (e : fb ρ S = .ex (exD x is) S') (h1 : x ∈ live) (h2 : x ∈ excNames) (h3 : is.length = arX x) : fRefused live Tb q fb ρ S = .ok (refAns x is) S' := by
  unfold fRefused
  rw [h]
  simp only [if_true, e, ansOf_exD h1 h2 h3]
end CB
set_option Elab.async false
set_option linter.all false
set_option maxRecDepth 100000
namespace CB
open PySem PySem.Spec PyProof.Rows L2
theorem gSortedA_rows {rs : List (List Int)} (h : ∀ r ∈ rs, r ≠ []) : gSortedA [.lst (rs.map encR)] = some (.lst ((sortR rs).map encR)) := by
  have hall : rs.all (fun r => !r.isEmpty) = true := by
    rw [List.all_eq_true]
    intro r hr
    have := h r hr
    cases r with
    | nil => exact absurd rfl this
    | cons x r => rfl
  cases rs with
  | nil =>
    show some (D.lst ((sortI []).map .int)) = _
    simp [sortI, sortR]
  | cons x rs =>
    have hi : intsOf ((x :: rs).map encR) = none := rfl
    show (match intsOf ((x :: rs).map encR) with
      | some is => some (D.lst ((sortI is).map .int))
      | none => match rowsOf ((x :: rs).map encR) with
        | some rs => if rs.all (fun r => !r.isEmpty) then some (D.lst ((sortR rs).map encR)) else none
        | none => none) = _
    rw [hi, rowsOf_map]
    simp only
    rw [if_pos hall]
theorem sortR_filter {p : List Int → Bool} {rs : List (List Int)} : sortR (rs.filter p) = (sortR rs).filter p :=
  (sortR_eq ((sortR_perm rs).filter p) ((sortR_pw rs).filter p)).symm
theorem gEq_nats {ps : List Nat} : gEq (.lst (ps.map fun (j : Nat) => D.int (j : Int))) (.lst []) = some (.bl ps.isEmpty) := by
  have := gEq_ints (r := ps.map fun (j : Nat) => (j : Int))
  rw [List.map_map] at this
  simpa [Function.comp_def] using this
/-- a digit, or a blot -/
def opD : Option Int → D
  | none => .non
  | some i => .int i
def encO (t : List (Option Int)) : D := .tup (t.map opD)
theorem opD_imm (o : Option Int) : (opD o).imm = true := by cases o <;> rfl
theorem immL_opD (t : List (Option Int)) : immL (t.map opD) = true := by
  rw [immL_all, List.all_map, List.all_eq_true]
  exact fun o _ => opD_imm o
def tg (t : List (Option Int)) (k : Nat) : Option Int := t.getD k none
theorem gIx_encO {t : List (Option Int)} {k : Nat} (h : k < t.length) : gIx (encO t) (.int (k : Int)) = some (opD (tg t k)) := by
  show atI (t.map opD) (k : Int) = _
  rw [atI_nat' (by simpa using h)]
  simp [tg, List.getD_eq_getElem?_getD, h]
@[simp] theorem gNotN_opD {o : Option Int} : gNotN (opD o) .non = some (.bl o.isSome) := by cases o <;> rfl
@[simp] theorem gIsN_opD {o : Option Int} : gIsN (opD o) .non = some (.bl o.isNone) := by cases o <;> rfl
def isNumB (d : D) (lo hi : Int) : Bool := match d with
  | .int k => decide (lo ≤ k) && decide (k ≤ hi)
  | _ => false
theorem is_number_any {d : D} {lo hi : Int} {S : Store} (h : (∃ k, d = .int k) ∨ d = .non ∨ ∃ s, d = .str s) : q_is_number [d, .int lo, .int hi] S = .ok (.bl (isNumB d lo hi)) S := by
  rcases h with ⟨k, rfl⟩ | rfl | ⟨s, rfl⟩
  · exact is_number_ok
  · unfold q_is_number fs_is_number
    simp (decide := true) [tyNames, isB, isNumB, gIsi_at]
  · have : tyN (.str s) = some "str" := rfl
    unfold q_is_number fs_is_number
    simp (decide := true) [tyNames, isB, isNumB, gIsi_at, this]
theorem mem_sortR {xs : List (List Int)} {w : List Int} : w ∈ sortR xs ↔ w ∈ xs := (sortR_perm xs).mem_iff
theorem sortedA_span {f : Int} {n : Nat} {rows : List (List Int)} (C : CodeOk f n rows) : gSortedA [.lst ((spanL f n rows).map encR)] = some (.lst ((sortR (spanL f n rows)).map encR)) := by
  have h2 := C.f2
  have hall : (spanL f n rows).all (fun r => !r.isEmpty) = true := by
    rw [List.all_eq_true]
    intro r hrr
    have := (spanL_rows (by omega) rows (fun r h => (C.ok r h).len) r hrr).len
    have := C.n1
    cases r with
    | nil => simp at *; omega
    | cons x r => rfl
  have hne : spanL f n rows ≠ [] := fun z => by
    have := congrArg List.length z
    rw [spanL_len] at this
    have := Nat.pow_pos (n := rows.length) (show 0 < f.toNat by omega)
    simp at *
    omega
  generalize spanL f n rows = rs at hne hall
  cases rs with
  | nil => exact absurd rfl hne
  | cons x rs =>
    have hi : intsOf ((x :: rs).map encR) = none := rfl
    show (match intsOf ((x :: rs).map encR) with
      | some is => some (D.lst ((sortI is).map .int))
      | none => match rowsOf ((x :: rs).map encR) with
        | some rs => if rs.all (fun r => !r.isEmpty) then some (D.lst ((sortR rs).map encR)) else none
        | none => none) = _
    rw [hi, rowsOf_map]
    simp only
    rw [if_pos hall]
theorem span_small {f : Int} {n : Nat} {rows : List (List Int)} (C : CodeOk f n rows) : (sortR (spanL f n rows)).length ≤ 729 := by
  rw [(sortR_perm _).length_eq, spanL_len]; exact C.many
theorem span_lens {f : Int} {n : Nat} {rows : List (List Int)} (C : CodeOk f n rows) : ∀ w ∈ sortR (spanL f n rows), w.length ≤ 100000 := fun w hw => by
  have h2 := C.f2
  have := (spanL_rows (by omega) rows (fun r h => (C.ok r h).len) w (mem_sortR.mp hw)).len
  have := C.n10
  omega
theorem Cur.tb [Base] {p Tb : Addr} {S : Store} (h : Cur p S) (n : p ≠ Tb) : S Tb = Base.B Tb := by
  obtain ⟨ns, i, g, m, _, rfl⟩ := h
  unfold updS
  rw [if_neg (fun z => n z.symm)]
theorem law_row_all (ns : List Int) : ∃ mixed, ∀ S, q_law_row [.fro (ns.map D.int)] S = .ok (.lst (curD ns 0 0 mixed)) S := by
  refine ⟨ns.foldl (fun m x => (m * 48271 + x + 11) % 2147483647) 7, fun S => ?_⟩
  obtain ⟨ρ', S', e, rfl, x2, rfl⟩ := loopS_all (b := bName 2) (body := fb_law_row_1) D.int (fun pre ρ S' => S' = S ∧ ∃ x2, ρ = [.ro (.fro (ns.map D.int)), .ro (.int (pre.foldl (fun m x => (m * 48271 + x + 11) % 2147483647) 7)), x2]) ns [.ro (.fro (ns.map D.int)), .ro (.int 7), .no] S ⟨rfl, .no, rfl⟩ fun pre x post ρ S' hs ⟨e1, x2, e2⟩ => by
    subst e1 e2
    refine ⟨_, _, _, rfl, ?_, rfl, .ro (.int x), by rw [List.foldl_append]⟩
    have e1 : okMul (pre.foldl (fun m x => (m * 48271 + x + 11) % 2147483647) 7) 48271 = true := okMul_r (by decide)
    unfold fb_law_row_1
    simp [e1]
  unfold q_law_row fs_law_row
  simp [e, curD]
end CB
set_option Elab.async false
set_option linter.all false
set_option maxRecDepth 100000
namespace CB
open PySem PySem.Spec PyProof.Rows L2 TL
section
variable {S : Store}
def lnD (l : Ln) : D := .str l.str
theorem lns_map (c : CT) : (lns c).map lnD = [D.str (hdrS c.1 c.2.1)] ++ (c.2.2.map digS).map D.str := by
  unfold lns
  rw [List.map_cons, List.map_map, List.map_map]; rfl
theorem rows_dig {c : CT} (h : COk c) : ∀ r ∈ c.2.2, r.length ≤ 100 ∧ ∀ x ∈ r, 0 ≤ x ∧ x < 3 := fun r hr => by
  have := h.n10; have := h.f3
  have hl := (h.ok r hr).len
  exact ⟨by omega, fun x hx => by have := (h.ok r hr).dig x hx; omega⟩
theorem flat_len {pre : List CT} {c : CT} {post cs : List CT} (hs : cs = pre ++ c :: post) (h : ∀ c ∈ cs, COk c) (h5 : cs.length ≤ 5) : (pre.flatMap lns).length ≤ 55 ∧ (lns c).length ≤ 11 := by
  have hp : pre.length ≤ 5 := by rw [hs] at h5; simp at h5; omega
  have a := lns_len (cs := pre) fun x hx => h x (by rw [hs]; exact List.mem_append_left _ hx)
  have b := (h c (by rw [hs]; simp)).k
  have : (lns c).length = c.2.2.length + 1 := by unfold lns; simp
  exact ⟨Nat.le_trans a (by omega), by omega⟩
theorem text_join {cs : List CT} (h : ∀ c ∈ cs, COk c) (h5 : cs.length ≤ 5) : gJoin (Str.ofString "\n") (.lst ((cs.flatMap lns).map lnD)) = some (.str (textOf cs)) := by
  have := gJoin_ok (a := Str.ofString "\n") (ys := (cs.flatMap lns).map Ln.str) (by have := (text_len h h5).2; omega)
  rw [List.map_map] at this
  exact this
theorem immL_lnD (ls : List Ln) : immL (ls.map lnD) = true := by rw [immL_all]; simp [lnD]
theorem written_ok {cs : List CT} (h : ∀ c ∈ cs, COk c) (h5 : cs.length ≤ 5) : q_written [.lst (cs.map cD)] S = .ok (.str (textOf cs)) S := by
  obtain ⟨ρ', S', e, hS, x2, rfl⟩ := loopS_all (b := bName 2) (body := fb_written_1) cD (fun pre ρ S' => S' = S ∧ ∃ x2, ρ = [.ro (.lst (cs.map cD)), .own (.lst ((pre.flatMap lns).map lnD)), x2, .no, .no]) cs
    [.ro (.lst (cs.map cD)), .own (.lst []), .no, .no, .no] S ⟨rfl, .no, rfl⟩ fun pre c post ρ S' hs ⟨e1, x2, e2⟩ => by
    subst e1 e2
    have C : CodeOk c.1 c.2.1 c.2.2 := h c (by rw [hs]; simp)
    obtain ⟨fl, ll⟩ := flat_len hs h h5
    have n := need_code_ok (S := S') C
    have n' : q_need_code [cD c] S' = .ok .non S' := n
    have f2 := C.f2; have f3 := C.f3; have n1 := C.n1; have n10 := C.n10; have kk := C.k
    have g0 : gIx (cD c) (.int 0) = some (.int c.1) := rfl
    have g1 : gIx (cD c) (.int 1) = some (.int (c.2.1 : Int)) := rfl
    have g2 : gIx (cD c) (.int 2) = some (.tup (c.2.2.map encR)) := rfl
    have ha := hdr_app (S := S') (f := c.1) (n := (c.2.1 : Int)) (by omega) (by omega) (by omega) (by omega) (ρ := [.ro (.lst (cs.map cD)), .own (.lst ((pre.flatMap lns).map lnD)), .ro (cD c), .no, .no]) (fa := fBin gIx (fVar 2) (fC (.int 0))) (fb := fBin gIx (fVar 2) (fC (.int 1))) (by simp only [sSet_at, fCall_at, fCons_at, fVar_at, fVarO_at, fC_at, fNil_at, fBin_at, fApp_at, List.getElem?_cons_succ, List.getElem?_cons_zero, Out.bind_ok, ofOpt_some, noEx_ok, Out.toS_ok, List.set_cons_succ, List.set_cons_zero, if_true, fImm_at, fImm1_at, imm_tup, imm_int, imm_non, imm_str, imm_bl, immL_cons, immL_nil, Bool.and_self, fTup_at, fLst_at, List.length_cons, List.length_nil, Nat.zero_add, Nat.reduceAdd, okLen_0, okLen_1, okLen_2, okLen_3, okLen_4, okLen_5, okLen_6, topImm_tup, topImm_lst, topImm_int, gAdd_int, gSub_at, g0]) (by simp only [sSet_at, fCall_at, fCons_at, fVar_at, fVarO_at, fC_at, fNil_at, fBin_at, fApp_at, List.getElem?_cons_succ, List.getElem?_cons_zero, Out.bind_ok, ofOpt_some, noEx_ok, Out.toS_ok, List.set_cons_succ, List.set_cons_zero, if_true, fImm_at, fImm1_at, imm_tup, imm_int, imm_non, imm_str, imm_bl, immL_cons, immL_nil, Bool.and_self, fTup_at, fLst_at, List.length_cons, List.length_nil, Nat.zero_add, Nat.reduceAdd, okLen_0, okLen_1, okLen_2, okLen_3, okLen_4, okLen_5, okLen_6, topImm_tup, topImm_lst, topImm_int, gAdd_int, gSub_at, g1])
    have hc := dig_comp (S := S') (i := 3) (j := 4) (ρ := [.ro (.lst (cs.map cD)), .own (.lst ((pre.flatMap lns).map lnD ++ [D.str (hdrS c.1 c.2.1)])), .ro (cD c), .no, .no]) (by decide) (show 3 < 5 by decide) (show 4 < 5 by decide) (rows_dig C)
    have ol1 : okLen (((pre.flatMap lns).map lnD).length + 1) = true := ok_le (by rw [List.length_map]; omega)
    have ol2 : okLen (c.2.2.map encR).length = true := ok_le (by simp; omega)
    have ol3 : okLen (((pre.flatMap lns).map lnD ++ [D.str (hdrS c.1 c.2.1)]).length + ((c.2.2.map digS).map D.str).length) = true := ok_le (by rw [List.length_append, List.length_map, List.length_map, List.length_map, List.length_cons, List.length_nil]; omega)
    have im3 : immL ((c.2.2.map digS).map D.str) = true := by rw [immL_all]; simp
    have him : immL (c.2.2.map encR) = true := immL_encs
    have hfl : ((pre ++ [c]).flatMap lns).map lnD = (pre.flatMap lns).map lnD ++ [D.str (hdrS c.1 c.2.1)] ++ (c.2.2.map digS).map D.str := by
      rw [List.flatMap_append, List.map_append, List.append_assoc, ← lns_map]
      simp
    refine ⟨_, _, _, rfl, ?_, rfl, .ro (cD c), rfl⟩
    rw [hfl]
    unfold fb_written_1
    show (sSeq _ _) [.ro (.lst (cs.map cD)), .own (.lst ((pre.flatMap lns).map lnD)), .ro (cD c), .no, .no] S' = _
    rw [sSeq_at]
    simp only [sDrop_at, sSet_at, fCall_at, fCons_at, fVar_at, fVarO_at, fC_at, fNil_at, fBin_at, fApp_at, List.getElem?_cons_succ, List.getElem?_cons_zero, Out.bind_ok, ofOpt_some, noEx_ok, Out.toS_ok, List.set_cons_succ, List.set_cons_zero, if_true, fImm_at, fImm1_at, imm_tup, imm_int, imm_non, imm_str, imm_bl, immL_cons, immL_nil, Bool.and_self, fTup_at, fLst_at, List.length_cons, List.length_nil, Nat.zero_add, Nat.reduceAdd, okLen_0, okLen_1, okLen_2, okLen_3, okLen_4, okLen_5, okLen_6, topImm_tup, topImm_lst, topImm_int, gAdd_int, gSub_at, n']
    rw [sSeq_at, sMut_at]
    simp only [List.getElem?_cons_succ, List.getElem?_cons_zero, fCons_at, ha, fNil_at, Out.bind_ok, Out.toS_ok, gAppend_at, imm_str, Bool.true_and, ol1, if_true, List.set_cons_succ, List.set_cons_zero]
    simp only [sMut_at, fComp_at, fIter_at, sSet_at, fCall_at, fCons_at, fVar_at, fVarO_at, fC_at, fNil_at, fBin_at, fApp_at, List.getElem?_cons_succ, List.getElem?_cons_zero, Out.bind_ok, ofOpt_some, noEx_ok, Out.toS_ok, List.set_cons_succ, List.set_cons_zero, if_true, fImm_at, fImm1_at, imm_tup, imm_int, imm_non, imm_str, imm_bl, immL_cons, immL_nil, Bool.and_self, fTup_at, fLst_at, List.length_cons, List.length_nil, Nat.zero_add, Nat.reduceAdd, okLen_0, okLen_1, okLen_2, okLen_3, okLen_4, okLen_5, okLen_6, topImm_tup, topImm_lst, topImm_int, gAdd_int, gSub_at, g2, him, ol2, wipeE_cons, wipeE_nil, hc, gExtend, im3, ol3, Bool.true_and]
  have him : immL (cs.map cD) = true := by rw [immL_all]; simp [cD, codeD]
  have tj := text_join h h5
  rw [hS] at e
  unfold q_written fs_written
  simp only [runB_at, List.map_cons, List.map_nil, List.replicate, List.cons_append, List.nil_append, List.length_cons, List.length_nil, Nat.reduceAdd, Nat.reduceSub]
  rw [sSeq_at]
  simp only [sSetO_at, sSet_at, fCall_at, fCons_at, fVar_at, fVarO_at, fC_at, fNil_at, fBin_at, fApp_at, List.getElem?_cons_succ, List.getElem?_cons_zero, Out.bind_ok, ofOpt_some, noEx_ok, Out.toS_ok, List.set_cons_succ, List.set_cons_zero, if_true, fImm_at, fImm1_at, imm_tup, imm_int, imm_non, imm_str, imm_bl, immL_cons, immL_nil, Bool.and_self, fTup_at, fLst_at, List.length_cons, List.length_nil, Nat.zero_add, Nat.reduceAdd, okLen_0, okLen_1, okLen_2, okLen_3, okLen_4, okLen_5, okLen_6, topImm_tup, topImm_lst, topImm_int, gAdd_int, gSub_at, isC_lst]
  rw [sSeq_at]
  simp only [sFor_at, fIter_at, sSet_at, fCall_at, fCons_at, fVar_at, fVarO_at, fC_at, fNil_at, fBin_at, fApp_at, List.getElem?_cons_succ, List.getElem?_cons_zero, Out.bind_ok, ofOpt_some, noEx_ok, Out.toS_ok, List.set_cons_succ, List.set_cons_zero, if_true, fImm_at, fImm1_at, imm_tup, imm_int, imm_non, imm_str, imm_bl, immL_cons, immL_nil, Bool.and_self, fTup_at, fLst_at, List.length_cons, List.length_nil, Nat.zero_add, Nat.reduceAdd, okLen_0, okLen_1, okLen_2, okLen_3, okLen_4, okLen_5, okLen_6, topImm_tup, topImm_lst, topImm_int, gAdd_int, gSub_at, e]
  simp only [sRet_at, fSM, sSet_at, fCall_at, fCons_at, fVar_at, fVarO_at, fC_at, fNil_at, fBin_at, fApp_at, List.getElem?_cons_succ, List.getElem?_cons_zero, Out.bind_ok, ofOpt_some, noEx_ok, Out.toS_ok, List.set_cons_succ, List.set_cons_zero, if_true, fImm_at, fImm1_at, imm_tup, imm_int, imm_non, imm_str, imm_bl, immL_cons, immL_nil, Bool.and_self, fTup_at, fLst_at, List.length_cons, List.length_nil, Nat.zero_add, Nat.reduceAdd, okLen_0, okLen_1, okLen_2, okLen_3, okLen_4, okLen_5, okLen_6, topImm_tup, topImm_lst, topImm_int, gAdd_int, gSub_at, tj]
theorem plain_codes {cs : List CT} (h : ∀ c ∈ cs, COk c) (h5 : cs.length ≤ 5) : plain 6 (.lst (cs.map cD)) = true := by
  simp only [plain, Bool.and_eq_true, decide_eq_true_eq, List.length_map, List.all_map, List.all_eq_true, Function.comp]
  refine ⟨by omega, fun c hc => ?_⟩
  have C : CodeOk c.1 c.2.1 c.2.2 := h c hc
  exact plain_mono (plain_code (by have := C.k; omega) fun r hr => by have := (C.ok r hr).len; have := C.n10; omega)
end
end CB
set_option Elab.async false
set_option linter.all false
set_option maxRecDepth 100000
namespace CB
open PySem PySem.Spec PyProof.Rows L2 TL
section
variable {S : Store}
theorem codesL_of {ys : List D} (h : ∀ y ∈ ys, ∃ c : CT, y = cD c ∧ COk c) : ∃ cs : List CT, ys = cs.map cD ∧ ∀ c ∈ cs, COk c := by
  induction ys with
  | nil => exact ⟨[], rfl, by simp⟩
  | cons y ys ih =>
    obtain ⟨cs, e, hc⟩ := ih fun z hz => h z (by simp [hz])
    obtain ⟨c, rfl, ok⟩ := h y (by simp)
    exact ⟨c :: cs, by rw [e]; rfl, fun x hx => by
      rcases List.mem_cons.mp hx with rfl | hx
      · exact ok
      · exact hc x hx⟩
theorem law33_codes [Base] {p : Addr} {ρ : En} (h1 : ρ[1]? = some (.ro (.val (.ref p)))) (h11 : 11 < ρ.length) : ∀ (v : Nat) (S : Store), Cur p S → ∃ (cs : List CT) (S' : Store), compF (bName 11) fYes (fCall (fun ds S => noEx (q_law_code ds S)) (fCons (fVar 1) (fCons (fC (.int 10)) (fCons (fC (.int 5)) fNil)))) ρ ((List.range v).map fun (i : Nat) => D.int (i : Int)) S = .ok (cs.map cD) S' ∧ Cur p S' ∧ (∀ c ∈ cs, COk c) ∧ cs.length = v := fun v S hc => by
  obtain ⟨ys, S', e, c', hl, hR⟩ := compF_rel (b := bName 11) (elt := fCall (fun ds S => noEx (q_law_code ds S)) (fCons (fVar 1) (fCons (fC (.int 10)) (fCons (fC (.int 5)) fNil)))) (ρ := ρ) (fun (i : Nat) => D.int (i : Int)) (Cur p) (fun y => ∃ c : CT, y = cD c ∧ COk c) (List.range v) S hc fun i _ S hc => by
    obtain ⟨f, n, rows, S1, e1, c1, C, _, _⟩ := law_code_ok (far := 10) (most := 5) hc (by omega) (by omega) (by omega)
    have e1 : q_law_code [.val (.ref p), .int 10, .int 5] S = .ok (codeD f n rows) S1 := e1
    have a1 : (ρ.set 11 (.ro (.int (i : Int))))[1]? = some (.ro (.val (.ref p))) := by rw [List.getElem?_set_ne (by decide), h1]
    exact ⟨_, _, S1, rfl, by simp only [sSet_at, fCall_at, fCons_at, fVar_at, fVarO_at, fC_at, fNil_at, fBin_at, fApp_at, List.getElem?_cons_succ, List.getElem?_cons_zero, Out.bind_ok, ofOpt_some, noEx_ok, Out.toS_ok, List.set_cons_succ, List.set_cons_zero, if_true, fImm_at, fImm1_at, imm_tup, imm_int, imm_non, imm_str, imm_bl, immL_cons, immL_nil, Bool.and_self, fTup_at, fLst_at, List.length_cons, List.length_nil, Nat.zero_add, Nat.reduceAdd, okLen_0, okLen_1, okLen_2, okLen_3, okLen_4, okLen_5, okLen_6, topImm_tup, topImm_lst, topImm_int, gAdd_int, gSub_at, a1, e1]; rfl, c1, (f, n, rows), rfl, C⟩
  obtain ⟨cs, rfl, hcs⟩ := codesL_of hR
  exact ⟨cs, S', e, c', hcs, by simpa using hl⟩
theorem law33_rows {cs : List CT} (h : ∀ c ∈ cs, COk c) (h5 : cs.length ≤ 5) {a0 a1 a2 x5 x6 x7 x8 x9 x10 : Sl} : ∃ y5 y6 y7, loopS (bTup3 (bName 5) (bName 6) (bName 7)) fb_law_1 (cs.map cD) [a0, a1, a2, .ro (.lst (cs.map cD)), .own (.lst []), x5, x6, x7, x8, x9, x10, .no, .no, .no] S =
    .nx [a0, a1, a2, .ro (.lst (cs.map cD)), .own (.lst ((cs.flatMap lns).map lnD)), y5, y6, y7, x8, x9, x10, .no, .no, .no] S := by
  obtain ⟨ρ', S', e, hS, y5, y6, y7, rfl⟩ := loopS_all (b := bTup3 (bName 5) (bName 6) (bName 7)) (body := fb_law_1) cD (fun pre ρ S' => S' = S ∧ ∃ y5 y6 y7, ρ = [a0, a1, a2, .ro (.lst (cs.map cD)), .own (.lst ((pre.flatMap lns).map lnD)), y5, y6, y7, x8, x9, x10, .no, .no, .no]) cs
    [a0, a1, a2, .ro (.lst (cs.map cD)), .own (.lst []), x5, x6, x7, x8, x9, x10, .no, .no, .no] S ⟨rfl, x5, x6, x7, rfl⟩ fun pre c post ρ S' hs ⟨e1, y5, y6, y7, e2⟩ => by
    subst e1 e2
    have C : CodeOk c.1 c.2.1 c.2.2 := h c (by rw [hs]; simp)
    obtain ⟨fl, ll⟩ := flat_len hs h h5
    have f2 := C.f2; have f3 := C.f3; have n1 := C.n1; have n10 := C.n10; have kk := C.k
    have ha := hdr_app2 (S := S') (f := c.1) (n := (c.2.1 : Int)) (by omega) (by omega) (by omega) (by omega) (ρ := [a0, a1, a2, .ro (.lst (cs.map cD)), .own (.lst ((pre.flatMap lns).map lnD)), .ro (.int c.1), .ro (.int (c.2.1 : Int)), .ro (.tup (c.2.2.map encR)), x8, x9, x10, .no, .no, .no]) (fa := fVar 5) (fb := fVar 6) (by simp only [sSet_at, fCall_at, fCons_at, fVar_at, fVarO_at, fC_at, fNil_at, fBin_at, fApp_at, List.getElem?_cons_succ, List.getElem?_cons_zero, Out.bind_ok, ofOpt_some, noEx_ok, Out.toS_ok, List.set_cons_succ, List.set_cons_zero, if_true, fImm_at, fImm1_at, imm_tup, imm_int, imm_non, imm_str, imm_bl, immL_cons, immL_nil, Bool.and_self, fTup_at, fLst_at, List.length_cons, List.length_nil, Nat.zero_add, Nat.reduceAdd, okLen_0, okLen_1, okLen_2, okLen_3, okLen_4, okLen_5, okLen_6, topImm_tup, topImm_lst, topImm_int, gAdd_int, gSub_at]) (by simp only [sSet_at, fCall_at, fCons_at, fVar_at, fVarO_at, fC_at, fNil_at, fBin_at, fApp_at, List.getElem?_cons_succ, List.getElem?_cons_zero, Out.bind_ok, ofOpt_some, noEx_ok, Out.toS_ok, List.set_cons_succ, List.set_cons_zero, if_true, fImm_at, fImm1_at, imm_tup, imm_int, imm_non, imm_str, imm_bl, immL_cons, immL_nil, Bool.and_self, fTup_at, fLst_at, List.length_cons, List.length_nil, Nat.zero_add, Nat.reduceAdd, okLen_0, okLen_1, okLen_2, okLen_3, okLen_4, okLen_5, okLen_6, topImm_tup, topImm_lst, topImm_int, gAdd_int, gSub_at])
    have hc := dig_comp (S := S') (i := 12) (j := 13) (ρ := [a0, a1, a2, .ro (.lst (cs.map cD)), .own (.lst ((pre.flatMap lns).map lnD ++ [D.str (hdrS c.1 c.2.1)])), .ro (.int c.1), .ro (.int (c.2.1 : Int)), .ro (.tup (c.2.2.map encR)), x8, x9, x10, .no, .no, .no]) (by decide) (show 12 < 14 by decide) (show 13 < 14 by decide) (rows_dig C)
    have ol1 : okLen (((pre.flatMap lns).map lnD).length + 1) = true := ok_le (by rw [List.length_map]; omega)
    have ol2 : okLen (c.2.2.map encR).length = true := ok_le (by simp; omega)
    have ol3 : okLen (((pre.flatMap lns).map lnD ++ [D.str (hdrS c.1 c.2.1)]).length + ((c.2.2.map digS).map D.str).length) = true := ok_le (by rw [List.length_append, List.length_map, List.length_map, List.length_map, List.length_cons, List.length_nil]; omega)
    have hfl : ((pre ++ [c]).flatMap lns).map lnD = (pre.flatMap lns).map lnD ++ [D.str (hdrS c.1 c.2.1)] ++ (c.2.2.map digS).map D.str := by
      rw [List.flatMap_append, List.map_append, List.append_assoc, ← lns_map]
      simp
    have iml : immL ((pre.flatMap lns).map lnD ++ [D.str (hdrS c.1 c.2.1)] ++ (c.2.2.map digS).map D.str) = true := by rw [← hfl]; exact immL_lnD _
    refine ⟨[a0, a1, a2, .ro (.lst (cs.map cD)), .own (.lst ((pre.flatMap lns).map lnD)), .ro (.int c.1), .ro (.int (c.2.1 : Int)), .ro (.tup (c.2.2.map encR)), x8, x9, x10, .no, .no, .no], _, _, rfl, ?_, rfl, .ro (.int c.1), .ro (.int (c.2.1 : Int)), .ro (.tup (c.2.2.map encR)), rfl⟩
    rw [hfl]
    unfold fb_law_1
    rw [sSeq_at, sMut_at]
    simp only [List.getElem?_cons_succ, List.getElem?_cons_zero, fCons_at, ha, fNil_at, Out.bind_ok, Out.toS_ok, gAppend_at, imm_str, Bool.true_and, ol1, if_true, List.set_cons_succ, List.set_cons_zero]
    simp only [sSetO_at, fComp_at, fIter_at, sSet_at, fCall_at, fCons_at, fVar_at, fVarO_at, fC_at, fNil_at, fBin_at, fApp_at, List.getElem?_cons_succ, List.getElem?_cons_zero, Out.bind_ok, ofOpt_some, noEx_ok, Out.toS_ok, List.set_cons_succ, List.set_cons_zero, if_true, fImm_at, fImm1_at, imm_tup, imm_int, imm_non, imm_str, imm_bl, immL_cons, immL_nil, Bool.and_self, fTup_at, fLst_at, List.length_cons, List.length_nil, Nat.zero_add, Nat.reduceAdd, okLen_0, okLen_1, okLen_2, okLen_3, okLen_4, okLen_5, okLen_6, topImm_tup, topImm_lst, topImm_int, gAdd_int, gSub_at, ol2, wipeE_cons, wipeE_nil, hc, gAdd_lst, ol3, isC_lst, iml]
  rw [hS] at e
  exact ⟨y5, y6, y7, e⟩
theorem law33_turn [Base] {p : Addr} {a0 x2 x3 x4 x5 x6 x7 x8 x9 x10 : Sl} (hc : Cur p S) :
    ∃ y3 y4 y5 y6 y7 y8 y9 y10 S', fb_law_3 [a0, .ro (.val (.ref p)), x2, x3, x4, x5, x6, x7, x8, x9, x10, .no, .no, .no] S = .nx [a0, .ro (.val (.ref p)), x2, y3, y4, y5, y6, y7, y8, y9, y10, .no, .no, .no] S' ∧ Cur p S' := by
  obtain ⟨v0, S1, ev, c1, va, vb⟩ := taken_ok (m := 4) hc (by omega) (by omega)
  obtain ⟨v, rfl⟩ : ∃ v : Nat, v0 = (v : Int) := ⟨v0.toNat, by omega⟩
  obtain ⟨cs, S2, ec, c2, hcs, hl⟩ := law33_codes (p := p) (ρ := [a0, .ro (.val (.ref p)), x2, x3, x4, x5, x6, x7, x8, x9, x10, .no, .no, .no]) rfl (show 11 < 14 by decide) v S1 c1
  have h5 : cs.length ≤ 5 := by omega
  obtain ⟨y5, y6, y7, er⟩ := law33_rows (S := S2) hcs h5 (a0 := a0) (a1 := .ro (.val (.ref p))) (a2 := x2) (x5 := x5) (x6 := x6) (x7 := x7) (x8 := x8) (x9 := x9) (x10 := x10)
  have him : immL (cs.map cD) = true := by rw [immL_all]; simp [cD, codeD]
  have tj := text_join hcs h5
  have okv : okR (v : Int) = true := okR_nat (by omega)
  have hrg : gRange1 [.int (v : Int)] = some ((List.range v).map fun (i : Nat) => D.int (i : Int)) := by
    rw [gRange1_at, if_pos okv, Int.toNat_natCast, dRange_zero]
  have olv : okLen ((List.range v).map fun (i : Nat) => D.int (i : Int)).length = true := ok_le (by simp; omega)
  have hput : ∀ (ρ : En), putSl 3 (.lst (cs.map cD)) ρ = some (ρ.set 3 (.own (.lst (cs.map cD)))) := fun ρ => by
    unfold putSl
    rw [isC_lst, topImm_lst, him]; rfl
  have hput2 : ∀ (ρ : En), putSl 4 (.lst []) ρ = some (ρ.set 4 (.own (.lst []))) := fun ρ => rfl
  have rd := read_ok (S := S2) hcs h5
  have wr := written_ok (S := S2) hcs h5
  have a1 := alike_self 6 (.str (textOf cs)) S2 (strOk_small (text_small hcs))
  have a2 := alike_self 6 (.lst (cs.map cD)) S2 (plain_codes hcs h5)
  have ol : okLen ((cs.map cD).length + 1) = true := ok_le (by rw [List.length_map]; omega)
  have ht : (D.tup ([] : List D)).imm = true := rfl
  obtain ⟨ρ', S', e2, hS, y9, y10, rfl⟩ := loopS_all (b := bName 9) (body := fb_law_2) (fun (i : Nat) => D.int (i : Int)) (fun pre ρ S' => S' = S2 ∧ ∃ y9 y10, ρ = [a0, .ro (.val (.ref p)), x2, .ro (.lst (cs.map cD)), .own (.lst ((cs.flatMap lns).map lnD)), y5, y6, y7, .ro (.str (textOf cs)), y9, y10, .no, .no, .no]) (List.range 2)
    [a0, .ro (.val (.ref p)), x2, .ro (.lst (cs.map cD)), .own (.lst ((cs.flatMap lns).map lnD)), y5, y6, y7, .ro (.str (textOf cs)), x9, x10, .no, .no, .no] S2 ⟨rfl, x9, x10, rfl⟩ fun pre k post ρ S' hs ⟨e1, y9, y10, e2⟩ => by
    rw [e2, e1]
    refine ⟨_, _, _, rfl, ?_, rfl, .ro (.int (k : Int)), .own (.lst (cs.map cD ++ [.tup []])), rfl⟩
    show fb_law_2 [a0, .ro (.val (.ref p)), x2, .ro (.lst (cs.map cD)), .own (.lst ((cs.flatMap lns).map lnD)), y5, y6, y7, .ro (.str (textOf cs)), .ro (.int (k : Int)), y10, .no, .no, .no] S2 = _
    unfold fb_law_2
    rw [sSeq_at]
    simp only [sSetO_at, sSet_at, fCall_at, fCons_at, fVar_at, fVarO_at, fC_at, fNil_at, fBin_at, fApp_at, List.getElem?_cons_succ, List.getElem?_cons_zero, Out.bind_ok, ofOpt_some, noEx_ok, Out.toS_ok, List.set_cons_succ, List.set_cons_zero, if_true, fImm_at, fImm1_at, imm_tup, imm_int, imm_non, imm_str, imm_bl, immL_cons, immL_nil, Bool.and_self, fTup_at, fLst_at, List.length_cons, List.length_nil, Nat.zero_add, Nat.reduceAdd, okLen_0, okLen_1, okLen_2, okLen_3, okLen_4, okLen_5, okLen_6, topImm_tup, topImm_lst, topImm_int, gAdd_int, gSub_at, rd, isC_lst, him]
    rw [sSeq_at]
    simp only [sIf_at, fOr_at, fNot_at, fB_at, sSet_at, fCall_at, fCons_at, fVar_at, fVarO_at, fC_at, fNil_at, fBin_at, fApp_at, List.getElem?_cons_succ, List.getElem?_cons_zero, Out.bind_ok, ofOpt_some, noEx_ok, Out.toS_ok, List.set_cons_succ, List.set_cons_zero, if_true, fImm_at, fImm1_at, imm_tup, imm_int, imm_non, imm_str, imm_bl, immL_cons, immL_nil, Bool.and_self, fTup_at, fLst_at, List.length_cons, List.length_nil, Nat.zero_add, Nat.reduceAdd, okLen_0, okLen_1, okLen_2, okLen_3, okLen_4, okLen_5, okLen_6, topImm_tup, topImm_lst, topImm_int, gAdd_int, gSub_at, wr, a1, a2, Bool.not_true, Bool.false_eq_true, if_false, sSkip_at]
    simp only [sMut_at, sSet_at, fCall_at, fCons_at, fVar_at, fVarO_at, fC_at, fNil_at, fBin_at, fApp_at, List.getElem?_cons_succ, List.getElem?_cons_zero, Out.bind_ok, ofOpt_some, noEx_ok, Out.toS_ok, List.set_cons_succ, List.set_cons_zero, if_true, fImm_at, fImm1_at, imm_tup, imm_int, imm_non, imm_str, imm_bl, immL_cons, immL_nil, Bool.and_self, fTup_at, fLst_at, List.length_cons, List.length_nil, Nat.zero_add, Nat.reduceAdd, okLen_0, okLen_1, okLen_2, okLen_3, okLen_4, okLen_5, okLen_6, topImm_tup, topImm_lst, topImm_int, gAdd_int, gSub_at, gAppend_at, ht, Bool.true_and, ol]
  have hr2 : dRange 0 (2 : Int).toNat = (List.range 2).map fun (i : Nat) => D.int (i : Int) := dRange_nat 2
  have ho2 : okR 2 = true := rfl
  rw [hS] at e2
  refine ⟨.ro (.lst (cs.map cD)), .own (.lst ((cs.flatMap lns).map lnD)), y5, y6, y7, .ro (.str (textOf cs)), y9, y10, S2, ?_, c2⟩
  unfold fb_law_3
  rw [sSeq_at]
  simp only [sPar2, fComp_at, fAppL_at, sSet_at, fCall_at, fCons_at, fVar_at, fVarO_at, fC_at, fNil_at, fBin_at, fApp_at, List.getElem?_cons_succ, List.getElem?_cons_zero, Out.bind_ok, ofOpt_some, noEx_ok, Out.toS_ok, List.set_cons_succ, List.set_cons_zero, if_true, fImm_at, fImm1_at, imm_tup, imm_int, imm_non, imm_str, imm_bl, immL_cons, immL_nil, Bool.and_self, fTup_at, fLst_at, List.length_cons, List.length_nil, Nat.zero_add, Nat.reduceAdd, okLen_0, okLen_1, okLen_2, okLen_3, okLen_4, okLen_5, okLen_6, topImm_tup, topImm_lst, topImm_int, gAdd_int, gSub_at, ev, hrg, olv, wipeE_cons, wipeE_nil, ec, hput, hput2, Option.bind_some]
  rw [sSeq_at]
  simp only [sDem_at, sSet_at, fCall_at, fCons_at, fVar_at, fVarO_at, fC_at, fNil_at, fBin_at, fApp_at, List.getElem?_cons_succ, List.getElem?_cons_zero, Out.bind_ok, ofOpt_some, noEx_ok, Out.toS_ok, List.set_cons_succ, List.set_cons_zero, if_true, fImm_at, fImm1_at, imm_tup, imm_int, imm_non, imm_str, imm_bl, immL_cons, immL_nil, Bool.and_self, fTup_at, fLst_at, List.length_cons, List.length_nil, Nat.zero_add, Nat.reduceAdd, okLen_0, okLen_1, okLen_2, okLen_3, okLen_4, okLen_5, okLen_6, topImm_tup, topImm_lst, topImm_int, gAdd_int, gSub_at, sFor_at, fIter_at, er]
  rw [sSeq_at]
  simp only [fSM, sSet_at, fCall_at, fCons_at, fVar_at, fVarO_at, fC_at, fNil_at, fBin_at, fApp_at, List.getElem?_cons_succ, List.getElem?_cons_zero, Out.bind_ok, ofOpt_some, noEx_ok, Out.toS_ok, List.set_cons_succ, List.set_cons_zero, if_true, fImm_at, fImm1_at, imm_tup, imm_int, imm_non, imm_str, imm_bl, immL_cons, immL_nil, Bool.and_self, fTup_at, fLst_at, List.length_cons, List.length_nil, Nat.zero_add, Nat.reduceAdd, okLen_0, okLen_1, okLen_2, okLen_3, okLen_4, okLen_5, okLen_6, topImm_tup, topImm_lst, topImm_int, gAdd_int, gSub_at, tj]
  simp only [sFor_at, fAppL_at, gRange1_at, sSet_at, fCall_at, fCons_at, fVar_at, fVarO_at, fC_at, fNil_at, fBin_at, fApp_at, List.getElem?_cons_succ, List.getElem?_cons_zero, Out.bind_ok, ofOpt_some, noEx_ok, Out.toS_ok, List.set_cons_succ, List.set_cons_zero, if_true, fImm_at, fImm1_at, imm_tup, imm_int, imm_non, imm_str, imm_bl, immL_cons, immL_nil, Bool.and_self, fTup_at, fLst_at, List.length_cons, List.length_nil, Nat.zero_add, Nat.reduceAdd, okLen_0, okLen_1, okLen_2, okLen_3, okLen_4, okLen_5, okLen_6, topImm_tup, topImm_lst, topImm_int, gAdd_int, gSub_at, ho2, hr2, e2]
theorem law_runs (ns : List Int) (hl : ns.length ≤ 63) : LawRuns 1 f1_law f2_law (.ro (.fro (ns.map D.int)) :: List.replicate 13 Sl.no) := by
  obtain ⟨m, e⟩ := law_row_all ns
  refine ⟨.ro (.fro (ns.map D.int)) :: .own (.lst (curD ns 0 0 m)) :: List.replicate 12 Sl.no, curD ns 0 0 m, ?_, rfl, rfl, ?_, fun p => ?_⟩
  · have him : immL (curD ns 0 0 m) = true := by simp [curD]
    unfold f1_law
    simp [e, him, List.replicate]
  · simp [curD]
  · letI : Base := ⟨S0e⟩
    obtain ⟨ρ', S2, e2, x2, x3, x4, x5, x6, x7, x8, x9, x10, hc, rfl⟩ := loopS_all (b := bName 2) (body := fb_law_3) (fun (i : Nat) => D.int (i : Int)) (fun pre ρ S' => ∃ x2 x3 x4 x5 x6 x7 x8 x9 x10, Cur p S' ∧ ρ = [.ro (.fro (ns.map D.int)), .ro (.val (.ref p)), x2, x3, x4, x5, x6, x7, x8, x9, x10, .no, .no, .no]) (List.range 4)
      [.ro (.fro (ns.map D.int)), .ro (.val (.ref p)), .no, .no, .no, .no, .no, .no, .no, .no, .no, .no, .no, .no] (updS S0e p (.lst (curD ns 0 0 m))) ⟨.no, .no, .no, .no, .no, .no, .no, .no, .no, ⟨ns, 0, 0, m, hl, rfl⟩, rfl⟩ fun pre k post ρ S' hs ⟨x2, x3, x4, x5, x6, x7, x8, x9, x10, hc, e⟩ => by
      subst e
      obtain ⟨y3, y4, y5, y6, y7, y8, y9, y10, S'', e, hc'⟩ := law33_turn (a0 := .ro (.fro (ns.map D.int))) (x2 := .ro (.int (k : Int))) (x3 := x3) (x4 := x4) (x5 := x5) (x6 := x6) (x7 := x7) (x8 := x8) (x9 := x9) (x10 := x10) hc
      exact ⟨_, _, _, rfl, e, _, y3, y4, y5, y6, y7, y8, y9, y10, hc', rfl⟩
    refine ⟨S2, ?_⟩
    have hr2 : dRange 0 (4 : Int).toNat = (List.range 4).map fun (i : Nat) => D.int (i : Int) := dRange_nat 4
    have ho2 : okR 4 = true := rfl
    show f2_law [.ro (.fro (ns.map D.int)), .ro (.val (.ref p)), .no, .no, .no, .no, .no, .no, .no, .no, .no, .no, .no, .no] _ = _
    unfold f2_law
    simp only [sSeq_at, sFor_at, fAppL_at, gRange1_at, ho2, hr2, e2, sRet_at, sSet_at, fCall_at, fCons_at, fVar_at, fVarO_at, fC_at, fNil_at, fBin_at, fApp_at, List.getElem?_cons_succ, List.getElem?_cons_zero, Out.bind_ok, ofOpt_some, noEx_ok, Out.toS_ok, List.set_cons_succ, List.set_cons_zero, if_true, fImm_at, fImm1_at, imm_tup, imm_int, imm_non, imm_str, imm_bl, immL_cons, immL_nil, Bool.and_self, fTup_at, fLst_at, List.length_cons, List.length_nil, Nat.zero_add, Nat.reduceAdd, okLen_0, okLen_1, okLen_2, okLen_3, okLen_4, okLen_5, okLen_6, topImm_tup, topImm_lst, topImm_int, gAdd_int, gSub_at]
end
end CB
set_option Elab.async false
set_option linter.all false
set_option maxRecDepth 100000
namespace CB
open PySem PySem.Spec PyProof.Rows L2
set_option maxHeartbeats 4000000
def topS (i : Nat) : Stmt := PySem.Challenge.pw_codehouse_k33_written_and_read.main.body.getD i (.Pass ⟨0, 0, 0, 0⟩)
section
variable {P : Program} {w : World} {K : PySem.W.Frag} {mg : Str → Option Value} {base : Heap}
abbrev s_law_row : Stmt := topS 23
theorem sc_law_row : FnScope ["_law_script", "_law_mixed", "_law_cell"] ["_law_script"] (defScope s_law_row) := ⟨rfl, rfl, rfl, by decide +kernel, rfl, by decide +kernel, by decide +kernel⟩
theorem ok_law_row (A : At K mg "_law_row" s_law_row ["_law_script"]) (B : Bl mg) : Def1 P w K mg base "_law_row" 1 1 q_law_row := by
  have S := sc_law_row
  refine def_mk 0 A S fun f cdv Ar outer s H E hr => ?_
  show PSs _ _ (tS _ _ fs_law_row)
  unfold fs_law_row fb_law_row_1
  exact (es_cons (es_set 1 S.nd ev_int)
 (es_cons (es_for (ei_data (ev_var 0)) (pg_name (i := 2) S.nd rfl (by first | exact Or.inl rfl | exact Or.inr rfl)) (vs := [2]) (tg_name 2 (by decide))
 (es_one (es_set 1 S.nd (ev_flat (flat_bin fl_gMod) (ev_bin op_mod g2_mod (ev_bin op_add4 g2_add (ev_bin op_add4 g2_add (ev_bin op_mul g2_mulI (ev_lv (ev_var 1)) ev_int) (ev_lv (ev_var 2))) ev_int) ev_int)))) PassesOwn.never rfl)
 (es_one (es_ret (ev_lv (ev_imm1 (ev_lst (ea_cons (ev_lv (ev_var 0)) (ea_cons ev_int (ea_cons ev_int (ea_cons (ev_lv (ev_var 1)) ea_nil)))))))))))

abbrev s_is_number : Stmt := topS 6
theorem sc_is_number : FnScope ["part", "low", "high"] ["part", "low", "high"] (defScope s_is_number) := ⟨rfl, rfl, rfl, by decide +kernel, rfl, by decide +kernel, by decide +kernel⟩
theorem ok_is_number (A : At K mg "is_number" s_is_number ["part", "low", "high"]) (B : Bl mg) : Def1 P w K mg base "is_number" 1 3 q_is_number := by
  have S := sc_is_number
  refine def_mk 0 A S fun f cdv Ar outer s H E hr => ?_
  show PSs _ _ (tS _ _ fs_is_number)
  unfold fs_is_number
  exact (es_one (es_ret (ev_and (ev_callB call_isi gn_isi (by rfl) B.isinstance (by decide +kernel) (ea_cons (ev_lv (ev_var 0)) (ea_cons (ev_ty (by rfl) B.int (by decide +kernel)) ea_nil))) (ev_and (ev_not (ev_callB call_isi gn_isi (by rfl) B.isinstance (by decide +kernel) (ea_cons (ev_lv (ev_var 0)) (ea_cons (ev_ty (by rfl) B.bool (by decide +kernel)) ea_nil)))) (ev_one (ev_flat (flat_chain fl_gLe) (ev_chain op_le g2_le op_le g2_le (ev_lv (ev_var 1)) (ev_lv (ev_var 0)) (ev_lv (ev_var 2)))))))))

abbrev s_is_row : Stmt := topS 7
theorem sc_is_row : FnScope ["part", "field", "long", "one"] ["part", "field", "long"] (defScope s_is_row) := ⟨rfl, rfl, rfl, by decide +kernel, rfl, by decide +kernel, by decide +kernel⟩
theorem ok_is_row (A : At K mg "is_row" s_is_row ["part", "field", "long"]) (B : Bl mg) (Dis_number : Def1 P w K mg base "is_number" 1 3 q_is_number) : Def1 P w K mg base "is_row" 2 3 q_is_row := by
  have S := sc_is_row
  refine def_mk 1 A S fun f cdv Ar outer s H E hr => ?_
  show PSs _ _ (tS _ _ fs_is_row)
  unfold fs_is_row
  exact (es_one (es_ret (ev_and (ev_callB call_isi gn_isi (by rfl) B.isinstance (by decide +kernel) (ea_cons (ev_lv (ev_var 0)) (ea_cons (ev_ty (by rfl) B.tuple (by decide +kernel)) ea_nil))) (ev_and (ev_cmp (op_eqD hr.units) g2_eq (ev_callB cr_len gn_len (by rfl) B.len (by decide +kernel) (ea_cons (ev_lv (ev_var 0)) ea_nil)) (ev_lv (ev_var 2)) (nomark _)) (ev_one (ev_flat (flat_app fl_all) (ev_callB (cr_all rfl) gn_all (by rfl) B.all (by decide +kernel) (ea_cons (ev_lc (own := [("one", 3)]) S.nd (ei_c (ei_data (ev_var 0))) (blkOk_by (N := ["part", "field", "long", "one"]) (sc := defScope s_is_row) (own := [("one", 3)]) (by decide +kernel)) (tg_name 3 (by decide)) (fun _ _ _ _ _ => (pg_name (i := 3) S.nd rfl (by first | exact Or.inl rfl | exact Or.inr rfl))) (fun _ _ _ _ _ => ets_nil) (fun _ _ _ _ _ => (ev_lv (ev_callD Dis_number hr (by rfl) (ea_cons (ev_lv (ev_var 3)) (ea_cons ev_int (ea_cons (ev_bin op_sub g2_sub (ev_lv (ev_var 1)) ev_int) ea_nil))) (alen_cons (alen_cons (alen_cons alen0)))))) rfl) ea_nil))))))))

abbrev s_times_of : Stmt := topS 9
theorem sc_times_of : FnScope ["field", "row", "times", "one"] ["field", "row", "times"] (defScope s_times_of) := ⟨rfl, rfl, rfl, by decide +kernel, rfl, by decide +kernel, by decide +kernel⟩
theorem ok_times_of (A : At K mg "times_of" s_times_of ["field", "row", "times"]) (B : Bl mg) : Def1 P w K mg base "times_of" 1 3 q_times_of := by
  have S := sc_times_of
  refine def_mk 0 A S fun f cdv Ar outer s H E hr => ?_
  show PSs _ _ (tS _ _ fs_times_of)
  unfold fs_times_of
  exact (es_one (es_ret (ev_imm (ev_callTy cr_tuple gn_tuple (by rfl) B.tuple (by decide +kernel) (ea_cons (ev_lc (own := [("one", 3)]) S.nd (ei_c (ei_data (ev_var 1))) (blkOk_by (N := ["field", "row", "times", "one"]) (sc := defScope s_times_of) (own := [("one", 3)]) (by decide +kernel)) (tg_name 3 (by decide)) (fun _ _ _ _ _ => (pg_name (i := 3) S.nd rfl (by first | exact Or.inl rfl | exact Or.inr rfl))) (fun _ _ _ _ _ => ets_nil) (fun _ _ _ _ _ => (ev_flat (flat_bin fl_gMod) (ev_bin op_mod g2_mod (ev_bin op_mul g2_mulI (ev_lv (ev_var 2)) (ev_lv (ev_var 3))) (ev_lv (ev_var 0))))) rfl) ea_nil)))))

abbrev s_plus_times : Stmt := topS 8
theorem sc_plus_times : FnScope ["field", "one", "other", "times", "a", "b"] ["field", "one", "other", "times"] (defScope s_plus_times) := ⟨rfl, rfl, rfl, by decide +kernel, rfl, by decide +kernel, by decide +kernel⟩
theorem ok_plus_times (A : At K mg "plus_times" s_plus_times ["field", "one", "other", "times"]) (B : Bl mg) : Def1 P w K mg base "plus_times" 1 4 q_plus_times := by
  have S := sc_plus_times
  refine def_mk 0 A S fun f cdv Ar outer s H E hr => ?_
  show PSs _ _ (tS _ _ fs_plus_times)
  unfold fs_plus_times
  exact (es_one (es_ret (ev_imm (ev_callTy cr_tuple gn_tuple (by rfl) B.tuple (by decide +kernel) (ea_cons (ev_lc (own := [("a", 4), ("b", 5)]) S.nd (ei_c (ei_zip (by rfl) B.zip (ea_cons (ev_var 1) (ea_cons (ev_var 2) ea_nil)))) (blkOk_by (N := ["field", "one", "other", "times", "a", "b"]) (sc := defScope s_plus_times) (own := [("a", 4), ("b", 5)]) (by decide +kernel)) (tg_tup2 (tg_name 4 (by decide)) (tg_name 5 (by decide))) (fun _ _ _ _ _ => (pg_tup rfl (pgs_cons (pg_name (i := 4) S.nd rfl (by first | exact Or.inl rfl | exact Or.inr rfl)) (pgs_cons (pg_name (i := 5) S.nd rfl (by first | exact Or.inl rfl | exact Or.inr rfl)) pgs_nil)))) (fun _ _ _ _ _ => ets_nil) (fun _ _ _ _ _ => (ev_flat (flat_bin fl_gMod) (ev_bin op_mod g2_mod (ev_bin op_add4 g2_add (ev_lv (ev_var 4)) (ev_bin op_mul g2_mulI (ev_lv (ev_var 3)) (ev_lv (ev_var 5)))) (ev_lv (ev_var 0))))) rfl) ea_nil)))))

abbrev s_in_steps : Stmt := topS 10
theorem sc_in_steps : FnScope ["field", "rows", "places", "left", "found", "pivots", "place", "some", "first", "row"] ["field", "rows", "places"] (defScope s_in_steps) := ⟨rfl, rfl, rfl, by decide +kernel, rfl, by decide +kernel, by decide +kernel⟩
theorem ok_in_steps (A : At K mg "in_steps" s_in_steps ["field", "rows", "places"]) (B : Bl mg) (Dtimes_of : Def1 P w K mg base "times_of" 1 3 q_times_of) (Dplus_times : Def1 P w K mg base "plus_times" 1 4 q_plus_times) : Def1 P w K mg base "in_steps" 2 3 q_in_steps := by
  have S := sc_in_steps
  refine def_mk 1 A S fun f cdv Ar outer s H E hr => ?_
  show PSs _ _ (tS _ _ fs_in_steps)
  unfold fs_in_steps fb_in_steps_1
  exact (es_cons (es_setO 3 S.nd (ev_callTy cr_list gn_list (by rfl) B.list (by decide +kernel) (ea_cons (ev_lv (ev_var 1)) ea_nil)))
 (es_cons (es_setO 4 S.nd (ev_lst ea_nil))
 (es_cons (es_setO 5 S.nd (ev_lst ea_nil))
 (es_cons (es_for (ei_data (ev_var 2)) (pg_name (i := 6) S.nd rfl (by first | exact Or.inl rfl | exact Or.inr rfl)) (vs := [6]) (tg_name 6 (by decide))
 (es_cons (es_setLc 7 (own := [("row", 9)]) S.nd (ei_own 3) (blkOk_by (N := ["field", "rows", "places", "left", "found", "pivots", "place", "some", "first", "row"]) (sc := defScope s_in_steps) (own := [("row", 9)]) (by decide +kernel)) (tg_name 9 (by decide)) (fun _ _ _ _ _ => (pg_name (i := 9) S.nd rfl (by first | exact Or.inl rfl | exact Or.inr rfl))) (fun _ _ _ _ _ => (ets_one (et_cmp (op_neD hr.units) g2_ne (ev_ix (ev_lv (ev_var 9)) (ev_lv (ev_var 6))) ev_int (nomark _)))) (fun _ _ _ _ _ => (ev_var 9)) rfl (sw_true rfl rfl rfl (by decide +kernel)))
 (es_one (es_if (et_cmp (op_neD hr.units) g2_ne (ev_varO 7) (ev_lst ea_nil) (nomark _)) (es_cons (es_set 8 S.nd (ev_lv (ev_callD Dtimes_of hr (by rfl) (ea_cons (ev_lv (ev_var 0)) (ea_cons (ev_ix (ev_varO 7) ev_int) (ea_cons (ev_ix (ev_ix (ev_varO 7) ev_int) (ev_lv (ev_var 6))) ea_nil))) (alen_cons (alen_cons (alen_cons alen0))))))
 (es_cons (es_mut 3 PySem.F.plainAttrs_list PySem.F.slot_list_remove PySem.F.type_list_remove (mt_removeD (u65 hr)) mut_remove (ea_cons (ev_ix (ev_varO 7) ev_int) ea_nil))
 (es_cons (es_setLc 3 (own := [("row", 9)]) S.nd (ei_own 3) (blkOk_by (N := ["field", "rows", "places", "left", "found", "pivots", "place", "some", "first", "row"]) (sc := defScope s_in_steps) (own := [("row", 9)]) (by decide +kernel)) (tg_name 9 (by decide)) (fun _ _ _ _ _ => (pg_name (i := 9) S.nd rfl (by first | exact Or.inl rfl | exact Or.inr rfl))) (fun _ _ _ _ _ => ets_nil) (fun _ _ _ _ _ => (ev_lv (ev_callD Dplus_times hr (by rfl) (ea_cons (ev_lv (ev_var 0)) (ea_cons (ev_lv (ev_var 9)) (ea_cons (ev_lv (ev_var 8)) (ea_cons (ev_bin op_sub g2_sub ev_int (ev_ix (ev_lv (ev_var 9)) (ev_lv (ev_var 6)))) ea_nil)))) (alen_cons (alen_cons (alen_cons (alen_cons alen0))))))) rfl (sw_true rfl rfl rfl (by decide +kernel)))
 (es_cons (es_setO 4 S.nd (ev_bin op_add4 g2_add (ev_lc (own := [("row", 9)]) S.nd (ei_own 4) (blkOk_by (N := ["field", "rows", "places", "left", "found", "pivots", "place", "some", "first", "row"]) (sc := defScope s_in_steps) (own := [("row", 9)]) (by decide +kernel)) (tg_name 9 (by decide)) (fun _ _ _ _ _ => (pg_name (i := 9) S.nd rfl (by first | exact Or.inl rfl | exact Or.inr rfl))) (fun _ _ _ _ _ => ets_nil) (fun _ _ _ _ _ => (ev_lv (ev_callD Dplus_times hr (by rfl) (ea_cons (ev_lv (ev_var 0)) (ea_cons (ev_lv (ev_var 9)) (ea_cons (ev_lv (ev_var 8)) (ea_cons (ev_bin op_sub g2_sub ev_int (ev_ix (ev_lv (ev_var 9)) (ev_lv (ev_var 6)))) ea_nil)))) (alen_cons (alen_cons (alen_cons (alen_cons alen0))))))) rfl) (ev_lst (ea_cons (ev_lv (ev_var 8)) ea_nil))))
 (es_one (es_mut 5 PySem.F.plainAttrs_list PySem.F.slot_list_append PySem.F.type_list_append mt_append mut_append (ea_cons (ev_lv (ev_var 6)) ea_nil)))))))
 es_nil))) PassesOwn.never rfl)
 (es_one (es_ret (ev_tup (ea_cons (ev_varO 4) (ea_cons (ev_varO 5) ea_nil)))))))))

abbrev s_rank_of : Stmt := topS 11
theorem sc_rank_of : FnScope ["field", "rows"] ["field", "rows"] (defScope s_rank_of) := ⟨rfl, rfl, rfl, by decide +kernel, rfl, by decide +kernel, by decide +kernel⟩
theorem ok_rank_of (A : At K mg "rank_of" s_rank_of ["field", "rows"]) (B : Bl mg) (Din_steps : Def1 P w K mg base "in_steps" 2 3 q_in_steps) : Def1 P w K mg base "rank_of" 3 2 q_rank_of := by
  have S := sc_rank_of
  refine def_mk 2 A S fun f cdv Ar outer s H E hr => ?_
  show PSs _ _ (tS _ _ fs_rank_of)
  unfold fs_rank_of
  exact (es_cons (es_if (et_cmp (op_eqD hr.units) g2_eq (ev_lv (ev_var 1)) (ev_lst ea_nil) (nomark _)) (es_one (es_ret ev_int))
 es_nil)
 (es_one (es_ret (ev_flat (flat_app fl_len) (ev_callB cr_len gn_len (by rfl) B.len (by decide +kernel) (ea_cons (ev_ix (ev_lv (ev_callD Din_steps hr (by rfl) (ea_cons (ev_lv (ev_var 0)) (ea_cons (ev_lv (ev_var 1)) (ea_cons (ev_lv (ev_listRange1 (by rfl) B.list (by rfl) B.range (ea_cons (ev_callB cr_len gn_len (by rfl) B.len (by decide +kernel) (ea_cons (ev_ix (ev_lv (ev_var 1)) ev_int) ea_nil)) ea_nil) (ev_callB cr_len gn_len (by rfl) B.len (by decide +kernel) (ea_cons (ev_ix (ev_lv (ev_var 1)) ev_int) ea_nil)))) ea_nil))) (alen_cons (alen_cons (alen_cons alen0))))) ev_int) ea_nil))))))

abbrev s_need_code : Stmt := topS 14
theorem sc_need_code : FnScope ["code", "field", "long", "rows", "many", "number", "row"] ["code"] (defScope s_need_code) := ⟨rfl, rfl, rfl, by decide +kernel, rfl, by decide +kernel, by decide +kernel⟩
theorem ok_need_code (A : At K mg "need_code" s_need_code ["code"]) (B : Bl mg) (CMOST_LONG : ∃ t, mg "MOST_LONG" = some (.int 10 t)) (CMOST_WORDS : ∃ t, mg "MOST_WORDS" = some (.int 729 t)) (Dis_number : Def1 P w K mg base "is_number" 1 3 q_is_number) (Drank_of : Def1 P w K mg base "rank_of" 3 2 q_rank_of) (Dis_row : Def1 P w K mg base "is_row" 2 3 q_is_row) : Def1 P w K mg base "need_code" 4 1 q_need_code := by
  have S := sc_need_code
  refine def_mk 3 A S fun f cdv Ar outer s H E hr => ?_
  show PSs _ _ (tS _ _ fs_need_code)
  unfold fs_need_code fb_need_code_1
  exact (es_cons (es_if (PW.pt (ew_or (et_not (et_val (ev_callB call_isi gn_isi (by rfl) B.isinstance (by decide +kernel) (ea_cons (ev_lv (ev_var 0)) (ea_cons (ev_ty (by rfl) B.tuple (by decide +kernel)) ea_nil))))) (ew_or1 (et_cmp (op_neD hr.units) g2_ne (ev_callB cr_len gn_len (by rfl) B.len (by decide +kernel) (ea_cons (ev_lv (ev_var 0)) ea_nil)) ev_int (nomark _))))) (es_one es_never)
 es_nil)
 (es_cons (es_setT (ev_var 0) (pg_tup rfl (pgs_cons (pg_name (i := 1) S.nd rfl (by first | exact Or.inl rfl | exact Or.inr rfl)) (pgs_cons (pg_name (i := 2) S.nd rfl (by first | exact Or.inl rfl | exact Or.inr rfl)) (pgs_cons (pg_name (i := 3) S.nd rfl (by first | exact Or.inl rfl | exact Or.inr rfl)) pgs_nil)))) (vs := [1, 2, 3]) (tg_tup3 (tg_name 1 (by decide)) (tg_name 2 (by decide)) (tg_name 3 (by decide))))
 (es_cons (es_if (et_not (et_val (ev_lv (ev_callD Dis_number (hr.mono (by decide)) (by rfl) (ea_cons (ev_lv (ev_var 1)) (ea_cons ev_int (ea_cons ev_int ea_nil))) (alen_cons (alen_cons (alen_cons alen0))))))) (es_one es_never)
 es_nil)
 (es_cons (es_if (et_not (et_val (ev_lv (ev_callD Dis_number (hr.mono (by decide)) (by rfl) (ea_cons (ev_lv (ev_var 2)) (ea_cons ev_int (ea_cons (ev_globI CMOST_LONG) ea_nil))) (alen_cons (alen_cons (alen_cons alen0))))))) (es_one es_never)
 es_nil)
 (es_cons (es_if (et_not (et_val (ev_callB call_isi gn_isi (by rfl) B.isinstance (by decide +kernel) (ea_cons (ev_lv (ev_var 3)) (ea_cons (ev_ty (by rfl) B.tuple (by decide +kernel)) ea_nil))))) (es_one es_never)
 es_nil)
 (es_cons (es_set 4 S.nd ev_int)
 (es_one (es_for (ei_enum (by rfl) B.enumerate (ea_cons (ev_var 3) ea_nil)) (pg_tup rfl (pgs_cons (pg_name (i := 5) S.nd rfl (by first | exact Or.inl rfl | exact Or.inr rfl)) (pgs_cons (pg_name (i := 6) S.nd rfl (by first | exact Or.inl rfl | exact Or.inr rfl)) pgs_nil))) (vs := [5, 6]) (tg_tup2 (tg_name 5 (by decide)) (tg_name 6 (by decide)))
 (es_cons (es_aug 4 S.nd iop_mul g2_mulI (ev_var 1))
 (es_one (es_if (PW.pt (ew_or (et_cmp op_gt g2_gt (ev_lv (ev_var 4)) (ev_globI CMOST_WORDS) (nomark _)) (ew_or (et_not (et_val (ev_lv (ev_callD Dis_row (hr.mono (by decide)) (by rfl) (ea_cons (ev_lv (ev_var 6)) (ea_cons (ev_lv (ev_var 1)) (ea_cons (ev_lv (ev_var 2)) ea_nil))) (alen_cons (alen_cons (alen_cons alen0))))))) (ew_or1 (et_cmp op_le g2_le (ev_lv (ev_callD Drank_of hr (by rfl) (ea_cons (ev_lv (ev_var 1)) (ea_cons (ev_callTy cr_list gn_list (by rfl) B.list (by decide +kernel) (ea_cons (ev_slice (ev_lv (ev_var 3)) eo_none (eo_some (ev_bin op_add4 g2_add (ev_lv (ev_var 5)) ev_int))) ea_nil)) ea_nil)) (alen_cons (alen_cons alen0)))) (ev_lv (ev_var 5)) (nomark _)))))) (es_one es_never)
 es_nil))) PassesOwn.never rfl))))))))

abbrev s_number_of : Stmt := topS 20
theorem sc_number_of : FnScope ["word", "row", "sign"] ["word", "row"] (defScope s_number_of) := ⟨rfl, rfl, rfl, by decide +kernel, rfl, by decide +kernel, by decide +kernel⟩
theorem ok_number_of (A : At K mg "number_of" s_number_of ["word", "row"]) (B : Bl mg) (CMOST_FIGURES : ∃ t, mg "MOST_FIGURES" = some (.int 2 t)) (CFIGURES : ∃ t, mg "FIGURES" = some (.str (Str.ofString "0123456789") t)) : Def1 P w K mg base "number_of" 1 2 q_number_of := by
  have S := sc_number_of
  refine def_mk 0 A S fun f cdv Ar outer s H E hr => ?_
  show PSs _ _ (tS _ _ fs_number_of)
  unfold fs_number_of
  exact (es_cons (es_if (PW.pt (ew_or (et_not (et_chain op_le g2_le op_le g2_le ev_int (ev_callB cr_len gn_len (by rfl) B.len (by decide +kernel) (ea_cons (ev_lv (ev_var 0)) ea_nil)) (ev_globI CMOST_FIGURES))) (ew_or1 (et_val (ev_callB (cr_any rfl) gn_any (by rfl) B.any (by decide +kernel) (ea_cons (ev_lc (own := [("sign", 2)]) S.nd (ei_c (ei_data (ev_var 0))) (blkOk_by (N := ["word", "row", "sign"]) (sc := defScope s_number_of) (own := [("sign", 2)]) (by decide +kernel)) (tg_name 2 (by decide)) (fun _ _ _ _ _ => (pg_name (i := 2) S.nd rfl (by first | exact Or.inl rfl | exact Or.inr rfl))) (fun _ _ _ _ _ => ets_nil) (fun _ _ _ _ _ => (ev_flat (flat_bin fl_gNotInSg) (ev_cmp op_notIn_sign g2_notInSg (ev_lv (ev_var 2)) (ev_globS CFIGURES) rfl))) rfl) ea_nil)))))) (es_one es_never)
 es_nil)
 (es_cons (es_if (PW.pt (ew_and (et_cmp (op_eqD hr.units) g2_eq (ev_ix (ev_lv (ev_var 0)) ev_int) ev_str (nomark _)) (ew_and1 (et_cmp (op_neD hr.units) g2_ne (ev_lv (ev_var 0)) ev_str (nomark _))))) (es_one es_never)
 es_nil)
 (es_one (es_ret (ev_flat (flat_app fl_intA) (ev_callTy (call_int1.or call_int_str) gn_intA (by rfl) B.int (by decide +kernel) (ea_cons (ev_lv (ev_var 0)) ea_nil)))))))

abbrev s_read : Stmt := topS 21
theorem sc_read : FnScope ["text", "found", "row", "line", "words", "field", "long", "rows", "code", "sign"] ["text"] (defScope s_read) := ⟨rfl, rfl, rfl, by decide +kernel, rfl, by decide +kernel, by decide +kernel⟩
theorem ok_read (A : At K mg "read" s_read ["text"]) (B : Bl mg) (CCODE : ∃ t, mg "CODE" = some (.str (Str.ofString "code") t)) (CFIGURES : ∃ t, mg "FIGURES" = some (.str (Str.ofString "0123456789") t)) (Dnumber_of : Def1 P w K mg base "number_of" 1 2 q_number_of) (Dneed_code : Def1 P w K mg base "need_code" 4 1 q_need_code) : Def1 P w K mg base "read" 5 1 q_read := by
  have S := sc_read
  refine def_mk 4 A S fun f cdv Ar outer s H E hr => ?_
  show PSs _ _ (tS _ _ fs_read)
  unfold fs_read fb_read_1
  exact (es_cons (es_setO 1 S.nd (ev_lst ea_nil))
 (es_cons (es_for (ei_enum (by rfl) B.enumerate (ea_cons (ev_if (et_cmp (op_neD hr.units) g2_ne (ev_lv (ev_var 0)) ev_str (nomark _)) (ev_lv (ev_imm1 (ev_split (l := .top) (ev_lv (ev_var 0)) ev_str))) (ev_lv (ev_imm1 (ev_lst ea_nil)))) ea_nil)) (pg_tup rfl (pgs_cons (pg_name (i := 2) S.nd rfl (by first | exact Or.inl rfl | exact Or.inr rfl)) (pgs_cons (pg_name (i := 3) S.nd rfl (by first | exact Or.inl rfl | exact Or.inr rfl)) pgs_nil))) (vs := [2, 3]) (tg_tup2 (tg_name 2 (by decide)) (tg_name 3 (by decide)))
 (es_cons (es_set 4 S.nd (ev_lv (ev_imm1 (ev_split (l := .top) (ev_lv (ev_var 3)) ev_str))))
 (es_one (es_if (et_cmp (op_eqD hr.units) g2_eq (ev_ix (ev_lv (ev_var 4)) ev_int) (ev_globS CCODE) (nomark _)) (es_cons (es_if (et_cmp (op_neD hr.units) g2_ne (ev_callB cr_len gn_len (by rfl) B.len (by decide +kernel) (ea_cons (ev_lv (ev_var 4)) ea_nil)) ev_int (nomark _)) (es_one es_never)
 es_nil)
 (es_one (es_mut 1 PySem.F.plainAttrs_list PySem.F.slot_list_append PySem.F.type_list_append mt_append mut_append (ea_cons (ev_tup (ea_cons (ev_lv (ev_callD Dnumber_of (hr.mono (by decide)) (by rfl) (ea_cons (ev_ix (ev_lv (ev_var 4)) ev_int) (ea_cons (ev_lv (ev_var 2)) ea_nil)) (alen_cons (alen_cons alen0)))) (ea_cons (ev_lv (ev_callD Dnumber_of (hr.mono (by decide)) (by rfl) (ea_cons (ev_ix (ev_lv (ev_var 4)) ev_int) (ea_cons (ev_lv (ev_var 2)) ea_nil)) (alen_cons (alen_cons alen0)))) (ea_cons (ev_tup ea_nil) ea_nil)))) ea_nil))))
 (es_one (es_if (PW.pt (ew_or (et_cmp (op_eqD hr.units) g2_eq (ev_varO 1) (ev_lst ea_nil) (nomark _)) (ew_or (et_cmp (op_neD hr.units) g2_ne (ev_callB cr_len gn_len (by rfl) B.len (by decide +kernel) (ea_cons (ev_lv (ev_var 4)) ea_nil)) ev_int (nomark _)) (ew_or (et_cmp (op_eqD hr.units) g2_eq (ev_lv (ev_var 3)) ev_str (nomark _)) (ew_or1 (et_val (ev_callB (cr_any rfl) gn_any (by rfl) B.any (by decide +kernel) (ea_cons (ev_lc (own := [("sign", 9)]) S.nd (ei_c (ei_data (ev_var 3))) (blkOk_by (N := ["text", "found", "row", "line", "words", "field", "long", "rows", "code", "sign"]) (sc := defScope s_read) (own := [("sign", 9)]) (by decide +kernel)) (tg_name 9 (by decide)) (fun _ _ _ _ _ => (pg_name (i := 9) S.nd rfl (by first | exact Or.inl rfl | exact Or.inr rfl))) (fun _ _ _ _ _ => ets_nil) (fun _ _ _ _ _ => (ev_flat (flat_bin fl_gNotInSg) (ev_cmp op_notIn_sign g2_notInSg (ev_lv (ev_var 9)) (ev_globS CFIGURES) rfl))) rfl) ea_nil)))))))) (es_one es_never)
 (es_cons (es_setT (ev_imm (ev_ix (ev_varO 1) (ev_flat flat_neg (ev_neg ev_int)))) (pg_tup rfl (pgs_cons (pg_name (i := 5) S.nd rfl (by first | exact Or.inl rfl | exact Or.inr rfl)) (pgs_cons (pg_name (i := 6) S.nd rfl (by first | exact Or.inl rfl | exact Or.inr rfl)) (pgs_cons (pg_name (i := 7) S.nd rfl (by first | exact Or.inl rfl | exact Or.inr rfl)) pgs_nil)))) (vs := [5, 6, 7]) (tg_tup3 (tg_name 5 (by decide)) (tg_name 6 (by decide)) (tg_name 7 (by decide))))
 (es_one (es_put 1 (ev_flat flat_neg (ev_neg ev_int)) (ev_tup (ea_cons (ev_lv (ev_var 5)) (ea_cons (ev_lv (ev_var 6)) (ea_cons (ev_bin op_add4 g2_add (ev_lv (ev_var 7)) (ev_tup (ea_cons (ev_callTy cr_tuple gn_tuple (by rfl) B.tuple (by decide +kernel) (ea_cons (ev_lc (own := [("sign", 9)]) S.nd (ei_c (ei_data (ev_var 3))) (blkOk_by (N := ["text", "found", "row", "line", "words", "field", "long", "rows", "code", "sign"]) (sc := defScope s_read) (own := [("sign", 9)]) (by decide +kernel)) (tg_name 9 (by decide)) (fun _ _ _ _ _ => (pg_name (i := 9) S.nd rfl (by first | exact Or.inl rfl | exact Or.inr rfl))) (fun _ _ _ _ _ => ets_nil) (fun _ _ _ _ _ => (ev_flat (flat_app fl_intA) (ev_callTy (call_int1.or call_int_str) gn_intA (by rfl) B.int (by decide +kernel) (ea_cons (ev_lv (ev_var 9)) ea_nil)))) rfl) ea_nil)) ea_nil))) ea_nil)))))))))))) PassesOwn.never rfl)
 (es_cons (es_forE (ei_own 1) (pg_name (i := 8) S.nd rfl (by first | exact Or.inl rfl | exact Or.inr rfl)) (vs := [8]) (tg_name 8 (by decide))
 (ev_lv (ev_callD Dneed_code hr (by rfl) (ea_cons (ev_lv (ev_var 8)) ea_nil) (alen_cons alen0))) PassesOwn.never rfl)
 (es_one (es_ret (ev_varO 1))))))

abbrev s_law_taken : Stmt := topS 24
theorem sc_law_taken : FnScope ["_law_row_here", "_law_many", "_law_found", "_law_cell"] ["_law_row_here", "_law_many"] (defScope s_law_taken) := ⟨rfl, rfl, rfl, by decide +kernel, rfl, by decide +kernel, by decide +kernel⟩
theorem ok_law_taken (A : At K mg "_law_taken" s_law_taken ["_law_row_here", "_law_many"]) (B : Bl mg) : Def1 P w K mg base "_law_taken" 1 2 q_law_taken := by
  have S := sc_law_taken
  refine def_mk 0 A S fun f cdv Ar outer s H E hr => ?_
  show PSs _ _ (tS _ _ fs_law_taken)
  unfold fs_law_taken
  exact (es_cons (es_if (et_cmp op_gt g2_gt (ev_ixSt (ev_lv (ev_var 0)) ev_int) ev_int (nomark _)) (es_cons (es_set 2 S.nd (ev_flat (flat_bin fl_gMod) (ev_bin op_mod g2_mod (ev_ixSt (ev_lv (ev_var 0)) ev_int) (ev_lv (ev_var 1)))))
 (es_cons (es_putSt 0 ev_int (ev_bin op_fdiv g2_div (ev_ixSt (ev_lv (ev_var 0)) ev_int) (ev_lv (ev_var 1))))
 (es_one (es_ret (ev_imm (ev_lv (ev_var 2)))))))
 es_nil)
 (es_cons (es_if (et_cmp op_lt g2_lt (ev_ixSt (ev_lv (ev_var 0)) ev_int) (ev_callB cr_len gn_len (by rfl) B.len (by decide +kernel) (ea_cons (ev_ixSt (ev_lv (ev_var 0)) ev_int) ea_nil)) (nomark _)) (es_cons (es_set 3 S.nd (ev_imm (ev_ix (ev_ixSt (ev_lv (ev_var 0)) ev_int) (ev_ixSt (ev_lv (ev_var 0)) ev_int))))
 (es_cons (es_putSt 0 ev_int (ev_bin op_add4 g2_add (ev_ixSt (ev_lv (ev_var 0)) ev_int) ev_int))
 (es_cons (es_if (et_cmp op_ge g2_ge (ev_lv (ev_var 3)) (ev_bin op_pow g2_pow ev_int ev_int) (nomark _)) (es_one (es_putSt 0 ev_int (ev_bin op_fdiv g2_div (ev_lv (ev_var 3)) (ev_lv (ev_var 1)))))
 es_nil)
 (es_one (es_ret (ev_flat (flat_bin fl_gMod) (ev_bin op_mod g2_mod (ev_lv (ev_var 3)) (ev_lv (ev_var 1)))))))))
 es_nil)
 (es_cons (es_putSt 0 ev_int (ev_bin op_mod g2_mod (ev_bin op_add4 g2_add (ev_bin op_mul g2_mulI (ev_ixSt (ev_lv (ev_var 0)) ev_int) ev_int) ev_int) ev_int))
 (es_one (es_ret (ev_flat (flat_bin fl_gMod) (ev_bin op_mod g2_mod (ev_bin op_fdiv g2_div (ev_ixSt (ev_lv (ev_var 0)) ev_int) ev_int) (ev_lv (ev_var 1)))))))))

abbrev s_law_digits : Stmt := topS 25
theorem sc_law_digits : FnScope ["_law_row_here", "_law_field", "_law_far", "_law_k"] ["_law_row_here", "_law_field", "_law_far"] (defScope s_law_digits) := ⟨rfl, rfl, rfl, by decide +kernel, rfl, by decide +kernel, by decide +kernel⟩
theorem ok_law_digits (A : At K mg "_law_digits" s_law_digits ["_law_row_here", "_law_field", "_law_far"]) (B : Bl mg) (Dlaw_taken : Def1 P w K mg base "_law_taken" 1 2 q_law_taken) : Def1 P w K mg base "_law_digits" 2 3 q_law_digits := by
  have S := sc_law_digits
  refine def_mk 1 A S fun f cdv Ar outer s H E hr => ?_
  show PSs _ _ (tS _ _ fs_law_digits)
  unfold fs_law_digits
  exact (es_one (es_ret (ev_imm (ev_callTy cr_tuple gn_tuple (by rfl) B.tuple (by decide +kernel) (ea_cons (ev_lc (own := [("_law_k", 3)]) S.nd (ei_c (ei_range1 (by rfl) B.range (ea_cons (ev_lv (ev_var 2)) ea_nil))) (blkOk_by (N := ["_law_row_here", "_law_field", "_law_far", "_law_k"]) (sc := defScope s_law_digits) (own := [("_law_k", 3)]) (by decide +kernel)) (tg_name 3 (by decide)) (fun _ _ _ _ _ => (pg_name (i := 3) S.nd rfl (by first | exact Or.inl rfl | exact Or.inr rfl))) (fun _ _ _ _ _ => ets_nil) (fun _ _ _ _ _ => (ev_lv (ev_callD Dlaw_taken hr (by rfl) (ea_cons (ev_lv (ev_var 0)) (ea_cons (ev_lv (ev_var 1)) ea_nil)) (alen_cons (alen_cons alen0))))) rfl) ea_nil)))))

abbrev s_law_span : Stmt := topS 26
theorem sc_law_span : FnScope ["_law_field", "_law_far", "_law_rows", "_law_found", "_law_one", "_law_further", "_law_times", "_law_old", "_law_a", "_law_b"] ["_law_field", "_law_far", "_law_rows"] (defScope s_law_span) := ⟨rfl, rfl, rfl, by decide +kernel, rfl, by decide +kernel, by decide +kernel⟩
theorem ok_law_span (A : At K mg "_law_span" s_law_span ["_law_field", "_law_far", "_law_rows"]) (B : Bl mg) : Def1 P w K mg base "_law_span" 1 3 q_law_span := by
  have S := sc_law_span
  refine def_mk 0 A S fun f cdv Ar outer s H E hr => ?_
  show PSs _ _ (tS _ _ fs_law_span)
  unfold fs_law_span fb_law_span_2 fb_law_span_1
  exact (es_cons (es_setO 3 S.nd (ev_lst (ea_cons (ev_bin op_repA g2_repA (ev_tup (ea_cons ev_int ea_nil)) (ev_lv (ev_var 1))) ea_nil)))
 (es_cons (es_for (ei_data (ev_var 2)) (pg_name (i := 4) S.nd rfl (by first | exact Or.inl rfl | exact Or.inr rfl)) (vs := [4]) (tg_name 4 (by decide))
 (es_cons (es_setO 5 S.nd (ev_lst ea_nil))
 (es_cons (es_for (ei_range1 (by rfl) B.range (ea_cons (ev_lv (ev_var 0)) ea_nil)) (pg_name (i := 6) S.nd rfl (by first | exact Or.inl rfl | exact Or.inr rfl)) (vs := [6]) (tg_name 6 (by decide))
 (es_one (es_setO 5 S.nd (ev_bin op_add4 g2_add (ev_varO 5) (ev_lc (own := [("_law_old", 7)]) S.nd (ei_own 3) (blkOk_by (N := ["_law_field", "_law_far", "_law_rows", "_law_found", "_law_one", "_law_further", "_law_times", "_law_old", "_law_a", "_law_b"]) (sc := defScope s_law_span) (own := [("_law_old", 7)]) (by decide +kernel)) (tg_name 7 (by decide)) (fun _ _ _ _ _ => (pg_name (i := 7) S.nd rfl (by first | exact Or.inl rfl | exact Or.inr rfl))) (fun _ _ _ _ _ => ets_nil) (fun _ _ _ _ _ => (ev_imm (ev_callTy cr_tuple gn_tuple (by rfl) B.tuple (by decide +kernel) (ea_cons (ev_lc (own := [("_law_a", 8), ("_law_b", 9)]) S.nd (ei_c (ei_zip (by rfl) B.zip (ea_cons (ev_var 7) (ea_cons (ev_var 4) ea_nil)))) (blkOk_by (own := [("_law_a", 8), ("_law_b", 9)]) (by rfl)) (tg_tup2 (tg_name 8 (by decide)) (tg_name 9 (by decide))) (fun _ _ _ _ _ => (pg_tup rfl (pgs_cons (pg_name (i := 8) S.nd rfl (by first | exact Or.inl rfl | exact Or.inr rfl)) (pgs_cons (pg_name (i := 9) S.nd rfl (by first | exact Or.inl rfl | exact Or.inr rfl)) pgs_nil)))) (fun _ _ _ _ _ => ets_nil) (fun _ _ _ _ _ => (ev_flat (flat_bin fl_gMod) (ev_bin op_mod g2_mod (ev_bin op_add4 g2_add (ev_lv (ev_var 8)) (ev_bin op_mul g2_mulI (ev_lv (ev_var 6)) (ev_lv (ev_var 9)))) (ev_lv (ev_var 0))))) rfl) ea_nil)))) rfl)))) PassesOwn.never rfl)
 (es_one (es_hand 3 5 S.nd (by decide))))) PassesOwn.never rfl)
 (es_one (es_ret (ev_varO 3)))))

abbrev s_law_code : Stmt := topS 27
theorem sc_law_code : FnScope ["_law_row_here", "_law_far", "_law_most", "_law_field", "_law_size", "_law_rows", "_law_spanned", "_law_k", "_law_one", "_law_old"] ["_law_row_here", "_law_far", "_law_most"] (defScope s_law_code) := ⟨rfl, rfl, rfl, by decide +kernel, rfl, by decide +kernel, by decide +kernel⟩
theorem ok_law_code (A : At K mg "_law_code" s_law_code ["_law_row_here", "_law_far", "_law_most"]) (B : Bl mg) (Dlaw_taken : Def1 P w K mg base "_law_taken" 1 2 q_law_taken) (Dlaw_digits : Def1 P w K mg base "_law_digits" 2 3 q_law_digits) (Dlaw_span : Def1 P w K mg base "_law_span" 1 3 q_law_span) : Def1 P w K mg base "_law_code" 3 3 q_law_code := by
  have S := sc_law_code
  refine def_mk 2 A S fun f cdv Ar outer s H E hr => ?_
  show PSs _ _ (tS _ _ fs_law_code)
  unfold fs_law_code fb_law_code_1
  exact (es_cons (es_setT (ev_imm (ev_tup (ea_cons (ev_bin op_add4 g2_add ev_int (ev_lv (ev_callD Dlaw_taken (hr.mono (by decide)) (by rfl) (ea_cons (ev_lv (ev_var 0)) (ea_cons ev_int ea_nil)) (alen_cons (alen_cons alen0))))) (ea_cons (ev_bin op_add4 g2_add ev_int (ev_lv (ev_callD Dlaw_taken (hr.mono (by decide)) (by rfl) (ea_cons (ev_lv (ev_var 0)) (ea_cons (ev_lv (ev_var 1)) ea_nil)) (alen_cons (alen_cons alen0))))) ea_nil)))) (pg_tup rfl (pgs_cons (pg_name (i := 3) S.nd rfl (by first | exact Or.inl rfl | exact Or.inr rfl)) (pgs_cons (pg_name (i := 4) S.nd rfl (by first | exact Or.inl rfl | exact Or.inr rfl)) pgs_nil))) (vs := [3, 4]) (tg_tup2 (tg_name 3 (by decide)) (tg_name 4 (by decide))))
 (es_cons (es_par2 5 6 S.nd (by decide) (ev_lst ea_nil) (ev_frtop (ev_dispT hr.units (ev_bin op_repA g2_repA (ev_tup (ea_cons ev_int ea_nil)) (ev_lv (ev_var 4))) ev_bl)))
 (es_cons (es_for (ei_range1 (by rfl) B.range (ea_cons (ev_lv (ev_callD Dlaw_taken (hr.mono (by decide)) (by rfl) (ea_cons (ev_lv (ev_var 0)) (ea_cons (ev_bin op_add4 g2_add (ev_callB (call_min2 rfl) gn_min2 (by rfl) B.min (by decide +kernel) (ea_cons (ev_lv (ev_var 4)) (ea_cons (ev_lv (ev_var 2)) ea_nil))) ev_int) ea_nil)) (alen_cons (alen_cons alen0)))) ea_nil)) (pg_name (i := 7) S.nd rfl (by first | exact Or.inl rfl | exact Or.inr rfl)) (vs := [7]) (tg_name 7 (by decide))
 (es_cons (es_set 8 S.nd (ev_lv (ev_callD Dlaw_digits hr (by rfl) (ea_cons (ev_lv (ev_var 0)) (ea_cons (ev_lv (ev_var 3)) (ea_cons (ev_lv (ev_var 4)) ea_nil))) (alen_cons (alen_cons (alen_cons alen0))))))
 (es_cons (es_if (PW.pt (ew_and (et_cmp (op_eqD hr.units) g2_eq (ev_lv (ev_callD Dlaw_taken (hr.mono (by decide)) (by rfl) (ea_cons (ev_lv (ev_var 0)) (ea_cons ev_int ea_nil)) (alen_cons (alen_cons alen0)))) ev_int (nomark _)) (ew_and1 (et_cmp (op_neD hr.units) g2_ne (ev_varO 5) (ev_lst ea_nil) (nomark _))))) (es_one (es_set 8 S.nd (ev_imm (ev_callTy cr_tuple gn_tuple (by rfl) B.tuple (by decide +kernel) (ea_cons (ev_lc (own := [("_law_k", 7)]) S.nd (ei_c (ei_range1 (by rfl) B.range (ea_cons (ev_lv (ev_var 4)) ea_nil))) (blkOk_by (N := ["_law_row_here", "_law_far", "_law_most", "_law_field", "_law_size", "_law_rows", "_law_spanned", "_law_k", "_law_one", "_law_old"]) (sc := defScope s_law_code) (own := [("_law_k", 7)]) (by decide +kernel)) (tg_name 7 (by decide)) (fun _ _ _ _ _ => (pg_name (i := 7) S.nd rfl (by first | exact Or.inl rfl | exact Or.inr rfl))) (fun _ _ _ _ _ => ets_nil) (fun _ _ _ _ _ => (ev_flat (flat_app fl_int) (ev_callTy call_int1 gn_int (by rfl) B.int (by decide +kernel) (ea_cons (ev_cmp (op_eqD hr.units) g2_eq (ev_lv (ev_var 7)) (ev_lv (ev_callD Dlaw_taken (hr.mono (by decide)) (by rfl) (ea_cons (ev_lv (ev_var 0)) (ea_cons (ev_lv (ev_var 4)) ea_nil)) (alen_cons (alen_cons alen0)))) (nomark _)) ea_nil)))) rfl) ea_nil)))))
 es_nil)
 (es_one (es_if (et_dnotin hr.units (ev_lv (ev_var 8)) (ev_varO 6)) (es_cons (es_mut 5 PySem.F.plainAttrs_list PySem.F.slot_list_append PySem.F.type_list_append mt_append mut_append (ea_cons (ev_lv (ev_var 8)) ea_nil))
 (es_one (es_setO 6 S.nd (ev_callTy (call_dictPT rfl hr.units) gn_dict (by rfl) B.dict (by decide +kernel) (ea_cons (ev_lc (own := [("_law_old", 9)]) S.nd (ei_c (ei_data (ev_lv (ev_callD Dlaw_span (hr.mono (by decide)) (by rfl) (ea_cons (ev_lv (ev_var 3)) (ea_cons (ev_lv (ev_var 4)) (ea_cons (ev_varO 5) ea_nil))) (alen_cons (alen_cons (alen_cons alen0))))))) (blkOk_by (N := ["_law_row_here", "_law_far", "_law_most", "_law_field", "_law_size", "_law_rows", "_law_spanned", "_law_k", "_law_one", "_law_old"]) (sc := defScope s_law_code) (own := [("_law_old", 9)]) (by decide +kernel)) (tg_name 9 (by decide)) (fun _ _ _ _ _ => (pg_name (i := 9) S.nd rfl (by first | exact Or.inl rfl | exact Or.inr rfl))) (fun _ _ _ _ _ => ets_nil) (fun _ _ _ _ _ => (ev_imm (ev_tup (ea_cons (ev_lv (ev_var 9)) (ea_cons ev_bl ea_nil))))) rfl) ea_nil)))))
 es_nil)))) PassesOwn.never rfl)
 (es_one (es_ret (ev_tup (ea_cons (ev_imm (ev_lv (ev_var 3))) (ea_cons (ev_imm (ev_lv (ev_var 4))) (ea_cons (ev_imm (ev_callTy cr_tuple gn_tuple (by rfl) B.tuple (by decide +kernel) (ea_cons (ev_varO 5) ea_nil))) ea_nil)))))))))

abbrev s_law_alike : Stmt := topS 28
theorem sc_law_alike : FnScope ["_law_found", "_law_due", "_law_same_kind", "_law_k"] ["_law_found", "_law_due"] (defScope s_law_alike) := ⟨rfl, rfl, rfl, by decide +kernel, rfl, by decide +kernel, by decide +kernel⟩
theorem ok_law_alike (A : At K mg "_law_alike" s_law_alike ["_law_found", "_law_due"]) (B : Bl mg) (m : Nat) : Def1 P w K mg base "_law_alike" (0 + m + 1) 2 (q_law_alike m) := by
  have S := sc_law_alike
  induction m with
  | zero => exact def_none 0 A S
  | succ m ih =>
    have Dlaw_alike := ih
    refine def_mk (0 + m + 1) A S fun f cdv Ar outer s H E hr => ?_
    show PSs _ _ (tS _ _ (fs_law_alike (q_law_alike m)))
    unfold fs_law_alike
    exact (es_cons (es_if (et_val (ev_isi2 (by rfl) B.isinstance (ev_lv (ev_var 1)) (by rfl) B.tuple (by decide +kernel) (by rfl) B.list (by decide +kernel))) (es_cons (es_if (PW.pt (ew_or (et_cmp (op_neD hr.units) g2_ne (ev_callB call_isi gn_isi (by rfl) B.isinstance (by decide +kernel) (ea_cons (ev_lv (ev_var 0)) (ea_cons (ev_ty (by rfl) B.tuple (by decide +kernel)) ea_nil))) (ev_callB call_isi gn_isi (by rfl) B.isinstance (by decide +kernel) (ea_cons (ev_lv (ev_var 1)) (ea_cons (ev_ty (by rfl) B.tuple (by decide +kernel)) ea_nil))) (nomark _)) (ew_or1 (et_not (et_val (ev_isi2 (by rfl) B.isinstance (ev_lv (ev_var 0)) (by rfl) B.tuple (by decide +kernel) (by rfl) B.list (by decide +kernel))))))) (es_one (es_ret ev_bl))
 es_nil)
 (es_cons (es_if (et_cmp (op_neD hr.units) g2_ne (ev_callB cr_len gn_len (by rfl) B.len (by decide +kernel) (ea_cons (ev_lv (ev_var 0)) ea_nil)) (ev_callB cr_len gn_len (by rfl) B.len (by decide +kernel) (ea_cons (ev_lv (ev_var 1)) ea_nil)) (nomark _)) (es_one (es_ret ev_bl))
 es_nil)
 (es_one (es_ret (ev_flat (flat_bin fl_gEq) (ev_cmp (op_eqD hr.units) g2_eq (ev_lc (own := [("_law_k", 3)]) S.nd (ei_c (ei_range1 (by rfl) B.range (ea_cons (ev_callB cr_len gn_len (by rfl) B.len (by decide +kernel) (ea_cons (ev_lv (ev_var 1)) ea_nil)) ea_nil))) (blkOk_by (N := ["_law_found", "_law_due", "_law_same_kind", "_law_k"]) (sc := defScope s_law_alike) (own := [("_law_k", 3)]) (by decide +kernel)) (tg_name 3 (by decide)) (fun _ _ _ _ _ => (pg_name (i := 3) S.nd rfl (by first | exact Or.inl rfl | exact Or.inr rfl))) (fun _ _ _ _ _ => (ets_one (et_not (et_val (ev_lv (ev_callD Dlaw_alike hr (by rfl) (ea_cons (ev_ix (ev_lv (ev_var 0)) (ev_lv (ev_var 3))) (ea_cons (ev_ix (ev_lv (ev_var 1)) (ev_lv (ev_var 3))) ea_nil)) (alen_cons (alen_cons alen0)))))))) (fun _ _ _ _ _ => (ev_var 3)) rfl) (ev_lst ea_nil) (nomark _)))))))
 es_nil)
 (es_cons (es_if (PW.pt (ew_or (et_cmp op_isN g2_isN (ev_lv (ev_var 1)) ev_non (nomark _)) (ew_or1 (et_cmp op_isN g2_isN (ev_lv (ev_var 0)) ev_non (nomark _))))) (es_one (es_ret (ev_and (ev_cmp op_isN g2_isN (ev_lv (ev_var 1)) ev_non (nomark _)) (ev_one (ev_flat (flat_bin fl_gIsN) (ev_cmp op_isN g2_isN (ev_lv (ev_var 0)) ev_non (nomark _)))))))
 es_nil)
 (es_cons (es_set 2 S.nd (ev_flat (flat_bin fl_gEq) (ev_cmp (op_eqD hr.units) g2_eq (ev_callB call_isi gn_isi (by rfl) B.isinstance (by decide +kernel) (ea_cons (ev_lv (ev_var 1)) (ea_cons (ev_ty (by rfl) B.str (by decide +kernel)) ea_nil))) (ev_callB call_isi gn_isi (by rfl) B.isinstance (by decide +kernel) (ea_cons (ev_lv (ev_var 0)) (ea_cons (ev_ty (by rfl) B.str (by decide +kernel)) ea_nil))) (nomark _))))
 (es_one (es_ret (ev_and (ev_lv (ev_var 2)) (ev_and (ev_cmp (op_eqD hr.units) g2_eq (ev_callB call_isi gn_isi (by rfl) B.isinstance (by decide +kernel) (ea_cons (ev_lv (ev_var 1)) (ea_cons (ev_ty (by rfl) B.bool (by decide +kernel)) ea_nil))) (ev_callB call_isi gn_isi (by rfl) B.isinstance (by decide +kernel) (ea_cons (ev_lv (ev_var 0)) (ea_cons (ev_ty (by rfl) B.bool (by decide +kernel)) ea_nil))) (nomark _)) (ev_one (ev_flat (flat_bin fl_gEq) (ev_cmp (op_eqD hr.units) g2_eq (ev_lv (ev_var 0)) (ev_lv (ev_var 1)) (nomark _)))))))))))

abbrev s_written : Stmt := topS 19
theorem sc_written : FnScope ["codes", "rows", "code", "row", "digit"] ["codes"] (defScope s_written) := ⟨rfl, rfl, rfl, by decide +kernel, rfl, by decide +kernel, by decide +kernel⟩
theorem ok_written (A : At K mg "written" s_written ["codes"]) (B : Bl mg) (CCODE : ∃ t, mg "CODE" = some (.str (Str.ofString "code") t)) (Dneed_code : Def1 P w K mg base "need_code" 4 1 q_need_code) : Def1 P w K mg base "written" 5 1 q_written := by
  have S := sc_written
  refine def_mk 4 A S fun f cdv Ar outer s H E hr => ?_
  show PSs _ _ (tS _ _ fs_written)
  unfold fs_written fb_written_1
  exact (es_cons (es_setO 1 S.nd (ev_lst ea_nil))
 (es_cons (es_for (ei_data (ev_var 0)) (pg_name (i := 2) S.nd rfl (by first | exact Or.inl rfl | exact Or.inr rfl)) (vs := [2]) (tg_name 2 (by decide))
 (es_cons (es_expr (ev_lv (ev_callD Dneed_code hr (by rfl) (ea_cons (ev_lv (ev_var 2)) ea_nil) (alen_cons alen0))))
 (es_cons (es_mut 1 PySem.F.plainAttrs_list PySem.F.slot_list_append PySem.F.type_list_append mt_append mut_append (ea_cons (ev_bin op_add4 g2_add (ev_bin op_add4 g2_add (ev_bin op_add4 g2_add (ev_bin op_add4 g2_add (ev_globS CCODE) ev_str) (ev_callTy call_str_int gn_strI (by rfl) B.str (by decide +kernel) (ea_cons (ev_ix (ev_lv (ev_var 2)) ev_int) ea_nil))) ev_str) (ev_callTy call_str_int gn_strI (by rfl) B.str (by decide +kernel) (ea_cons (ev_ix (ev_lv (ev_var 2)) ev_int) ea_nil))) ea_nil))
 (es_one (es_mut 1 PySem.F.plainAttrs_list PySem.F.slot_list_extend PySem.F.type_list_extend mt_extend mut_extend (ea_cons (ev_lc (own := [("row", 3)]) S.nd (ei_c (ei_data (ev_imm (ev_ix (ev_lv (ev_var 2)) ev_int)))) (blkOk_by (N := ["codes", "rows", "code", "row", "digit"]) (sc := defScope s_written) (own := [("row", 3)]) (by decide +kernel)) (tg_name 3 (by decide)) (fun _ _ _ _ _ => (pg_name (i := 3) S.nd rfl (by first | exact Or.inl rfl | exact Or.inr rfl))) (fun _ _ _ _ _ => ets_nil) (fun _ _ _ _ _ => (ev_flat flat_join (ev_join (l := .any) ev_str (ev_lc (own := [("digit", 4)]) S.nd (ei_c (ei_data (ev_var 3))) (blkOk_by (own := [("digit", 4)]) (by rfl)) (tg_name 4 (by decide)) (fun _ _ _ _ _ => (pg_name (i := 4) S.nd rfl (by first | exact Or.inl rfl | exact Or.inr rfl))) (fun _ _ _ _ _ => ets_nil) (fun _ _ _ _ _ => (ev_flat (flat_app fl_strI) (ev_callTy call_str_int gn_strI (by rfl) B.str (by decide +kernel) (ea_cons (ev_lv (ev_var 4)) ea_nil)))) rfl)))) rfl) ea_nil))))) PassesOwn.never rfl)
 (es_one (es_ret (ev_flat flat_join (ev_join (l := .any) ev_str (ev_varO 1)))))))

abbrev s_law : Stmt := topS 29
theorem sc_law : FnScope ["_law_script", "_law_row_here", "_law_turn", "_law_codes", "_law_rows", "_law_field", "_law_far", "_law_own", "_law_text", "_law_again", "_law_found", "_law_k", "_law_one", "_law_digit"] ["_law_script"] (defScope s_law) := ⟨rfl, rfl, rfl, by decide +kernel, rfl, by decide +kernel, by decide +kernel⟩
theorem ok_law {f : Addr} {fd : FuncData} (Fn : Fun K "law" "law" s_law f fd) (B : Bl mg) (Dlaw_row : Def1 P w K mg base "_law_row" 1 1 q_law_row) (Dlaw_taken : Def1 P w K mg base "_law_taken" 1 2 q_law_taken) (Dlaw_code : Def1 P w K mg base "_law_code" 3 3 q_law_code) (Dread : Def1 P w K mg base "read" 5 1 q_read) (Dlaw_alike : Def1 P w K mg base "_law_alike" 7 2 (q_law_alike 6)) (Dwritten : Def1 P w K mg base "written" 5 1 q_written)
    (sem : ∀ ns : List Int, ns.length ≤ 63 → LawRuns 1 f1_law f2_law (.ro (.fro (ns.map D.int)) :: List.replicate 13 Sl.no)) : FnOk P w K mg base CX0 8 f fd ["_law_script"] (spLaw K) := by
  have S := sc_law
  refine law_ok 1 Fn S rfl (fun cdv Ar outer s H E hr => ?_) (fun cdv Ar outer s H E hr => ?_) sem
  · unfold f1_law
    exact (es_setO 1 S.nd (ev_frtop (ev_callD Dlaw_row (hr.mono (by decide)) (by rfl) (ea_cons (ev_lv (ev_var 0)) ea_nil) (alen_cons alen0))))
  · unfold f2_law fb_law_3 fb_law_2 fb_law_1
    exact (es_cons (es_for (ei_range1 (by rfl) B.range (ea_cons ev_int ea_nil)) (pg_name (i := 2) S.nd rfl (by first | exact Or.inl rfl | exact Or.inr rfl)) (vs := [2]) (tg_name 2 (by decide))
 (es_cons (es_par2 3 4 S.nd (by decide) (ev_lc (own := [("_law_k", 11)]) S.nd (ei_c (ei_range1 (by rfl) B.range (ea_cons (ev_lv (ev_callD Dlaw_taken (hr.mono (by decide)) (by rfl) (ea_cons (ev_lv (ev_var 1)) (ea_cons ev_int ea_nil)) (alen_cons (alen_cons alen0)))) ea_nil))) (blkOk_by (N := ["_law_script", "_law_row_here", "_law_turn", "_law_codes", "_law_rows", "_law_field", "_law_far", "_law_own", "_law_text", "_law_again", "_law_found", "_law_k", "_law_one", "_law_digit"]) (sc := defScope s_law) (own := [("_law_k", 11)]) (by decide +kernel)) (tg_name 11 (by decide)) (fun _ _ _ _ _ => (pg_name (i := 11) S.nd rfl (by first | exact Or.inl rfl | exact Or.inr rfl))) (fun _ _ _ _ _ => ets_nil) (fun _ _ _ _ _ => (ev_lv (ev_callD Dlaw_code (hr.mono (by decide)) (by rfl) (ea_cons (ev_lv (ev_var 1)) (ea_cons ev_int (ea_cons ev_int ea_nil))) (alen_cons (alen_cons (alen_cons alen0)))))) rfl) (ev_lst ea_nil))
 (es_cons (es_dem 3 (es_for (ei_data (ev_var 3)) (pg_tup rfl (pgs_cons (pg_name (i := 5) S.nd rfl (by first | exact Or.inl rfl | exact Or.inr rfl)) (pgs_cons (pg_name (i := 6) S.nd rfl (by first | exact Or.inl rfl | exact Or.inr rfl)) (pgs_cons (pg_name (i := 7) S.nd rfl (by first | exact Or.inl rfl | exact Or.inr rfl)) pgs_nil)))) (vs := [5, 6, 7]) (tg_tup3 (tg_name 5 (by decide)) (tg_name 6 (by decide)) (tg_name 7 (by decide)))
 (es_cons (es_mut 4 PySem.F.plainAttrs_list PySem.F.slot_list_append PySem.F.type_list_append mt_append mut_append (ea_cons (ev_bin op_add4 g2_add (ev_bin op_add4 g2_add (ev_bin op_add4 g2_add ev_str (ev_callTy call_str_int gn_strI (by rfl) B.str (by decide +kernel) (ea_cons (ev_lv (ev_var 5)) ea_nil))) ev_str) (ev_callTy call_str_int gn_strI (by rfl) B.str (by decide +kernel) (ea_cons (ev_lv (ev_var 6)) ea_nil))) ea_nil))
 (es_one (es_setO 4 S.nd (ev_bin op_add4 g2_add (ev_varO 4) (ev_lc (own := [("_law_one", 12)]) S.nd (ei_c (ei_data (ev_var 7))) (blkOk_by (N := ["_law_script", "_law_row_here", "_law_turn", "_law_codes", "_law_rows", "_law_field", "_law_far", "_law_own", "_law_text", "_law_again", "_law_found", "_law_k", "_law_one", "_law_digit"]) (sc := defScope s_law) (own := [("_law_one", 12)]) (by decide +kernel)) (tg_name 12 (by decide)) (fun _ _ _ _ _ => (pg_name (i := 12) S.nd rfl (by first | exact Or.inl rfl | exact Or.inr rfl))) (fun _ _ _ _ _ => ets_nil) (fun _ _ _ _ _ => (ev_flat flat_join (ev_join (l := .any) ev_str (ev_lc (own := [("_law_digit", 13)]) S.nd (ei_c (ei_data (ev_var 12))) (blkOk_by (own := [("_law_digit", 13)]) (by rfl)) (tg_name 13 (by decide)) (fun _ _ _ _ _ => (pg_name (i := 13) S.nd rfl (by first | exact Or.inl rfl | exact Or.inr rfl))) (fun _ _ _ _ _ => ets_nil) (fun _ _ _ _ _ => (ev_flat (flat_app fl_strI) (ev_callTy call_str_int gn_strI (by rfl) B.str (by decide +kernel) (ea_cons (ev_lv (ev_var 13)) ea_nil)))) rfl)))) rfl))))) PassesOwn.never rfl))
 (es_cons (es_set 8 S.nd (ev_flat flat_join (ev_join (l := .any) ev_str (ev_varO 4))))
 (es_one (es_for (ei_range1 (by rfl) B.range (ea_cons ev_int ea_nil)) (pg_name (i := 9) S.nd rfl (by first | exact Or.inl rfl | exact Or.inr rfl)) (vs := [9]) (tg_name 9 (by decide))
 (es_cons (es_setO 10 S.nd (ev_frtop (ev_callD Dread (hr.mono (by decide)) (by rfl) (ea_cons (ev_lv (ev_var 8)) ea_nil) (alen_cons alen0))))
 (es_cons (es_if (PW.pt (ew_or (et_not (et_val (ev_lv (ev_callD Dlaw_alike hr (by rfl) (ea_cons (ev_lv (ev_callD Dwritten (hr.mono (by decide)) (by rfl) (ea_cons (ev_lv (ev_var 3)) ea_nil) (alen_cons alen0))) (ea_cons (ev_lv (ev_var 8)) ea_nil)) (alen_cons (alen_cons alen0)))))) (ew_or1 (et_not (et_val (ev_lv (ev_callD Dlaw_alike hr (by rfl) (ea_cons (ev_varO 10) (ea_cons (ev_lv (ev_var 3)) ea_nil)) (alen_cons (alen_cons alen0))))))))) (es_one (es_ret ev_bl))
 es_nil)
 (es_one (es_mut 10 PySem.F.plainAttrs_list PySem.F.slot_list_append PySem.F.type_list_append mt_append mut_append (ea_cons (ev_tup ea_nil) ea_nil))))) PassesOwn.never rfl))))) PassesOwn.never rfl)
 (es_one (es_ret ev_bl)))
theorem all_mk {l : PySem.W.OpenLaw} {w : World} {K : PySem.W.Frag} {h : Heap} {mg : Str → Option Value} {fa : Addr} (X : K.In h) (G : h.Ns mainGlobals mg) (hfa : mg "law" = some (.ref fa))
    {f1 f2 f3 f4 f5 f6 f7 f8 f9 f10 f11 f12 f13 f14 f15 f16 f17 : Addr} {od1 od2 od3 od4 od5 od6 od7 od8 od9 od10 od11 od12 od13 od14 od15 od16 od17 an1 an2 an3 an4 an5 an6 an7 an8 an9 an10 an11 an12 an13 an14 an15 an16 an17 : Option Addr} {sl1 sl2 sl3 sl4 sl5 sl6 sl7 sl8 sl9 sl10 sl11 sl12 sl13 sl14 sl15 sl16 sl17 : Array (Option Value)} {oc1 oc2 oc3 oc4 oc5 oc6 oc7 oc8 oc9 oc10 oc11 oc12 oc13 oc14 oc15 oc16 oc17 kV1 kV2 kV3 kV4 kV5 kV6 kV7 kV8 kV9 kV10 kV11 kV12 kV13 kV14 kV15 kV16 kV17 dc1 dc2 dc3 dc4 dc5 dc6 dc7 dc8 dc9 dc10 dc11 dc12 dc13 dc14 dc15 dc16 dc17 pm1 pm2 pm3 pm4 pm5 pm6 pm7 pm8 pm9 pm10 pm11 pm12 pm13 pm14 pm15 pm16 pm17 ct1 ct2 ct3 ct4 ct5 ct6 ct7 ct8 ct9 ct10 ct11 ct12 ct13 ct14 ct15 ct16 ct17 cd1 cd2 cd3 cd4 cd5 cd6 cd7 cd8 cd9 cd10 cd11 cd12 cd13 cd14 cd15 cd16 cd17 : Value} {tc0 tc1 tc2 tc3 tc4 : Nat}
    (a1 : PySem.W.nsIn K mainGlobals "_law_row" = some (some (.ref f1))) (l1 : K.lookup f1 = some ⟨oc1, od1, .func (PySem.W.fnOf "_law_row" "_law_row" (defArgs s_law_row) (defBody s_law_row) (defScope s_law_row) .none kV1 dc1 pm1 an1 cd1 ct1), sl1⟩) (c1 : PySem.W.codeIn K cd1 "_law_row" = true) (k1 : PySem.W.keepIn K (.ref f1) = true)
    (a2 : PySem.W.nsIn K mainGlobals "is_number" = some (some (.ref f2))) (l2 : K.lookup f2 = some ⟨oc2, od2, .func (PySem.W.fnOf "is_number" "is_number" (defArgs s_is_number) (defBody s_is_number) (defScope s_is_number) .none kV2 dc2 pm2 an2 cd2 ct2), sl2⟩) (c2 : PySem.W.codeIn K cd2 "is_number" = true) (k2 : PySem.W.keepIn K (.ref f2) = true)
    (a3 : PySem.W.nsIn K mainGlobals "is_row" = some (some (.ref f3))) (l3 : K.lookup f3 = some ⟨oc3, od3, .func (PySem.W.fnOf "is_row" "is_row" (defArgs s_is_row) (defBody s_is_row) (defScope s_is_row) .none kV3 dc3 pm3 an3 cd3 ct3), sl3⟩) (c3 : PySem.W.codeIn K cd3 "is_row" = true) (k3 : PySem.W.keepIn K (.ref f3) = true)
    (a4 : PySem.W.nsIn K mainGlobals "times_of" = some (some (.ref f4))) (l4 : K.lookup f4 = some ⟨oc4, od4, .func (PySem.W.fnOf "times_of" "times_of" (defArgs s_times_of) (defBody s_times_of) (defScope s_times_of) .none kV4 dc4 pm4 an4 cd4 ct4), sl4⟩) (c4 : PySem.W.codeIn K cd4 "times_of" = true) (k4 : PySem.W.keepIn K (.ref f4) = true)
    (a5 : PySem.W.nsIn K mainGlobals "plus_times" = some (some (.ref f5))) (l5 : K.lookup f5 = some ⟨oc5, od5, .func (PySem.W.fnOf "plus_times" "plus_times" (defArgs s_plus_times) (defBody s_plus_times) (defScope s_plus_times) .none kV5 dc5 pm5 an5 cd5 ct5), sl5⟩) (c5 : PySem.W.codeIn K cd5 "plus_times" = true) (k5 : PySem.W.keepIn K (.ref f5) = true)
    (a6 : PySem.W.nsIn K mainGlobals "in_steps" = some (some (.ref f6))) (l6 : K.lookup f6 = some ⟨oc6, od6, .func (PySem.W.fnOf "in_steps" "in_steps" (defArgs s_in_steps) (defBody s_in_steps) (defScope s_in_steps) .none kV6 dc6 pm6 an6 cd6 ct6), sl6⟩) (c6 : PySem.W.codeIn K cd6 "in_steps" = true) (k6 : PySem.W.keepIn K (.ref f6) = true)
    (a7 : PySem.W.nsIn K mainGlobals "rank_of" = some (some (.ref f7))) (l7 : K.lookup f7 = some ⟨oc7, od7, .func (PySem.W.fnOf "rank_of" "rank_of" (defArgs s_rank_of) (defBody s_rank_of) (defScope s_rank_of) .none kV7 dc7 pm7 an7 cd7 ct7), sl7⟩) (c7 : PySem.W.codeIn K cd7 "rank_of" = true) (k7 : PySem.W.keepIn K (.ref f7) = true)
    (a8 : PySem.W.nsIn K mainGlobals "need_code" = some (some (.ref f8))) (l8 : K.lookup f8 = some ⟨oc8, od8, .func (PySem.W.fnOf "need_code" "need_code" (defArgs s_need_code) (defBody s_need_code) (defScope s_need_code) .none kV8 dc8 pm8 an8 cd8 ct8), sl8⟩) (c8 : PySem.W.codeIn K cd8 "need_code" = true) (k8 : PySem.W.keepIn K (.ref f8) = true)
    (a9 : PySem.W.nsIn K mainGlobals "number_of" = some (some (.ref f9))) (l9 : K.lookup f9 = some ⟨oc9, od9, .func (PySem.W.fnOf "number_of" "number_of" (defArgs s_number_of) (defBody s_number_of) (defScope s_number_of) .none kV9 dc9 pm9 an9 cd9 ct9), sl9⟩) (c9 : PySem.W.codeIn K cd9 "number_of" = true) (k9 : PySem.W.keepIn K (.ref f9) = true)
    (a10 : PySem.W.nsIn K mainGlobals "read" = some (some (.ref f10))) (l10 : K.lookup f10 = some ⟨oc10, od10, .func (PySem.W.fnOf "read" "read" (defArgs s_read) (defBody s_read) (defScope s_read) .none kV10 dc10 pm10 an10 cd10 ct10), sl10⟩) (c10 : PySem.W.codeIn K cd10 "read" = true) (k10 : PySem.W.keepIn K (.ref f10) = true)
    (a11 : PySem.W.nsIn K mainGlobals "_law_taken" = some (some (.ref f11))) (l11 : K.lookup f11 = some ⟨oc11, od11, .func (PySem.W.fnOf "_law_taken" "_law_taken" (defArgs s_law_taken) (defBody s_law_taken) (defScope s_law_taken) .none kV11 dc11 pm11 an11 cd11 ct11), sl11⟩) (c11 : PySem.W.codeIn K cd11 "_law_taken" = true) (k11 : PySem.W.keepIn K (.ref f11) = true)
    (a12 : PySem.W.nsIn K mainGlobals "_law_digits" = some (some (.ref f12))) (l12 : K.lookup f12 = some ⟨oc12, od12, .func (PySem.W.fnOf "_law_digits" "_law_digits" (defArgs s_law_digits) (defBody s_law_digits) (defScope s_law_digits) .none kV12 dc12 pm12 an12 cd12 ct12), sl12⟩) (c12 : PySem.W.codeIn K cd12 "_law_digits" = true) (k12 : PySem.W.keepIn K (.ref f12) = true)
    (a13 : PySem.W.nsIn K mainGlobals "_law_span" = some (some (.ref f13))) (l13 : K.lookup f13 = some ⟨oc13, od13, .func (PySem.W.fnOf "_law_span" "_law_span" (defArgs s_law_span) (defBody s_law_span) (defScope s_law_span) .none kV13 dc13 pm13 an13 cd13 ct13), sl13⟩) (c13 : PySem.W.codeIn K cd13 "_law_span" = true) (k13 : PySem.W.keepIn K (.ref f13) = true)
    (a14 : PySem.W.nsIn K mainGlobals "_law_code" = some (some (.ref f14))) (l14 : K.lookup f14 = some ⟨oc14, od14, .func (PySem.W.fnOf "_law_code" "_law_code" (defArgs s_law_code) (defBody s_law_code) (defScope s_law_code) .none kV14 dc14 pm14 an14 cd14 ct14), sl14⟩) (c14 : PySem.W.codeIn K cd14 "_law_code" = true) (k14 : PySem.W.keepIn K (.ref f14) = true)
    (a15 : PySem.W.nsIn K mainGlobals "_law_alike" = some (some (.ref f15))) (l15 : K.lookup f15 = some ⟨oc15, od15, .func (PySem.W.fnOf "_law_alike" "_law_alike" (defArgs s_law_alike) (defBody s_law_alike) (defScope s_law_alike) .none kV15 dc15 pm15 an15 cd15 ct15), sl15⟩) (c15 : PySem.W.codeIn K cd15 "_law_alike" = true) (k15 : PySem.W.keepIn K (.ref f15) = true)
    (a16 : PySem.W.nsIn K mainGlobals "written" = some (some (.ref f16))) (l16 : K.lookup f16 = some ⟨oc16, od16, .func (PySem.W.fnOf "written" "written" (defArgs s_written) (defBody s_written) (defScope s_written) .none kV16 dc16 pm16 an16 cd16 ct16), sl16⟩) (c16 : PySem.W.codeIn K cd16 "written" = true) (k16 : PySem.W.keepIn K (.ref f16) = true)
    (a17 : PySem.W.nsIn K mainGlobals "law" = some (some (.ref f17))) (l17 : K.lookup f17 = some ⟨oc17, od17, .func (PySem.W.fnOf "law" "law" (defArgs s_law) (defBody s_law) (defScope s_law) .none kV17 dc17 pm17 an17 cd17 ct17), sl17⟩) (c17 : PySem.W.codeIn K cd17 "law" = true) (k17 : PySem.W.keepIn K (.ref f17) = true)
    (z0 : PySem.W.nsIn K mainGlobals "len" = some none)
    (z1 : PySem.W.nsIn K mainGlobals "range" = some none)
    (z2 : PySem.W.nsIn K mainGlobals "zip" = some none)
    (z3 : PySem.W.nsIn K mainGlobals "tuple" = some none)
    (z4 : PySem.W.nsIn K mainGlobals "list" = some none)
    (z5 : PySem.W.nsIn K mainGlobals "all" = some none)
    (z6 : PySem.W.nsIn K mainGlobals "sum" = some none)
    (z7 : PySem.W.nsIn K mainGlobals "sorted" = some none)
    (z8 : PySem.W.nsIn K mainGlobals "isinstance" = some none)
    (z9 : PySem.W.nsIn K mainGlobals "int" = some none)
    (z10 : PySem.W.nsIn K mainGlobals "bool" = some none)
    (z11 : PySem.W.nsIn K mainGlobals "str" = some none)
    (z12 : PySem.W.nsIn K mainGlobals "dict" = some none)
    (z13 : PySem.W.nsIn K mainGlobals "min" = some none)
    (z14 : PySem.W.nsIn K mainGlobals "enumerate" = some none)
    (z15 : PySem.W.nsIn K mainGlobals "any" = some none)
    (z16 : PySem.W.nsIn K mainGlobals "max" = some none)
    (z17 : PySem.W.nsIn K mainGlobals "abs" = some none)
    (z18 : PySem.W.nsIn K mainGlobals "set" = some none)
    (z19 : PySem.W.nsIn K mainGlobals "ValueError" = some none)
    (q0 : PySem.W.nsIn K mainGlobals "MOST_LONG" = some (some (.int 10 tc0)))
    (q1 : PySem.W.nsIn K mainGlobals "MOST_WORDS" = some (some (.int 729 tc1)))
    (q2 : PySem.W.nsIn K mainGlobals "MOST_FIGURES" = some (some (.int 2 tc2)))
    (q3 : PySem.W.nsIn K mainGlobals "FIGURES" = some (some (.str (Str.ofString "0123456789") tc3)))
    (q4 : PySem.W.nsIn K mainGlobals "CODE" = some (some (.str (Str.ofString "code") tc4)))
    : ∃ fd : FuncData, (∀ (s : Shared) (v : Value), BindsTo s fd ⟨[v], []⟩ [("_law_script", v)]) ∧ ∀ base : Heap, K.In base → base.Ns mainGlobals mg → FnOk l.prog w K mg base CX0 8 fa fd ["_law_script"] (spLaw K) := by
  have e := hfa.symm.trans (PySem.W.mg_of X G a17)
  cases e
  have F1 := fun_mk (st := s_law_row) l1 c1 k1
  have A1 : At K mg "_law_row" s_law_row ["_law_script"] := ⟨_, _, F1, PySem.W.mg_of X G a1, F1.binds (ps := ["_law_script"]) fun _ _ _ _ _ _ us hl => match us, hl with | [_], _ => rfl⟩
  have F2 := fun_mk (st := s_is_number) l2 c2 k2
  have A2 : At K mg "is_number" s_is_number ["part", "low", "high"] := ⟨_, _, F2, PySem.W.mg_of X G a2, F2.binds (ps := ["part", "low", "high"]) fun _ _ _ _ _ _ us hl => match us, hl with | [_, _, _], _ => rfl⟩
  have F3 := fun_mk (st := s_is_row) l3 c3 k3
  have A3 : At K mg "is_row" s_is_row ["part", "field", "long"] := ⟨_, _, F3, PySem.W.mg_of X G a3, F3.binds (ps := ["part", "field", "long"]) fun _ _ _ _ _ _ us hl => match us, hl with | [_, _, _], _ => rfl⟩
  have F4 := fun_mk (st := s_times_of) l4 c4 k4
  have A4 : At K mg "times_of" s_times_of ["field", "row", "times"] := ⟨_, _, F4, PySem.W.mg_of X G a4, F4.binds (ps := ["field", "row", "times"]) fun _ _ _ _ _ _ us hl => match us, hl with | [_, _, _], _ => rfl⟩
  have F5 := fun_mk (st := s_plus_times) l5 c5 k5
  have A5 : At K mg "plus_times" s_plus_times ["field", "one", "other", "times"] := ⟨_, _, F5, PySem.W.mg_of X G a5, F5.binds (ps := ["field", "one", "other", "times"]) fun _ _ _ _ _ _ us hl => match us, hl with | [_, _, _, _], _ => rfl⟩
  have F6 := fun_mk (st := s_in_steps) l6 c6 k6
  have A6 : At K mg "in_steps" s_in_steps ["field", "rows", "places"] := ⟨_, _, F6, PySem.W.mg_of X G a6, F6.binds (ps := ["field", "rows", "places"]) fun _ _ _ _ _ _ us hl => match us, hl with | [_, _, _], _ => rfl⟩
  have F7 := fun_mk (st := s_rank_of) l7 c7 k7
  have A7 : At K mg "rank_of" s_rank_of ["field", "rows"] := ⟨_, _, F7, PySem.W.mg_of X G a7, F7.binds (ps := ["field", "rows"]) fun _ _ _ _ _ _ us hl => match us, hl with | [_, _], _ => rfl⟩
  have F8 := fun_mk (st := s_need_code) l8 c8 k8
  have A8 : At K mg "need_code" s_need_code ["code"] := ⟨_, _, F8, PySem.W.mg_of X G a8, F8.binds (ps := ["code"]) fun _ _ _ _ _ _ us hl => match us, hl with | [_], _ => rfl⟩
  have F9 := fun_mk (st := s_number_of) l9 c9 k9
  have A9 : At K mg "number_of" s_number_of ["word", "row"] := ⟨_, _, F9, PySem.W.mg_of X G a9, F9.binds (ps := ["word", "row"]) fun _ _ _ _ _ _ us hl => match us, hl with | [_, _], _ => rfl⟩
  have F10 := fun_mk (st := s_read) l10 c10 k10
  have A10 : At K mg "read" s_read ["text"] := ⟨_, _, F10, PySem.W.mg_of X G a10, F10.binds (ps := ["text"]) fun _ _ _ _ _ _ us hl => match us, hl with | [_], _ => rfl⟩
  have F11 := fun_mk (st := s_law_taken) l11 c11 k11
  have A11 : At K mg "_law_taken" s_law_taken ["_law_row_here", "_law_many"] := ⟨_, _, F11, PySem.W.mg_of X G a11, F11.binds (ps := ["_law_row_here", "_law_many"]) fun _ _ _ _ _ _ us hl => match us, hl with | [_, _], _ => rfl⟩
  have F12 := fun_mk (st := s_law_digits) l12 c12 k12
  have A12 : At K mg "_law_digits" s_law_digits ["_law_row_here", "_law_field", "_law_far"] := ⟨_, _, F12, PySem.W.mg_of X G a12, F12.binds (ps := ["_law_row_here", "_law_field", "_law_far"]) fun _ _ _ _ _ _ us hl => match us, hl with | [_, _, _], _ => rfl⟩
  have F13 := fun_mk (st := s_law_span) l13 c13 k13
  have A13 : At K mg "_law_span" s_law_span ["_law_field", "_law_far", "_law_rows"] := ⟨_, _, F13, PySem.W.mg_of X G a13, F13.binds (ps := ["_law_field", "_law_far", "_law_rows"]) fun _ _ _ _ _ _ us hl => match us, hl with | [_, _, _], _ => rfl⟩
  have F14 := fun_mk (st := s_law_code) l14 c14 k14
  have A14 : At K mg "_law_code" s_law_code ["_law_row_here", "_law_far", "_law_most"] := ⟨_, _, F14, PySem.W.mg_of X G a14, F14.binds (ps := ["_law_row_here", "_law_far", "_law_most"]) fun _ _ _ _ _ _ us hl => match us, hl with | [_, _, _], _ => rfl⟩
  have F15 := fun_mk (st := s_law_alike) l15 c15 k15
  have A15 : At K mg "_law_alike" s_law_alike ["_law_found", "_law_due"] := ⟨_, _, F15, PySem.W.mg_of X G a15, F15.binds (ps := ["_law_found", "_law_due"]) fun _ _ _ _ _ _ us hl => match us, hl with | [_, _], _ => rfl⟩
  have F16 := fun_mk (st := s_written) l16 c16 k16
  have A16 : At K mg "written" s_written ["codes"] := ⟨_, _, F16, PySem.W.mg_of X G a16, F16.binds (ps := ["codes"]) fun _ _ _ _ _ _ us hl => match us, hl with | [_], _ => rfl⟩
  have F17 := fun_mk (st := s_law) l17 c17 k17
  have B : Bl mg := ⟨PySem.W.mg_none_of X G z0, PySem.W.mg_none_of X G z1, PySem.W.mg_none_of X G z2, PySem.W.mg_none_of X G z3, PySem.W.mg_none_of X G z4, PySem.W.mg_none_of X G z5, PySem.W.mg_none_of X G z6, PySem.W.mg_none_of X G z7, PySem.W.mg_none_of X G z8, PySem.W.mg_none_of X G z9, PySem.W.mg_none_of X G z10, PySem.W.mg_none_of X G z11, PySem.W.mg_none_of X G z12, PySem.W.mg_none_of X G z13, PySem.W.mg_none_of X G z14, PySem.W.mg_none_of X G z15, PySem.W.mg_none_of X G z16, PySem.W.mg_none_of X G z17, PySem.W.mg_none_of X G z18, PySem.W.mg_none_of X G z19⟩
  refine ⟨PySem.W.fnOf "law" "law" (defArgs s_law) (defBody s_law) (defScope s_law) .none kV17 dc17 pm17 an17 cd17 ct17, fun s v => .of_eq rfl, fun base _ _ => ?_⟩
  have Dlaw_row := ok_law_row (P := l.prog) (w := w) (base := base) A1 B
  have Dis_number := ok_is_number (P := l.prog) (w := w) (base := base) A2 B
  have Dis_row := ok_is_row (P := l.prog) (w := w) (base := base) A3 B Dis_number
  have Dtimes_of := ok_times_of (P := l.prog) (w := w) (base := base) A4 B
  have Dplus_times := ok_plus_times (P := l.prog) (w := w) (base := base) A5 B
  have Din_steps := ok_in_steps (P := l.prog) (w := w) (base := base) A6 B Dtimes_of Dplus_times
  have Drank_of := ok_rank_of (P := l.prog) (w := w) (base := base) A7 B Din_steps
  have Dneed_code := ok_need_code (P := l.prog) (w := w) (base := base) A8 B ⟨_, PySem.W.mg_of X G q0⟩ ⟨_, PySem.W.mg_of X G q1⟩ Dis_number Drank_of Dis_row
  have Dnumber_of := ok_number_of (P := l.prog) (w := w) (base := base) A9 B ⟨_, PySem.W.mg_of X G q2⟩ ⟨_, PySem.W.mg_of X G q3⟩
  have Dread := ok_read (P := l.prog) (w := w) (base := base) A10 B ⟨_, PySem.W.mg_of X G q4⟩ ⟨_, PySem.W.mg_of X G q3⟩ Dnumber_of Dneed_code
  have Dlaw_taken := ok_law_taken (P := l.prog) (w := w) (base := base) A11 B
  have Dlaw_digits := ok_law_digits (P := l.prog) (w := w) (base := base) A12 B Dlaw_taken
  have Dlaw_span := ok_law_span (P := l.prog) (w := w) (base := base) A13 B
  have Dlaw_code := ok_law_code (P := l.prog) (w := w) (base := base) A14 B Dlaw_taken Dlaw_digits Dlaw_span
  have Dlaw_alike := ok_law_alike (P := l.prog) (w := w) (base := base) A15 B 6
  have Dwritten := ok_written (P := l.prog) (w := w) (base := base) A16 B ⟨_, PySem.W.mg_of X G q4⟩ Dneed_code
  exact ok_law F17 B Dlaw_row Dlaw_taken Dlaw_code Dread Dlaw_alike Dwritten law_runs
end
end CB
open PySem PySem.W PyProof.Rows
set_option maxHeartbeats 0 in
theorem PySem.Challenge.cw_codehouse_k33_written_and_read_holds : PySem.Challenge.rw_codehouse_k33_written_and_read.Holds := by
  w_on; o_law; k_head; (case hw => w_witness2)
  k_fill
  refine L2.walk_of (l := PySem.Challenge.rw_codehouse_k33_written_and_read) (n := 63) (k := 8) (x := "_law_script") (CX := fun _ => L2.CX0) (sp := fun w => CB.spLaw _) rfl (by decide) rfl ⟨rfl, by decide, by decide⟩ (fun w h Y => PySem.W.kIn_of Y) ?F (fun _ _ a ns hl ho hS => ⟨a, ns, rfl, ho, hS, hl, fun _ => rfl⟩) (fun _ _ _ _ _ h => h)
  case F =>
    intro w mg fa h KX G hmg
    refine' CB.all_mk KX G hmg ?a1 ?l1 ?c1 ?k1 ?a2 ?l2 ?c2 ?k2 ?a3 ?l3 ?c3 ?k3 ?a4 ?l4 ?c4 ?k4 ?a5 ?l5 ?c5 ?k5 ?a6 ?l6 ?c6 ?k6 ?a7 ?l7 ?c7 ?k7 ?a8 ?l8 ?c8 ?k8 ?a9 ?l9 ?c9 ?k9 ?a10 ?l10 ?c10 ?k10 ?a11 ?l11 ?c11 ?k11 ?a12 ?l12 ?c12 ?k12 ?a13 ?l13 ?c13 ?k13 ?a14 ?l14 ?c14 ?k14 ?a15 ?l15 ?c15 ?k15 ?a16 ?l16 ?c16 ?k16 ?a17 ?l17 ?c17 ?k17 ?z0 ?z1 ?z2 ?z3 ?z4 ?z5 ?z6 ?z7 ?z8 ?z9 ?z10 ?z11 ?z12 ?z13 ?z14 ?z15 ?z16 ?z17 ?z18 ?z19 ?q0 ?q1 ?q2 ?q3 ?q4
    (case a1 => k_is); (case l1 => k_is); (case c1 => k_is); (case k1 => k_is); (case a2 => k_is); (case l2 => k_is); (case c2 => k_is); (case k2 => k_is)
    (case a3 => k_is); (case l3 => k_is); (case c3 => k_is); (case k3 => k_is); (case a4 => k_is); (case l4 => k_is); (case c4 => k_is); (case k4 => k_is)
    (case a5 => k_is); (case l5 => k_is); (case c5 => k_is); (case k5 => k_is); (case a6 => k_is); (case l6 => k_is); (case c6 => k_is); (case k6 => k_is)
    (case a7 => k_is); (case l7 => k_is); (case c7 => k_is); (case k7 => k_is); (case a8 => k_is); (case l8 => k_is); (case c8 => k_is); (case k8 => k_is)
    (case a9 => k_is); (case l9 => k_is); (case c9 => k_is); (case k9 => k_is); (case a10 => k_is); (case l10 => k_is); (case c10 => k_is); (case k10 => k_is)
    (case a11 => k_is); (case l11 => k_is); (case c11 => k_is); (case k11 => k_is); (case a12 => k_is); (case l12 => k_is); (case c12 => k_is); (case k12 => k_is)
    (case a13 => k_is); (case l13 => k_is); (case c13 => k_is); (case k13 => k_is); (case a14 => k_is); (case l14 => k_is); (case c14 => k_is); (case k14 => k_is)
    (case a15 => k_is); (case l15 => k_is); (case c15 => k_is); (case k15 => k_is); (case a16 => k_is); (case l16 => k_is); (case c16 => k_is); (case k16 => k_is)
    (case a17 => k_is); (case l17 => k_is); (case c17 => k_is); (case k17 => k_is); (case z0 => k_is); (case z1 => k_is); (case z2 => k_is); (case z3 => k_is)
    (case z4 => k_is); (case z5 => k_is); (case z6 => k_is); (case z7 => k_is); (case z8 => k_is); (case z9 => k_is); (case z10 => k_is); (case z11 => k_is)
    (case z12 => k_is); (case z13 => k_is); (case z14 => k_is); (case z15 => k_is); (case z16 => k_is); (case z17 => k_is); (case z18 => k_is); (case z19 => k_is)
    (case q0 => k_is); (case q1 => k_is); (case q2 => k_is); (case q3 => k_is); (case q4 => k_is)
