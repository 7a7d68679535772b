import PyProof.Rows.All
import Wide.All
import OpenK.AllK
import Wide.FinOn
import HandS.Text
import HandS.Comp
import HandS.Iter
import HandS.Ends
import HandS.ExcOwn
import HandS.WideBits
import HandS.Wide
import HandS.TupAny
import HandS.TupMul
import HandS.Words
import HandS.Property
import HandS.TryOnly
import HandS.IsInst
import HandS.FStr
import HandS.RaiseMore
import PyProof.ReprRoads
import HandS.Deep
import HandS.Style
import HandS.Star
import HandS.ClsMeth
import HandS.SlotsOwn
import KE.GoesEnum
import HandS.EndBits
import PyProof.InstNe
import KE.KCallOwn
import KE.KFmtOwn
import HandS.Nested
import KE.KSuper
import HandS.Flt
import KE.DatumOrd
import HandS.More
import PyProof.NeKinds
import HandS.GenList
import KE.RegKSuper
import PySem.Challenge.RW_rungladders_k15_whole_ladders_section_by
set_option Elab.async false
set_option linter.all false
local macro_rules | `(tactic| leaf_len) => `(tactic| first | exact Or.inl rfl | exact Or.inr (Or.inl rfl) | exact Or.inr (Or.inr rfl))
local macro_rules | `(tactic| mem_news) => `(tactic| first | exact Or.inl rfl | exact Or.inr rfl)
set_option maxRecDepth 100000
namespace Ev
open PySem L2
inductive TyN where
  | none_ | bool | int | str | tuple | list | dict
  deriving DecidableEq
def TyN.name : TyN → String
  | .none_ => "NoneType" | .bool => "bool" | .int => "int" | .str => "str" | .tuple => "tuple" | .list => "list" | .dict => "dict"
inductive D where
  | non | bl (b : Bool) | int (i : Int) | str (x : Str)
  | tup (ds : List D) | lst (ds : List D) | scr (ds : List D)
  | dct (ks : List Key) (ds : List D)
  | ins (c : Nat) (ds : List D)
  | ref (n : Nat)
  | ty (t : TyN) | cls (c : Nat)
  deriving Inhabited
inductive Ob where
  | lst (ds : List D) | dct (ks : List Key) (ds : List D) | ins (c : Nat) (ds : List D)
  deriving Inhabited
structure Exn where
  cls : Nat
  arg : Option D
  deriving Inhabited
structure Sg where
  K : PySem.W.Frag
  ca : Nat → Addr
  fn : Nat → List Str
  xc : Nat → Value
  xf : Nat → Str
  gd : Bool := true
structure Wd where
  m : List Addr
  F : Addr → Prop
  H : Hp
  x : Option Addr := none
def RdF (w : Wd) (a : Addr) (o : HO) : Prop := w.F a ∧ Rd w.H a o
def KTup (K : PySem.W.Frag) (a : Addr) (xs : List V) : Prop := ∃ (o : Obj) (its : Array Value) (n : Nat), K.lookup a = some o ∧ o.cls = .type "tuple" ∧ o.data = .seq its n ∧ its.size ≤ sizeLine ∧ Vals xs its.toList
def KLst (K : PySem.W.Frag) (a : Addr) (xs : List V) : Prop := ∃ (o : Obj) (its : Array Value) (n : Nat), K.lookup a = some o ∧ o.cls = .type "list" ∧ o.dict = none ∧ o.data = .seq its n ∧ its.size ≤ sizeLine ∧ Vals xs its.toList
mutual
def RepV (G : Sg) (w : Wd) : D → V → Prop
  | .non, v => v = .non
  | .bl b, v => v = .bl b
  | .int i, v => v = .int i
  | .str x, v => v = .str x
  | .tup ds, v => ∃ a vs, v = .ref a ∧ (RdF w a (.tup vs) ∨ KTup G.K a vs) ∧ RepVs G w ds vs
  | .lst ds, v => ∃ a vs, v = .ref a ∧ w.F a ∧ w.H a = some (.lst vs) ∧ RepVs G w ds vs
  | .scr ds, v => ∃ a vs, v = .ref a ∧ (RdF w a (.lst vs) ∨ KLst G.K a vs) ∧ RepVs G w ds vs
  | .dct ks ds, v => ∃ a vs, v = .ref a ∧ w.F a ∧ w.H a = some (.dK (ks.zip vs)) ∧ ks.length = vs.length ∧ RepVs G w ds vs
  | .ins c ds, v => ∃ a dx vs, v = .ref a ∧ w.F a ∧ w.H a = some (.ins (G.ca c) dx ((G.fn c).zip vs)) ∧ vs.length ≤ (G.fn c).length ∧ RepVs G w ds vs
  | .ref n, v => ∃ a, v = .ref a ∧ w.m[n]? = some a
  | .ty t, v => v = .ty t.name
  | .cls c, v => v = .ref (G.ca c)
def RepVs (G : Sg) (w : Wd) : List D → List V → Prop
  | [], vs => vs = []
  | d :: ds, vs => ∃ v r, vs = v :: r ∧ RepV G w d v ∧ RepVs G w ds r
end
def RepO (G : Sg) (w : Wd) (a : Addr) : Ob → Prop
  | .lst ds => ∃ vs, w.H a = some (.lst vs) ∧ RepVs G w ds vs
  | .dct ks ds => ∃ vs, w.H a = some (.dK (ks.zip vs)) ∧ ks.length = vs.length ∧ RepVs G w ds vs
  | .ins c ds => ∃ dx vs, w.H a = some (.ins (G.ca c) dx ((G.fn c).zip vs)) ∧ vs.length ≤ (G.fn c).length ∧ RepVs G w ds vs
def RepX (G : Sg) (w : Wd) (e : Exn) (cls : Value) (x : Option Addr) : Prop :=
  cls = G.xc e.cls ∧ match e.arg with
    | none => True
    | some d => ∃ a v, x = some a ∧ w.F a ∧ w.H a = some (.xd [(G.xf e.cls, v)]) ∧ RepV G w d v
structure Ext (w w' : Wd) : Prop where
  m : ∃ r, w'.m = w.m ++ r
  F : ∀ a, w.F a → w'.F a
  H : ∀ b o, b ∉ w.m → w.H b = some o → w'.H b = some o
  nm : ∀ b, b ∈ w'.m → b ∈ w.m ∨ w.H b = none
  nF : ∀ b, w'.F b → w.F b ∨ w.H b = none
  al : ∀ b, w'.H b = none → w.H b = none
theorem Ext.refl (w : Wd) : Ext w w := ⟨⟨[], by simp⟩, fun _ h => h, fun _ _ _ h => h, fun _ h => .inl h, fun _ h => .inl h, fun _ h => h⟩
theorem Ext.trans {w w1 w2 : Wd} (a : Ext w w1) (b : Ext w1 w2) : Ext w w2 := by
  obtain ⟨r, er⟩ := a.m
  obtain ⟨r', er'⟩ := b.m
  refine ⟨⟨r ++ r', by rw [er', er, List.append_assoc]⟩, fun x h => b.F x (a.F x h), fun x o hm h => b.H x o (fun z => ?_) (a.H x o hm h), fun x h => ?_, fun x h => ?_, fun x h => a.al x (b.al x h)⟩
  · rcases a.nm x z with z | z
    · exact hm z
    · rw [h] at z; cases z
  · rcases b.nm x h with z | z
    · exact a.nm x z
    · exact .inr (a.al x z)
  · rcases b.nF x h with z | z
    · exact a.nF x z
    · exact .inr (a.al x z)
structure Stay (w w' : Wd) : Prop where
  m : ∃ r, w'.m = w.m ++ r
  F : ∀ a, w.F a → w'.F a
  H : ∀ a o, w.F a → w.H a = some o → w'.H a = some o
theorem Stay.refl (w : Wd) : Stay w w := ⟨⟨[], by simp⟩, fun _ h => h, fun _ _ _ h => h⟩
theorem Stay.trans {w w1 w2 : Wd} (a : Stay w w1) (b : Stay w1 w2) : Stay w w2 := by
  obtain ⟨r, er⟩ := a.m
  obtain ⟨r', er'⟩ := b.m
  exact ⟨⟨r ++ r', by rw [er', er, List.append_assoc]⟩, fun x h => b.F x (a.F x h), fun x o f h => b.H x o (a.F x f) (a.H x o f h)⟩
theorem Ext.stay {w w' : Wd} (e : Ext w w') (dj : ∀ a, w.F a → a ∉ w.m) : Stay w w' := ⟨e.m, e.F, fun a o f h => e.H a o (dj a f) h⟩
section
variable {G : Sg} {w w' : Wd}
theorem RdF.stay (e : Stay w w') {a : Addr} {o : HO} (h : RdF w a o) : RdF w' a o := by
  obtain ⟨f, h⟩ := h
  refine ⟨e.F a f, ?_⟩
  rcases h with h | ⟨u, h⟩
  · exact .inl (e.H a _ f h)
  · exact .inr ⟨u, e.H a _ f h⟩
mutual
theorem RepV.stay (e : Stay w w') : ∀ (d : D) (v : V), RepV G w d v → RepV G w' d v
  | .non, _, h => h
  | .bl _, _, h => h
  | .int _, _, h => h
  | .str _, _, h => h
  | .tup ds, _, h => by
    obtain ⟨a, vs, e1, h1, h2⟩ := h
    exact ⟨a, vs, e1, h1.imp (fun z => z.stay e) id, RepVs.stay e ds vs h2⟩
  | .lst ds, _, h => by
    obtain ⟨a, vs, e1, f, h1, h2⟩ := h
    exact ⟨a, vs, e1, e.F a f, e.H a _ f h1, RepVs.stay e ds vs h2⟩
  | .scr ds, _, h => by
    obtain ⟨a, vs, e1, h1, h2⟩ := h
    exact ⟨a, vs, e1, h1.imp (fun z => z.stay e) id, RepVs.stay e ds vs h2⟩
  | .dct ks ds, _, h => by
    obtain ⟨a, vs, e1, f, h1, h2, h3⟩ := h
    exact ⟨a, vs, e1, e.F a f, e.H a _ f h1, h2, RepVs.stay e ds vs h3⟩
  | .ins c ds, _, h => by
    obtain ⟨a, dx, vs, e1, f, h1, h2, h3⟩ := h
    exact ⟨a, dx, vs, e1, e.F a f, e.H a _ f h1, h2, RepVs.stay e ds vs h3⟩
  | .ref n, _, h => by
    obtain ⟨a, e1, h1⟩ := h
    obtain ⟨r, er⟩ := e.m
    refine ⟨a, e1, ?_⟩
    rw [er, List.getElem?_append_left (List.getElem?_eq_some_iff.mp h1).1]
    exact h1
  | .ty _, _, h => h
  | .cls _, _, h => h
theorem RepVs.stay (e : Stay w w') : ∀ (ds : List D) (vs : List V), RepVs G w ds vs → RepVs G w' ds vs
  | [], _, h => h
  | d :: ds, _, h => by
    obtain ⟨v, r, e1, h1, h2⟩ := h
    exact ⟨v, r, e1, RepV.stay e d v h1, RepVs.stay e ds r h2⟩
end
theorem RepV.mono (e : Ext w w') (dj : ∀ a, w.F a → a ∉ w.m) (d : D) (v : V) : RepV G w d v → RepV G w' d v := RepV.stay (e.stay dj) d v
theorem RepVs.mono (e : Ext w w') (dj : ∀ a, w.F a → a ∉ w.m) (ds : List D) (vs : List V) : RepVs G w ds vs → RepVs G w' ds vs := RepVs.stay (e.stay dj) ds vs
theorem RepO.mono (e : Ext w w') (dj : ∀ a, w.F a → a ∉ w.m) {a : Addr} (ha : a ∉ w.m) : ∀ (o : Ob), RepO G w a o → RepO G w' a o
  | .lst ds, ⟨vs, h1, h2⟩ => ⟨vs, e.H a _ ha h1, RepVs.mono e dj _ _ h2⟩
  | .dct ks ds, ⟨vs, h1, h2, h3⟩ => ⟨vs, e.H a _ ha h1, h2, RepVs.mono e dj _ _ h3⟩
  | .ins c ds, ⟨dx, vs, h1, h2, h3⟩ => ⟨dx, vs, e.H a _ ha h1, h2, RepVs.mono e dj _ _ h3⟩
theorem RepVs.length : ∀ {ds : List D} {vs : List V}, RepVs G w ds vs → ds.length = vs.length
  | [], _, h => by cases (show _ = _ from h); rfl
  | _ :: ds, _, ⟨_, _, e, _, h⟩ => by rw [e, List.length_cons, List.length_cons, RepVs.length h]
theorem RepVs.get : ∀ {ds : List D} {vs : List V} {i : Nat} {d : D}, RepVs G w ds vs → ds[i]? = some d → ∃ v, vs[i]? = some v ∧ RepV G w d v
  | [], _, _, _, _, e => by simp at e
  | d :: ds, _, 0, _, ⟨v, r, e, h, _⟩, q => by
    subst e
    simp at q
    subst q
    exact ⟨v, rfl, h⟩
  | _ :: ds, _, i + 1, _, ⟨v, r, e, _, h⟩, q => by
    subst e
    simpa using RepVs.get (i := i) h (by simpa using q)
theorem RepVs.append : ∀ {ds es : List D} {vs us : List V}, RepVs G w ds vs → RepVs G w es us → RepVs G w (ds ++ es) (vs ++ us)
  | [], _, _, _, h, q => by cases (show _ = _ from h); exact q
  | d :: ds, _, _, _, ⟨v, r, e, h, t⟩, q => by subst e; exact ⟨v, _, rfl, h, RepVs.append t q⟩
theorem RepVs.take : ∀ (n : Nat) {ds : List D} {vs : List V}, RepVs G w ds vs → RepVs G w (ds.take n) (vs.take n)
  | 0, _, _, _ => rfl
  | n + 1, [], _, h => by cases (show _ = _ from h); rfl
  | n + 1, d :: ds, _, ⟨v, r, e, h, t⟩ => by subst e; exact ⟨v, _, rfl, h, RepVs.take n t⟩
theorem RepVs.drop : ∀ (n : Nat) {ds : List D} {vs : List V}, RepVs G w ds vs → RepVs G w (ds.drop n) (vs.drop n)
  | 0, _, _, h => h
  | n + 1, [], _, h => by cases (show _ = _ from h); rfl
  | n + 1, d :: ds, _, ⟨v, r, e, h, t⟩ => by subst e; exact RepVs.drop n t
theorem RepVs.reverse : ∀ {ds : List D} {vs : List V}, RepVs G w ds vs → RepVs G w ds.reverse vs.reverse
  | [], _, h => by cases (show _ = _ from h); rfl
  | d :: ds, _, ⟨v, r, e, h, t⟩ => by
    subst e
    rw [List.reverse_cons, List.reverse_cons]
    exact RepVs.append (RepVs.reverse t) ⟨v, [], rfl, h, rfl⟩
theorem RepVs.set : ∀ (i : Nat) {ds : List D} {vs : List V} {d : D} {v : V}, RepVs G w ds vs → RepV G w d v → RepVs G w (ds.set i d) (vs.set i v)
  | _, [], _, _, _, h, _ => by cases (show _ = _ from h); rfl
  | 0, d :: ds, _, _, _, ⟨v, r, e, h, t⟩, q => by subst e; exact ⟨_, _, rfl, q, t⟩
  | i + 1, d :: ds, _, _, _, ⟨v, r, e, h, t⟩, q => by subst e; exact ⟨_, _, rfl, h, RepVs.set i t q⟩
theorem RepVs.one {d : D} {v : V} (h : RepV G w d v) : RepVs G w [d] [v] := ⟨v, [], rfl, h, rfl⟩
theorem RepVs.rep : ∀ (k : Nat) {ds : List D} {vs : List V}, RepVs G w ds vs → RepVs G w (List.replicate k ds).flatten (List.replicate k vs).flatten
  | 0, _, _, _ => rfl
  | k + 1, _, _, h => by
    rw [List.replicate_succ, List.replicate_succ, List.flatten_cons, List.flatten_cons]
    exact RepVs.append h (RepVs.rep k h)
end
structure RepS (G : Sg) (w : Wd) (S : List Ob) : Prop where
  len : w.m.length = S.length
  nd : w.m.Nodup
  dj : ∀ a, w.F a → a ∉ w.m
  fh : ∀ a, w.F a → w.H a ≠ none
  ob : ∀ (n : Nat) (a : Addr) (o : Ob), w.m[n]? = some a → S[n]? = some o → RepO G w a o
inductive SV where
  | no | val (d : D) | own (o : Ob)
  deriving Inhabited
structure R (G : Sg) (w0 w : Wd) (sd : List SV) (S : List Ob) (σ : St) : Prop where
  ex : Ext w0 w
  st : RepS G w S
  ln : σ.length = sd.length
  vl : ∀ (i : Nat) (d : D), sd[i]? = some (.val d) → ∃ v, σ[i]? = some (some v) ∧ RepV G w d v
  ow : ∀ (i : Nat) (o : Ob), sd[i]? = some (.own o) → ∃ a, σ[i]? = some (some (.ref a)) ∧ RepO G w a o ∧ ¬ w.F a ∧ a ∉ w.m ∧ w0.H a = none
  ap : ∀ (i j : Nat) (o o' : Ob) (a : Addr), sd[i]? = some (.own o) → sd[j]? = some (.own o') → σ[i]? = some (some (.ref a)) → σ[j]? = some (some (.ref a)) → i = j
  sf : ∀ a o, w0.x = some a → sd[0]? = some (.own o) → σ[0]? = some (some (.ref a))
theorem RepO.there {G : Sg} {w : Wd} {a : Addr} {o : Ob} (h : RepO G w a o) : w.H a ≠ none := by
  cases o with
  | lst ds => obtain ⟨_, e, _⟩ := h; rw [e]; exact fun z => nomatch z
  | dct ks ds => obtain ⟨_, e, _⟩ := h; rw [e]; exact fun z => nomatch z
  | ins c ds => obtain ⟨_, _, e, _⟩ := h; rw [e]; exact fun z => nomatch z
theorem R.step {G : Sg} {w0 w w1 : Wd} {sd : List SV} {S S1 : List Ob} {σ : St} (r : R G w0 w sd S σ) (e : Ext w w1) (s : RepS G w1 S1) : R G w0 w1 sd S1 σ := by
  refine ⟨r.ex.trans e, s, r.ln, fun i d h => ?_, fun i o h => ?_, r.ap, r.sf⟩
  · obtain ⟨v, h1, h2⟩ := r.vl i d h
    exact ⟨v, h1, RepV.mono e r.st.dj d v h2⟩
  · obtain ⟨a, h1, h2, h3, h4, h5⟩ := r.ow i o h
    refine ⟨a, h1, RepO.mono e r.st.dj h4 o h2, fun z => ?_, fun z => ?_, h5⟩
    · rcases e.nF a z with z | z
      · exact h3 z
      · exact h2.there z
    · rcases e.nm a z with z | z
      · exact h4 z
      · exact h2.there z
def M (α : Type) : Type := List Ob → Option (Except Exn α × List Ob)
namespace M
variable {α β γ : Type}
def pure (a : α) : M α := fun S => some (.ok a, S)
def err (e : Exn) : M α := fun S => some (.error e, S)
def stuck : M α := fun _ => none
def bind (f : M α) (k : α → M β) : M β := fun S => match f S with
  | none => none
  | some (.error e, S1) => some (.error e, S1)
  | some (.ok a, S1) => k a S1
theorem bind_pure (a : α) (k : α → M β) : bind (pure a) k = k a := rfl
theorem bind_err (e : Exn) (k : α → M β) : bind (err e) k = err e := rfl
theorem bind_stuck (k : α → M β) : bind (stuck : M α) k = stuck := rfl
theorem bind_assoc (f : M α) (k : α → M β) (l : β → M γ) : bind (bind f k) l = bind f fun a => bind (k a) l := by
  funext S
  unfold bind
  rcases f S with _ | ⟨_ | _, _⟩ <;> rfl
theorem bind_ite (c : Prop) [Decidable c] (f g : M α) (k : α → M β) : bind (if c then f else g) k = if c then bind f k else bind g k := by split <;> rfl
end M
def FinG {α β : Type} (G : Sg) (rep : Wd → α → β → Prop) (W : Value → Option Addr → Hp → Prop) (w : Wd) (Q : β → Hp → Prop) : Option (Except Exn α × List Ob) → Prop
  | none => False
  | some (.ok d, S) => ∀ w' v, Ext w w' → RepS G w' S → rep w' d v → Q v w'.H
  | some (.error e, S) => ∀ w' cls x, Ext w w' → RepS G w' S → RepX G w' e cls x → W cls x w'.H
section
variable {α β γ δ : Type} {G : Sg} {rep : Wd → α → β → Prop} {rep' : Wd → γ → δ → Prop} {W : Value → Option Addr → Hp → Prop} {w w1 : Wd} {Q : β → Hp → Prop} {Q' : δ → Hp → Prop}
theorem FinG.ext {r : Option (Except Exn α × List Ob)} (e : Ext w w1) (h : FinG G rep W w Q r) : FinG G rep W w1 Q r := by
  rcases r with _ | ⟨_ | _, _⟩
  · exact h
  · exact fun w' c x e' => h w' c x (e.trans e')
  · exact fun w' v e' => h w' v (e.trans e')
theorem fin_bind {f : M α} {k : α → M γ} {S : List Ob} (h : FinG G rep' W w Q' (M.bind f k S)) :
    FinG G rep W w (fun v H1 => ∃ w1 S1 d, w1.H = H1 ∧ Ext w w1 ∧ RepS G w1 S1 ∧ rep w1 d v ∧ FinG G rep' W w1 Q' (k d S1)) (f S) := by
  unfold M.bind at h
  rcases hf : f S with _ | ⟨_ | d, S1⟩
  · rw [hf] at h; exact h
  · rw [hf] at h; exact h
  · rw [hf] at h
    exact fun w' v e s r => ⟨w', S1, d, rfl, e, s, r, FinG.ext e h⟩
theorem fin_pure {a : α} {b : β} {S : List Ob} (h : FinG G rep W w Q (M.pure a S)) (s : RepS G w S) (r : rep w a b) : Q b w.H := h w b (Ext.refl w) s r
end
def teG {α β : Type} (G : Sg) (rep : Wd → α → β → Prop) (W : WX) (f : List SV → M α) : St → Hp → (β → Hp → Prop) → Prop := fun σ H Q =>
  ∃ w0 w sd S, w.H = H ∧ R G w0 w sd S σ ∧ FinG G rep (fun c x H => W c x σ H) w Q (f sd S)
def repB : Wd → Bool → Bool → Prop := fun _ a b => b = a
abbrev teV (G : Sg) (W : WX) (f : List SV → M D) : TE := teG G (RepV G) W f
abbrev teB (G : Sg) (W : WX) (f : List SV → M Bool) : TT := teG G repB W f
abbrev teA (G : Sg) (W : WX) (f : List SV → M (List D)) : TA := teG G (RepVs G) W f
abbrev PV (G : Sg) (X : Cx) (W : WX) (e : Expr) (f : List SV → M D) : Prop := PE X e (teV G W f)
abbrev PB (G : Sg) (X : Cx) (W : WX) (e : Expr) (f : List SV → M Bool) : Prop := PT X e (teB G W f)
abbrev PL (G : Sg) (X : Cx) (W : WX) (es : List Expr) (f : List SV → M (List D)) : Prop := PA X es (teA G W f)
theorem PE.imp {X : Cx} {e : Expr} {t t' : TE} (h : PE X e t) (i : ∀ σ H Q, t' σ H Q → t σ H Q) : PE X e t' := ⟨fun p s σ H Q I q => h.run p s σ H Q I (i σ H Q q)⟩
theorem PT.imp {X : Cx} {e : Expr} {t t' : TT} (h : PT X e t) (i : ∀ σ H Q, t' σ H Q → t σ H Q) : PT X e t' := ⟨fun p s σ H Q I q => h.run p s σ H Q I (i σ H Q q)⟩
theorem PW.imp {X : Cx} {e : Expr} {t t' : TT} (h : PW X e t) (i : ∀ σ H Q, t' σ H Q → t σ H Q) : PW X e t' := ⟨fun wh p s σ H Q I q => h.run wh p s σ H Q I (i σ H Q q)⟩
theorem PA.imp {X : Cx} {e : List Expr} {t t' : TA} (h : PA X e t) (i : ∀ σ H Q, t' σ H Q → t σ H Q) : PA X e t' := ⟨fun ps p s σ H Q I q => h.run ps p s σ H Q I (i σ H Q q)⟩
theorem PS.imp {X : Cx} {e : Stmt} {t t' : TS} (h : PS X e t) (i : ∀ D σ H, t' D σ H → t D σ H) : PS X e t' := ⟨fun p s σ H D I q => h.run p s σ H D I (i D σ H q)⟩
theorem PSs.imp {X : Cx} {e : List Stmt} {t t' : TS} (h : PSs X e t) (i : ∀ D σ H, t' D σ H → t D σ H) : PSs X e t' := ⟨fun p s σ H D I q => h.run p s σ H D I (i D σ H q)⟩
theorem PE.exP {X : Cx} {e : Expr} {ι : Type} {P : ι → Prop} {t : ι → TE} (h : ∀ i, P i → PE X e (t i)) : PE X e (fun σ H Q => ∃ i, P i ∧ t i σ H Q) := ⟨fun p s σ H Q I ⟨i, hi, q⟩ => (h i hi).run p s σ H Q I q⟩
theorem fin_step {α β γ δ : Type} {G : Sg} {rep : Wd → α → β → Prop} {rep' : Wd → γ → δ → Prop} {W : Value → Option Addr → Hp → Prop} {w : Wd} {Q : β → Hp → Prop} {Q' : δ → Hp → Prop} {f : M α} {k : α → M γ} {S : List Ob}
    (h : FinG G rep' W w Q' (M.bind f k S)) (c : ∀ w1 S1 d v, Ext w w1 → RepS G w1 S1 → rep w1 d v → FinG G rep' W w1 Q' (k d S1) → Q v w1.H) : FinG G rep W w Q (f S) := by
  unfold M.bind at h
  rcases hf : f S with _ | ⟨_ | d, S1⟩
  · rw [hf] at h; exact h
  · rw [hf] at h; exact h
  · rw [hf] at h
    exact fun w' v e s r => c w' S1 d v e s r (FinG.ext e h)
end Ev
set_option maxRecDepth 100000
set_option maxHeartbeats 2000000
namespace Ev
open PySem L2
theorem RepO.to {G : Sg} {w w' : Wd} {a : Addr} (h : w'.H a = w.H a) (e : Stay w w') : ∀ {o : Ob}, RepO G w a o → RepO G w' a o
  | .lst _, ⟨vs, h1, h2⟩ => ⟨vs, h.trans h1, RepVs.stay e _ _ h2⟩
  | .dct _ _, ⟨vs, h1, h2, h3⟩ => ⟨vs, h.trans h1, h2, RepVs.stay e _ _ h3⟩
  | .ins _ _, ⟨dx, vs, h1, h2, h3⟩ => ⟨dx, vs, h.trans h1, h2, RepVs.stay e _ _ h3⟩
theorem RepS.there {G : Sg} {w : Wd} {S : List Ob} (s : RepS G w S) {a : Addr} (h : a ∈ w.m) : w.H a ≠ none := by
  obtain ⟨n, hn⟩ := List.getElem?_of_mem h
  have l : n < S.length := by rw [← s.len]; exact (List.getElem?_eq_some_iff.mp hn).1
  exact (s.ob n a S[n] hn (List.getElem?_eq_getElem l)).there
def Wd.frz (w : Wd) (p : Addr) (o : HO) : Wd := ⟨w.m, fun a => w.F a ∨ a = p, upd w.H p o, w.x⟩
def Wd.new (w : Wd) (p : Addr) (o : HO) : Wd := ⟨w.m, w.F, upd w.H p o, w.x⟩
section
variable {G : Sg} {w : Wd} {S : List Ob} {p : Addr} {o : HO}
theorem Ext.frz (hp : w.H p = none) : Ext w (w.frz p o) := by
  refine ⟨⟨[], by simp [Wd.frz]⟩, fun _ h => .inl h, fun b u _ h => ?_, fun _ h => .inl h, fun b h => ?_, fun b h => ?_⟩
  · show upd w.H p o b = some u
    rw [upd_ne (ne_of_none h hp)]; exact h
  · rcases h with h | h
    · exact .inl h
    · exact .inr (h ▸ hp)
  · have h : upd w.H p o b = none := h
    by_cases e : b = p
    · rw [e]; exact hp
    · rw [upd_ne e] at h; exact h
theorem Ext.new (hp : w.H p = none) : Ext w (w.new p o) := by
  have e := Ext.frz (o := o) hp
  exact ⟨e.m, fun _ h => h, e.H, e.nm, fun _ h => .inl h, e.al⟩
theorem RepS.frz (s : RepS G w S) (hp : w.H p = none) : RepS G (w.frz p o) S := by
  refine ⟨s.len, s.nd, fun a h => ?_, fun a h => ?_, fun n a u h1 h2 => ?_⟩
  · rcases h with h | h
    · exact s.dj a h
    · exact fun z => s.there z (h ▸ hp)
  · show upd w.H p o a ≠ none
    by_cases e : a = p
    · rw [e, upd_same]; exact fun z => nomatch z
    · rw [upd_ne e]
      rcases h with h | h
      · exact s.fh a h
      · exact absurd h e
  · have ne : a ≠ p := fun z => s.there (List.mem_of_getElem? h1) (z ▸ hp)
    exact RepO.to (upd_ne ne) ((Ext.frz hp).stay s.dj) (s.ob n a u h1 h2)
theorem RepS.new (s : RepS G w S) (hp : w.H p = none) : RepS G (w.new p o) S := by
  refine ⟨s.len, s.nd, s.dj, fun a h => ?_, fun n a u h1 h2 => ?_⟩
  · show upd w.H p o a ≠ none
    rw [upd_ne (fun e => s.fh a h (by rw [e]; exact hp))]
    exact s.fh a h
  · have ne : a ≠ p := fun z => s.there (List.mem_of_getElem? h1) (z ▸ hp)
    exact RepO.to (upd_ne ne) ((Ext.new hp).stay s.dj) (s.ob n a u h1 h2)
end
def getv (i : Nat) : List SV → M D := fun sd => match sd[i]? with
  | some (.val d) => M.pure d
  | _ => M.stuck
def repL (G : Sg) (n : Nat) : Wd → List D → List V → Prop := fun w ds vs => RepVs G w ds vs ∧ vs.length = n
abbrev PLn (G : Sg) (X : Cx) (W : WX) (n : Nat) (es : List Expr) (f : List SV → M (List D)) : Prop := PA X es (teG G (repL G n) W f)
def notStar : Expr → Bool
  | .Starred _ _ => false
  | _ => true
theorem starEach_cons {e : Expr} {es : List Expr} {env : Env} (h : notStar e = true) : starEach (e :: es) env = (false, eval e env) :: starEach es env := by
  cases e <;> first | rfl | cases h
theorem starEach_all {env : Env} : ∀ {es : List Expr}, es.all notStar = true → ∀ pos, (backTo pos (starEach es env)).any (·.1) = false
  | [], _, _ => rfl
  | e :: es, h, pos => by
    simp only [List.all_cons, Bool.and_eq_true] at h
    rw [starEach_cons h.1]
    show (false || (backTo pos (starEach es env)).any (·.1)) = false
    rw [starEach_all h.2]
    rfl
section
variable {G : Sg} {X : Cx} {W : WX}
theorem v_var {i : Nat} {x : Str} {pos : Pos} (hN : X.N[i]? = some x) (hv : Vis X.env.scope x) (hd : (x == ("__debug__" : Str)) = false) (hcd : (x == ("__classdict__" : Str)) = false) : PV G X W (.Name x pos) (getv i) := by
  refine PE.imp (pe_var hN hv hd hcd) fun σ H Q h => ?_
  obtain ⟨w0, w, sd, S, e, r, q⟩ := h
  subst e
  unfold getv at q
  rcases hx : sd[i]? with _ | _ | d | o
  · rw [hx] at q; exact False.elim q
  · rw [hx] at q; exact False.elim q
  · rw [hx] at q
    obtain ⟨v, h1, h2⟩ := r.vl i d hx
    exact ⟨v, h1, fin_pure q r.st h2⟩
  · rw [hx] at q; exact False.elim q
theorem v_lit {e : Expr} {v : V} {d : D} (h : PE X e (tC v)) (r : ∀ w S, RepS G w S → RepV G w d v) : PV G X W e (fun _ => M.pure d) := by
  refine PE.imp h fun σ H Q h => ?_
  obtain ⟨w0, w, sd, S, e, rr, q⟩ := h
  subst e
  exact fin_pure q rr.st (r w S rr.st)
theorem l_nil : PLn G X W 0 [] (fun _ => M.pure []) := by
  refine PA.imp pa_nil fun σ H Q h => ?_
  obtain ⟨w0, w, sd, S, e, r, q⟩ := h
  subst e
  exact fin_pure q r.st ⟨rfl, rfl⟩
theorem l_cons {n : Nat} {e : Expr} {es : List Expr} {f : List SV → M D} {g : List SV → M (List D)} (he : PV G X W e f) (hr : PLn G X W n es g) (hs : notStar e = true) :
    PLn G X W (n + 1) (e :: es) (fun sd => M.bind (f sd) fun d => M.bind (g sd) fun ds => M.pure (d :: ds)) := by
  refine PA.imp (pa_cons he hr (starEach_cons hs)) fun σ H Q h => ?_
  obtain ⟨w0, w, sd, S, e, r, q⟩ := h
  refine ⟨w0, w, sd, S, e, r, fin_step q fun w1 S1 d v e1 s1 rv q1 => ⟨w0, w1, sd, S1, rfl, r.step e1 s1, fin_step q1 fun w2 S2 ds vs e2 s2 rvs q2 => ?_⟩⟩
  exact fin_pure q2 s2 ⟨⟨v, vs, rfl, RepV.mono e2 s1.dj d v rv, rvs.1⟩, by rw [List.length_cons, rvs.2]⟩
theorem v_tup {n : Nat} {es : List Expr} {g : List SV → M (List D)} {x1 : Nat} {pos : Pos} (h : PLn G X W n es g) (hn : n ≤ sizeLine) : PV G X W (.Tuple es x1 pos) (fun sd => M.bind (g sd) fun ds => M.pure (.tup ds)) := by
  refine PE.imp (pe_tup h) fun σ H Q h => ?_
  obtain ⟨w0, w, sd, S, e, r, q⟩ := h
  refine ⟨w0, w, sd, S, e, r, fin_step q fun w1 S1 ds vs e1 s1 rv q1 => ⟨by rw [rv.2]; exact hn, fun p hp => ?_⟩⟩
  exact q1 (w1.frz p (.tup vs)) _ (Ext.frz hp) (s1.frz hp) ⟨p, vs, rfl, .inl ⟨.inr rfl, .inl upd_same⟩, RepVs.mono (Ext.frz hp) s1.dj _ _ rv.1⟩
theorem v_lst {n : Nat} {es : List Expr} {g : List SV → M (List D)} {pos : Pos} (h : PLn G X W n es g) (hn : n ≤ sizeLine) : PV G X W (.List es pos) (fun sd => M.bind (g sd) fun ds => M.pure (.lst ds)) := by
  refine PE.imp (pe_lst h) fun σ H Q h => ?_
  obtain ⟨w0, w, sd, S, e, r, q⟩ := h
  refine ⟨w0, w, sd, S, e, r, fin_step q fun w1 S1 ds vs e1 s1 rv q1 => ⟨by rw [rv.2]; exact hn, fun p hp => ?_⟩⟩
  exact q1 (w1.frz p (.lst vs)) _ (Ext.frz hp) (s1.frz hp) ⟨p, vs, rfl, .inr rfl, upd_same, RepVs.mono (Ext.frz hp) s1.dj _ _ rv.1⟩
def rD2 (G : Sg) (g : D → D → M D) : R2 := fun v u H Q => ∃ W w S d e, w.H = H ∧ RepS G w S ∧ RepV G w d v ∧ RepV G w e u ∧ FinG G (RepV G) W w Q (g d e S)
theorem v_bin {op : Operator} {g : D → D → M D} {a b : Expr} {fa fb : List SV → M D} {pos : Pos} (ho : OpR X (binaryOp op) (rD2 G g)) (ha : PV G X W a fa) (hb : PV G X W b fb) :
    PV G X W (.BinOp a op b pos) (fun sd => M.bind (fa sd) fun x => M.bind (fb sd) fun y => g x y) := by
  refine PE.imp (pe_op ho ha hb) fun σ H Q h => ?_
  obtain ⟨w0, w, sd, S, e, r, q⟩ := h
  refine ⟨w0, w, sd, S, e, r, fin_step q fun w1 S1 d v e1 s1 rv q1 => ⟨w0, w1, sd, S1, rfl, r.step e1 s1, fin_step q1 fun w2 S2 d2 v2 e2 s2 rv2 q2 => ?_⟩⟩
  exact ⟨_, w2, S2, d, d2, rfl, s2, RepV.mono e2 s1.dj d v rv, rv2, q2⟩
theorem v_cmp {op : CmpOp} {g : D → D → M D} {a b : Expr} {fa fb : List SV → M D} {pos : Pos} (ho : OpR X (compareOp op) (rD2 G g)) (ha : PV G X W a fa) (hb : PV G X W b fb) (hm : behindInMarks op b = false) :
    PV G X W (.Compare a [op] [b] pos) (fun sd => M.bind (fa sd) fun x => M.bind (fb sd) fun y => g x y) := by
  refine PE.imp (pe_cmpR ho ha hb hm) fun σ H Q h => ?_
  obtain ⟨w0, w, sd, S, e, r, q⟩ := h
  refine ⟨w0, w, sd, S, e, r, fin_step q fun w1 S1 d v e1 s1 rv q1 => ⟨w0, w1, sd, S1, rfl, r.step e1 s1, fin_step q1 fun w2 S2 d2 v2 e2 s2 rv2 q2 => ?_⟩⟩
  exact ⟨_, w2, S2, d, d2, rfl, s2, RepV.mono e2 s1.dj d v rv, rv2, q2⟩
def toB : D → M Bool
  | .bl b => M.pure b
  | _ => M.stuck
theorem toB_fin {W' : Value → Option Addr → Hp → Prop} {w : Wd} {Q : Bool → Hp → Prop} {d : D} {v : V} {S : List Ob} (h : FinG G repB W' w Q (toB d S)) (s : RepS G w S) (r : RepV G w d v) : ∃ k, v = .bl k ∧ Q k w.H := by
  cases d with
  | bl b =>
    cases (show v = .bl b from r)
    exact ⟨b, rfl, fin_pure h s rfl⟩
  | _ => exact False.elim h
theorem b_cmp {op : CmpOp} {g : D → D → M D} {a b : Expr} {fa fb : List SV → M D} {pos : Pos} (ho : OpR X (compareOp op) (rD2 G g)) (ha : PV G X W a fa) (hb : PV G X W b fb) (hm : behindInMarks op b = false) :
    PB G X W (.Compare a [op] [b] pos) (fun sd => M.bind (fa sd) fun x => M.bind (fb sd) fun y => M.bind (g x y) toB) := by
  refine PT.imp (pt_cmpR ho ha hb hm) fun σ H Q h => ?_
  obtain ⟨w0, w, sd, S, e, r, q⟩ := h
  refine ⟨w0, w, sd, S, e, r, fin_step q fun w1 S1 d v e1 s1 rv q1 => ⟨w0, w1, sd, S1, rfl, r.step e1 s1, fin_step q1 fun w2 S2 d2 v2 e2 s2 rv2 q2 => ?_⟩⟩
  exact ⟨_, w2, S2, d, d2, rfl, s2, RepV.mono e2 s1.dj d v rv, rv2, fin_step q2 fun w3 S3 d3 v3 e3 s3 rv3 q3 => toB_fin q3 s3 rv3⟩
theorem v_chain {op op' : CmpOp} {g g' : D → D → M D} {a b c : Expr} {fa fb fc : List SV → M D} {pos : Pos} (ho : OpR X (compareOp op) (rD2 G g)) (ho' : OpR X (compareOp op') (rD2 G g')) (ha : PV G X W a fa) (hb : PV G X W b fb) (hc : PV G X W c fc) : True := trivial
theorem b_val {e : Expr} {f : List SV → M D} (h : PV G X W e f) (he : ∀ whole, isTrue e X.env whole = (do let v ← whole; standAt e.pos; holding [v] (truthy v))) : PB G X W e (fun sd => M.bind (f sd) toB) := by
  refine PT.imp (pt_val h he) fun σ H Q h => ?_
  obtain ⟨w0, w, sd, S, e, r, q⟩ := h
  exact ⟨w0, w, sd, S, e, r, fin_step q fun w1 S1 d v e1 s1 rv q1 => toB_fin q1 s1 rv⟩
theorem b_not {a : Expr} {f : List SV → M Bool} {pos : Pos} (ha : PB G X W a f) : PB G X W (.UnaryOp .Not a pos) (fun sd => M.bind (f sd) fun b => M.pure (!b)) := by
  refine PT.imp (pt_not ha) fun σ H Q h => ?_
  obtain ⟨w0, w, sd, S, e, r, q⟩ := h
  exact ⟨w0, w, sd, S, e, r, fin_step q fun w1 S1 d v e1 s1 rv q1 => by cases rv; exact fin_pure q1 s1 rfl⟩
abbrev PBW (G : Sg) (X : Cx) (W : WX) (e : Expr) (f : List SV → M Bool) : Prop := PW X e (teB G W f)
theorem w_and1 {a : Expr} {f : List SV → M Bool} {pos : Pos} (ha : PB G X W a f) : PBW G X W (.BoolOp .And [a] pos) f := pw_and1 ha
theorem w_or1 {a : Expr} {f : List SV → M Bool} {pos : Pos} (ha : PB G X W a f) : PBW G X W (.BoolOp .Or [a] pos) f := pw_or1 ha
theorem w_and {a b : Expr} {rest : List Expr} {f g : List SV → M Bool} {pos : Pos} (ha : PB G X W a f) (hb : PBW G X W (.BoolOp .And (b :: rest) pos) g) :
    PBW G X W (.BoolOp .And (a :: b :: rest) pos) (fun sd => M.bind (f sd) fun k => if k = true then g sd else M.pure false) := by
  refine PW.imp (pw_and ha hb) fun σ H Q h => ?_
  obtain ⟨w0, w, sd, S, e, r, q⟩ := h
  refine ⟨w0, w, sd, S, e, r, fin_step q fun w1 S1 d v e1 s1 rv q1 => ?_⟩
  cases (show v = d from rv)
  cases d with
  | true => exact ⟨w0, w1, sd, S1, rfl, r.step e1 s1, q1⟩
  | false => exact fin_pure q1 s1 rfl
theorem w_or {a b : Expr} {rest : List Expr} {f g : List SV → M Bool} {pos : Pos} (ha : PB G X W a f) (hb : PBW G X W (.BoolOp .Or (b :: rest) pos) g) :
    PBW G X W (.BoolOp .Or (a :: b :: rest) pos) (fun sd => M.bind (f sd) fun k => if k = true then M.pure true else g sd) := by
  refine PW.imp (pw_or ha hb) fun σ H Q h => ?_
  obtain ⟨w0, w, sd, S, e, r, q⟩ := h
  refine ⟨w0, w, sd, S, e, r, fin_step q fun w1 S1 d v e1 s1 rv q1 => ?_⟩
  cases (show v = d from rv)
  cases d with
  | true => exact fin_pure q1 s1 rfl
  | false => exact ⟨w0, w1, sd, S1, rfl, r.step e1 s1, q1⟩
theorem v_one {op : BoolOp} {a : Expr} {f : List SV → M D} {pos : Pos} (ha : PV G X W a f) : PV G X W (.BoolOp op [a] pos) f := pe_one ha
theorem v_and {a b : Expr} {rest : List Expr} {f g : List SV → M D} {pos : Pos} (ha : PV G X W a f) (hb : PV G X W (.BoolOp .And (b :: rest) pos) g) :
    PV G X W (.BoolOp .And (a :: b :: rest) pos) (fun sd => M.bind (f sd) fun d => M.bind (toB d) fun k => if k = true then g sd else M.pure (.bl false)) := by
  refine PE.imp (pe_and ha hb) fun σ H Q h => ?_
  obtain ⟨w0, w, sd, S, e, r, q⟩ := h
  refine ⟨w0, w, sd, S, e, r, fin_step q fun w1 S1 d v e1 s1 rv q1 => ?_⟩
  cases d with
  | bl b =>
    cases (show v = .bl b from rv)
    refine ⟨b, rfl, ?_⟩
    cases b with
    | true => exact ⟨w0, w1, sd, S1, rfl, r.step e1 s1, q1⟩
    | false => exact fin_pure (b := V.bl false) q1 s1 rfl
  | _ => exact False.elim q1
theorem v_or {a b : Expr} {rest : List Expr} {f g : List SV → M D} {pos : Pos} (ha : PV G X W a f) (hb : PV G X W (.BoolOp .Or (b :: rest) pos) g) :
    PV G X W (.BoolOp .Or (a :: b :: rest) pos) (fun sd => M.bind (f sd) fun d => M.bind (toB d) fun k => if k = true then M.pure (.bl true) else g sd) := by
  refine PE.imp (pe_or ha hb) fun σ H Q h => ?_
  obtain ⟨w0, w, sd, S, e, r, q⟩ := h
  refine ⟨w0, w, sd, S, e, r, fin_step q fun w1 S1 d v e1 s1 rv q1 => ?_⟩
  cases d with
  | bl b =>
    cases (show v = .bl b from rv)
    refine ⟨b, rfl, ?_⟩
    cases b with
    | true => exact fin_pure (b := V.bl true) q1 s1 rfl
    | false => exact ⟨w0, w1, sd, S1, rfl, r.step e1 s1, q1⟩
  | _ => exact False.elim q1
theorem v_not {a : Expr} {f : List SV → M D} {pos : Pos} (ha : PV G X W a f) : PV G X W (.UnaryOp .Not a pos) (fun sd => M.bind (f sd) fun d => M.bind (toB d) fun k => M.pure (.bl (!k))) := by
  refine PE.imp (pe_not ha) fun σ H Q h => ?_
  obtain ⟨w0, w, sd, S, e, r, q⟩ := h
  refine ⟨w0, w, sd, S, e, r, fin_step q fun w1 S1 d v e1 s1 rv q1 => ?_⟩
  cases d with
  | bl b =>
    cases (show v = .bl b from rv)
    exact ⟨b, rfl, fin_pure (b := V.bl (!b)) q1 s1 rfl⟩
  | _ => exact False.elim q1
theorem v_ite {c a b : Expr} {f : List SV → M Bool} {fa fb : List SV → M D} {pos : Pos} (hc : PB G X W c f) (ha : PV G X W a fa) (hb : PV G X W b fb) : PV G X W (.IfExp c a b pos) (fun sd => M.bind (f sd) fun k => if k = true then fa sd else fb sd) := by
  refine PE.imp (pe_ifExp hc ha hb) fun σ H Q h => ?_
  obtain ⟨w0, w, sd, S, e, r, q⟩ := h
  refine ⟨w0, w, sd, S, e, r, fin_step q fun w1 S1 d v e1 s1 rv q1 => ?_⟩
  cases (show v = d from rv)
  cases d with
  | true => exact ⟨w0, w1, sd, S1, rfl, r.step e1 s1, q1⟩
  | false => exact ⟨w0, w1, sd, S1, rfl, r.step e1 s1, q1⟩
end
end Ev
set_option maxRecDepth 100000
set_option maxHeartbeats 2000000
namespace Ev
open PySem L2
theorem OpR.imp {X : Cx} {f : Value → Value → Sem Value} {r r' : R2} (h : OpR X f r) (i : ∀ v u H Q, r' v u H Q → r v u H Q) : OpR X f r' := fun pins s σ H x y v u Q I rx ry q => h pins s σ H x y v u Q I rx ry (i _ _ _ _ q)
section
variable {G : Sg} {X : Cx} {w : Wd} {a : Addr} {vs : List V}
theorem sqT_of (cK : G.K = X.K) (h : RdF w a (.tup vs) ∨ KTup G.K a vs) : SqT X.K w.H a vs := by
  rw [← cK]
  exact h.imp (fun z => z.2) id
theorem sqL_of (cK : G.K = X.K) (h : RdF w a (.lst vs) ∨ KLst G.K a vs) : SqL X.K w.H a vs := by
  rw [← cK]
  exact h.imp (fun z => z.2) id
end
def lim : Nat := 16777216
theorem lim_eq : lim = sizeLine := by decide
def dAdd : D → D → M D
  | .int i, .int j => M.pure (.int (i + j))
  | .str x, .str y => if x.length + y.length ≤ lim then M.pure (.str (x ++ y)) else M.stuck
  | .lst a, .lst b => if a.length + b.length ≤ lim then M.pure (.lst (a ++ b)) else M.stuck
  | .tup a, .tup b => if a.length + b.length ≤ lim then M.pure (.tup (a ++ b)) else M.stuck
  | _, _ => M.stuck
def dSub : D → D → M D
  | .int i, .int j => M.pure (.int (i - j))
  | _, _ => M.stuck
def mulOk (i j : Int) : Bool := decide ((Builtin.Int.intBits i : Int) + (Builtin.Int.intBits j : Int) ≤ 134217728)
theorem mulOk_of {i j : Int} (h : mulOk i j = true) : CMulX i j := by
  have z : (Builtin.Int.intBits i : Int) + (Builtin.Int.intBits j : Int) ≤ 134217728 := of_decide_eq_true h
  exact z
theorem mulOk_by {i j : Int} {a b : Nat} (ha : i.natAbs < 2 ^ a) (hb : j.natAbs < 2 ^ b) (h : a + b ≤ 134217728) : mulOk i j = true := by
  unfold mulOk
  exact decide_eq_true (mulx_ok ha hb h)
def dMul : D → D → M D
  | .int i, .int j => if mulOk i j = true then M.pure (.int (i * j)) else M.stuck
  | .lst a, .int k => if a.length * k.toNat ≤ lim ∧ -(2 ^ 63) ≤ k ∧ k < 2 ^ 63 then M.pure (.lst (List.replicate k.toNat a).flatten) else M.stuck
  | .tup a, .int k => if 2 ≤ k ∧ k ≤ 1000 ∧ a.length ≤ 1000 ∧ a.isEmpty = false then M.pure (.tup (List.replicate k.toNat a).flatten) else M.stuck
  | _, _ => M.stuck
def divOk (j : Int) : Bool := decide (0 < j) && decide (j.natAbs.log2 < 9000)
def dFdiv : D → D → M D
  | .int i, .int j => if divOk j = true then M.pure (.int (i / j)) else M.stuck
  | _, _ => M.stuck
def dMod : D → D → M D
  | .int i, .int j => if 0 < j then M.pure (.int (i % j)) else M.stuck
  | _, _ => M.stuck
def dPow : D → D → M D
  | .int i, .int j => if 0 ≤ j ∧ j ≤ 1000000 ∧ i.natAbs < 2 ^ 64 then M.pure (.int (i ^ j.toNat)) else M.stuck
  | _, _ => M.stuck
def dCmpI (p : Int → Int → Bool) : D → D → M D
  | .int i, .int j => M.pure (.bl (p i j))
  | _, _ => M.stuck
section
variable {G : Sg} {X : Cx}
theorem FinG.ite {α β : Type} {rep : Wd → α → β → Prop} {W : Value → Option Addr → Hp → Prop} {w : Wd} {Q : β → Hp → Prop} {c : Prop} [Decidable c] {f : M α} {S : List Ob} (h : FinG G rep W w Q ((if c then f else M.stuck) S)) : c ∧ FinG G rep W w Q (f S) := by
  by_cases hc : c
  · rw [if_pos hc] at h; exact ⟨hc, h⟩
  · rw [if_neg hc] at h; exact h.elim
theorem o_int {f : Value → Value → Sem Value} {C : Int → Int → Prop} {g : Int → Int → V} {g' : Int → Int → D} {dg : D → D → M D} (h : OpR X f (rI C g)) (hg : ∀ w i j, RepV G w (g' i j) (g i j))
    (hd : ∀ d e S W w Q, FinG G (RepV G) W w Q (dg d e S) → ∃ i j, d = .int i ∧ e = .int j ∧ C i j ∧ dg d e S = M.pure (g' i j) S) : OpR X f (rD2 G dg) := by
  refine OpR.imp h fun v u H Q q => ?_
  obtain ⟨W, w, S, d, e, rfl, s, r1, r2, q⟩ := q
  obtain ⟨i, j, rfl, rfl, c, eq⟩ := hd d e S W w Q q
  rw [eq] at q
  exact ⟨i, j, r1, r2, c, fin_pure q s (hg w i j)⟩
theorem o_int0 {f : Value → Value → Sem Value} {g : Int → Int → V} {g' : Int → Int → D} {dg : D → D → M D} (h : OpR X f (rI0 g)) (hg : ∀ w i j, RepV G w (g' i j) (g i j))
    (hd : ∀ d e S W w Q, FinG G (RepV G) W w Q (dg d e S) → ∃ i j, d = .int i ∧ e = .int j ∧ dg d e S = M.pure (g' i j) S) : OpR X f (rD2 G dg) := by
  refine OpR.imp h fun v u H Q q => ?_
  obtain ⟨W, w, S, d, e, rfl, s, r1, r2, q⟩ := q
  obtain ⟨i, j, rfl, rfl, eq⟩ := hd d e S W w Q q
  rw [eq] at q
  exact ⟨i, j, r1, r2, fin_pure q s (hg w i j)⟩
theorem o_cmpI {op : CmpOp} {p : Int → Int → Bool} (h : OpR X (compareOp op) (rI0 fun i j => .bl (p i j))) : OpR X (compareOp op) (rD2 G (dCmpI p)) :=
  o_int0 (g' := fun i j => .bl (p i j)) h (fun _ _ _ => rfl) fun d e S W w Q q => by
    cases d <;> cases e <;> first | exact ⟨_, _, rfl, rfl, rfl⟩ | exact q.elim
theorem o_lt : OpR X (compareOp .Lt) (rD2 G (dCmpI fun i j => decide (i < j))) := o_cmpI op_lt
theorem o_le : OpR X (compareOp .LtE) (rD2 G (dCmpI fun i j => decide (i ≤ j))) := o_cmpI op_le
theorem o_gt : OpR X (compareOp .Gt) (rD2 G (dCmpI fun i j => decide (j < i))) := o_cmpI op_gt
theorem o_ge : OpR X (compareOp .GtE) (rD2 G (dCmpI fun i j => decide (j ≤ i))) := o_cmpI op_ge
theorem o_sub : OpR X (binaryOp .Sub) (rD2 G dSub) := o_int0 (g' := fun i j => .int (i - j)) op_sub (fun _ _ _ => rfl) fun d e S W w Q q => by
    cases d <;> cases e <;> first | exact ⟨_, _, rfl, rfl, rfl⟩ | exact q.elim
theorem o_fdiv : OpR X (binaryOp .FloorDiv) (rD2 G dFdiv) := o_int (g' := fun i j => .int (i / j)) (C := fun i j => CDivW i j) op_fdivW (fun _ _ _ => rfl) fun d e S W w Q q => by
    cases d <;> cases e <;> first
      | exact q.elim
      | (obtain ⟨c, q⟩ := FinG.ite q
         refine ⟨_, _, rfl, rfl, ?_, congrFun (if_pos c) S⟩
         unfold divOk at c
         rw [Bool.and_eq_true] at c
         exact ⟨of_decide_eq_true c.1, of_decide_eq_true c.2⟩)
instance {i j : Int} : Decidable (CDivW i j) := by unfold CDivW; infer_instance
theorem o_mod : OpR X (binaryOp .Mod) (rD2 G dMod) := o_int (g' := fun i j => .int (i % j)) (C := fun _ j => 0 < j) op_mod (fun _ _ _ => rfl) fun d e S W w Q q => by
    cases d <;> cases e <;> first
      | exact q.elim
      | (obtain ⟨c, q⟩ := FinG.ite q
         exact ⟨_, _, rfl, rfl, c, congrFun (if_pos c) S⟩)
instance {i j : Int} : Decidable (CPow i j) := by unfold CPow; infer_instance
theorem o_pow : OpR X (binaryOp .Pow) (rD2 G dPow) := o_int (g' := fun i j => .int (i ^ j.toNat)) (C := CPow) op_pow (fun _ _ _ => rfl) fun d e S W w Q q => by
    cases d <;> cases e <;> first
      | exact q.elim
      | (obtain ⟨c, q⟩ := FinG.ite q
         exact ⟨_, _, rfl, rfl, c, congrFun (if_pos c) S⟩)
theorem o_add (cK : G.K = X.K) : OpR X (binaryOp .Add) (rD2 G dAdd) := by
  refine OpR.imp (op_add.or (op_add_str.or (op_cat.or op_catA))) fun v u H Q q => ?_
  obtain ⟨W, w, S, d, e, rfl, s, r1, r2, q⟩ := q
  cases d <;> cases e <;> first | exact q.elim | skip
  · exact .inl ⟨_, _, r1, r2, fin_pure (b := V.int _) q s rfl⟩
  · obtain ⟨c, q⟩ := FinG.ite q
    exact .inr (.inl ⟨_, _, r1, r2, by rw [← lim_eq]; exact c, fin_pure (b := V.str _) q s rfl⟩)
  · rename_i ds es
    obtain ⟨c, q⟩ := FinG.ite q
    obtain ⟨a, va, ea, ha, ra⟩ := r1
    obtain ⟨b, vb, eb, hb, rb⟩ := r2
    rw [ra.length, rb.length, lim_eq] at c
    refine .inr (.inr (.inr ⟨a, b, va, vb, ea, eb, sqT_of cK ha, sqT_of cK hb, c, fun e => ?_, fun n e => ?_, fun _ _ p hp => ?_⟩))
    · subst e
      have e : ds = [] := List.eq_nil_of_length_eq_zero (by rw [ra.length]; rfl)
      subst e
      exact fin_pure q s ⟨b, vb, rfl, hb, rb⟩
    · subst e
      have e : es = [] := List.eq_nil_of_length_eq_zero (by rw [rb.length]; rfl)
      subst e
      rw [List.append_nil] at q
      exact fin_pure q s ⟨a, va, rfl, ha, ra⟩
    · exact q (w.frz p (.tup (va ++ vb))) _ (Ext.frz hp) (s.frz hp) ⟨p, _, rfl, .inl ⟨.inr rfl, .inl upd_same⟩, RepVs.mono (Ext.frz hp) s.dj _ _ (RepVs.append ra rb)⟩
  · rename_i ds es
    obtain ⟨c, q⟩ := FinG.ite q
    obtain ⟨a, va, ea, fa, ha, ra⟩ := r1
    obtain ⟨b, vb, eb, fb, hb, rb⟩ := r2
    rw [ra.length, rb.length, lim_eq] at c
    refine .inr (.inr (.inl ⟨a, b, va, vb, ea, eb, ha, hb, c, fun p hp => ?_⟩))
    exact q (w.frz p (.lst (va ++ vb))) _ (Ext.frz hp) (s.frz hp) ⟨p, _, rfl, .inr rfl, upd_same, RepVs.mono (Ext.frz hp) s.dj _ _ (RepVs.append ra rb)⟩
instance {i j : Int} : Decidable (CMulW i j) := by unfold CMulW; infer_instance
theorem o_mul (cK : G.K = X.K) : OpR X (binaryOp .Mult) (rD2 G dMul) := by
  refine OpR.imp (op_mulX.or (op_rep.or op_repT)) fun v u H Q q => ?_
  obtain ⟨W, w, S, d, e, rfl, s, r1, r2, q⟩ := q
  cases d <;> cases e <;> first | exact q.elim | skip
  · obtain ⟨c, q⟩ := FinG.ite q
    exact .inl ⟨_, _, r1, r2, mulOk_of c, fin_pure (b := V.int _) q s rfl⟩
  · rename_i ds k
    have q : FinG G (RepV G) W w Q ((if 2 ≤ k ∧ k ≤ 1000 ∧ ds.length ≤ 1000 ∧ ds.isEmpty = false then M.pure (.tup (List.replicate k.toNat ds).flatten) else M.stuck) S) := q
    obtain ⟨⟨c1, c2, c, c3⟩, q⟩ := FinG.ite q
    obtain ⟨a, va, ea, ha, ra⟩ := r1
    rw [ra.length] at c
    refine .inr (.inr ⟨a, k, va, ea, r2, sqT_of cK ha, fun e => ?_, c1, c2, c, fun p hp => ?_⟩)
    · subst e
      have e : ds = [] := List.eq_nil_of_length_eq_zero (by rw [ra.length]; rfl)
      rw [e] at c3
      cases c3
    · exact q (w.frz p _) _ (Ext.frz hp) (s.frz hp) ⟨p, _, rfl, .inl ⟨.inr rfl, .inl upd_same⟩, RepVs.mono (Ext.frz hp) s.dj _ _ (RepVs.rep _ ra)⟩
  · rename_i ds k
    obtain ⟨⟨c, c1, c2⟩, q⟩ := FinG.ite q
    obtain ⟨a, va, ea, fa, ha, ra⟩ := r1
    rw [ra.length, lim_eq] at c
    refine .inr (.inl ⟨a, k, va, ea, r2, ha, c1, c2, c, fun p hp => ?_⟩)
    exact q (w.frz p _) _ (Ext.frz hp) (s.frz hp) ⟨p, _, rfl, .inr rfl, upd_same, RepVs.mono (Ext.frz hp) s.dj _ _ (RepVs.rep _ ra)⟩
end
end Ev
set_option maxRecDepth 100000
set_option maxHeartbeats 2000000
namespace Ev
open PySem PySem.Spec PyProof.Rows L2
structure Rm (b : Bool) (k : Nat) (A : Around) : Prop where
  room : Room k A
  gd : b = true → A.guards = some []
theorem Rm.mono {b : Bool} {j k : Nat} {A : Around} (h : Rm b k A) (l : j ≤ k) : Rm b j A := ⟨h.room.mono l, h.gd⟩
theorem Rm.deeper {b : Bool} {k : Nat} {A : Around} (h : Rm b (k + 1) A) (env : Env) : Rm b k (A.deeper env) := ⟨h.room.deeper env, h.gd⟩
theorem Rm.in1 {b : Bool} {k : Nat} {A : Around} (h : Rm b (k + 1) A) : Rm b k A.in1 := ⟨h.room.in1, h.gd⟩
theorem make_guards {A : Around} {C : Addr} {us : List Value} {kw : List (Str × Value)} (h : A.guards = some []) :
    (A.under (.builtin "type.__call__" ⟨.ref C :: us, kw⟩)).guards = some [] := by
  show pushGuards (Code.guards (.builtin "type.__call__" ⟨.ref C :: us, kw⟩)) A.guards = some []
  rw [h]
  have e : Code.guards (.builtin "type.__call__" ⟨.ref C :: us, kw⟩) = [] := by
    show (if guardIds.contains "type.__call__" = true then _ else _) = _
    rw [if_neg (by decide +kernel)]
  rw [e]
  rfl
theorem Rm.make {b : Bool} {k : Nat} {A : Around} (h : Rm b (k + 1) A) (C : Addr) (us : List Value) (kw : List (Str × Value)) :
    Rm b k (A.under (.builtin "type.__call__" ⟨.ref C :: us, kw⟩)) := ⟨h.room.make C us kw, fun z => make_guards (h.gd z)⟩
structure Gn (P : Program) (w : World) (K : PySem.W.Frag) (mg : Str → Option Value) (base : Heap) (b : Bool) (k : Nat) (f : Addr) (fd : FuncData) (ps : List Str) (sp : Sp) : Prop where
  len : ∀ vs H Q E, sp vs H Q E → vs.length = ps.length
  run : ∀ (A : Around) (fr : List Env) (s : Shared) (H : Hp) (args : Args) (us : List Value) (vs : List V) (Q : VK) (E : XK),
    Rm b k A → Env0 P w K mg base A fr s H → BindsTo s fd args (ps.zip us) → Vals vs us → sp vs H Q E →
    codeAny (model P w) A (.call (.ref f) args) (CR (L2.CX P w) fr P w H s Q E) s
section
variable {P : Program} {w : World} {K : PySem.W.Frag} {mg : Str → Option Value} {base : Heap} {b : Bool} {j k : Nat} {f : Addr} {fd : FuncData} {sp : Sp} {N ps : List Str}
theorem Gn.mono (F : Gn P w K mg base b j f fd ps sp) (h : j ≤ k) : Gn P w K mg base b k f fd ps sp :=
  ⟨F.len, fun A fr s H args us vs Q E hr => F.run A fr s H args us vs Q E (hr.mono h)⟩
theorem gn_of {name qual : Str} {params : Arguments} {body : List Stmt} {scope : Scope} {dV kV doc pm cdv ct oc : Value} {an od : Option Addr} {osl : Array (Option Value)}
    (lk : K.lookup f = some ⟨oc, od, .func (PySem.W.fnOf name qual params body scope dV kV doc pm an cdv ct), osl⟩) (hcd : PySem.W.codeIn K cdv qual = true) (SC : FnScope N ps scope)
    (len : ∀ vs H Q E, sp vs H Q E → vs.length = ps.length)
    (hb : ∀ (A : Around) (fr : List Env) (s : Shared) (H : Hp) (vs : List V) (Q : VK) (E : XK),
      Rm b k (A.deeper (envOfC qual scope s.heap.objs.size f cdv)) → sp vs H Q E →
      ∃ t, PSs (cxOf (L2.CX P w) P w K mg base N qual scope f cdv A fr s H E) body t ∧ t { nx := fun _ H' => Q .non H', rt := Q } (start N vs) H) :
    Gn P w K mg base b (k + 1) f (PySem.W.fnOf name qual params body scope dV kV doc pm an cdv ct) ps sp := by
  refine ⟨len, ?_⟩
  intro A fr s H args us vs Q E hr e0 hbind rv hsp
  have inK : K.In s.heap := by
    refine e0.mod.kin.keeps ?_
    exact fun b o e => (e0.bs b o e).1
  have noL : s.heap.NoLimit := by
    refine e0.mod.nolimit.keeps ?_
    exact fun b o e => (e0.bs b o e).1
  have kinds : ∀ y ∈ ps.zip us, scope.names.lookup y.1 = some .local ∨
      (scope.names.lookup y.1 = some .cell ∧ ((cellsFrom (s.heap.objs.size + 1) scope.names []).lookup y.1).isSome = true) := by
    rintro ⟨n, v⟩ hy
    have hn := SC.par n (List.of_mem_zip hy).1
    exact hn.imp id fun q => ⟨q, PySem.W.cellsFrom_some _ _ _ (.inl q)⟩
  refine codeAny_call_function hr.room.depth (inK _ _ lk) rfl SC.co SC.gen rfl ?_ (hbind _ _ _ _ ?_)
  · exact PySem.W.codeRec_of inK hcd
  refine wpAny_newFunctionEnv_cells SC.kind kinds ?_
  rintro env rfl s1 x
  refine ⟨noL.keeps x.toInCall.keep, codeAny_func ?_⟩
  obtain ⟨t, ht, hq⟩ := hb A fr s H vs Q E (hr.deeper _) hsp
  have I := inv_start (CX := L2.CX P w) (P := P) (w := w) (E := E) SC hr.room.hd e0 (len _ _ _ _ hsp) rv x
  have run := ht.run [] s1 _ H _ I hq
  refine wpAny_mono run ?_ (fun e s' hs => hs)
  intro fl s' hs
  cases fl with
  | ret u =>
    obtain ⟨v, σ', H', J, r', q⟩ := hs
    exact ⟨v, H', J.os, J.bare, J.base, J.hok, r', q⟩
  | next =>
    obtain ⟨σ', H', J, q⟩ := hs
    exact ⟨V.non, H', J.os, J.bare, J.base, J.hok, rfl, q⟩
  | brk =>
    obtain ⟨_, _, _, q⟩ := hs
    exact q.elim
  | cont =>
    obtain ⟨_, _, _, q⟩ := hs
    exact q.elim
end
def spV (G : Sg) (g : List D → M D) : Sp := fun vs H Q E => ∃ w ds S, w.H = H ∧ RepS G w S ∧ RepVs G w ds vs ∧ FinG G (RepV G) E w Q (g ds S)
abbrev PassS (X : Cx) (W : WX) : Prop := ∀ σ, PassesAt (L2.CX X.prog X.w) X σ (WE W σ)
section
variable {G : Sg} {X : Cx} {W : WX} {b : Bool} {k : Nat} {f C : Addr} {fd : FuncData} {ps : List Str} {sp : Sp} {σ : L2.St}
theorem run_gn {pins : List (Addr × Obj)} {H : Hp} {s : Shared} {Q : VK} {args : Args} {us : List Value} {vs : List V} (F : Gn X.prog X.w X.K X.mg X.base b k f fd ps sp) (hr : Rm b k X.A)
    (hx : PassS X W) (I : Inv X pins σ H s) (hb : BindsTo s fd args (ps.zip us)) (r : Vals vs us) (h : sp vs H Q (WE W σ)) :
    wpAny (model X.prog X.w) X.A (call (.ref f) args.pos args.kw) (EP X pins σ Q) X.xe s := by
  have body := F.run X.A X.stack s H args us vs Q (WE W σ) hr I.env0 hb r h
  refine wpAny_call (codeAny_mono body ?_)
  intro res s' hq
  rcases res with e | fl
  · exact hx σ pins H s e s' I hq
  · cases fl with
    | ret u => exact I.after hq
    | next => exact hq.elim
    | brk => exact hq.elim
    | cont => exact hq.elim
end
end Ev
set_option maxRecDepth 100000
set_option maxHeartbeats 2000000
namespace Ev
open PySem PySem.Spec PyProof.Rows L2
structure Ctx (G : Sg) (X : Cx) (W : WX) (k : Nat) : Prop where
  cK : G.K = X.K
  calm : X.calm = true
  rm : Rm G.gd (k + 1) X.A
  nd : X.N.Nodup
  px : PassS X W
  po : PassesOwn (model X.prog X.w) X.A X.env X.xe
theorem Ctx.rm0 {G : Sg} {X : Cx} {W : WX} {k : Nat} (c : Ctx G X W k) : Rm G.gd k X.A := c.rm.mono (Nat.le_succ _)
structure FnA (P : Program) (w : World) (K : PySem.W.Frag) (mg : Str → Option Value) (base : Heap) (G : Sg) (k : Nat) (f : Addr) (sem : List D → M D) : Prop where
  run : ∀ (A : Around) (fr : List Env) (s : Shared) (H : Hp) (us : List Value) (vs : List V) (Q : VK) (E : XK),
    Rm G.gd k A → Env0 P w K mg base A fr s H → Vals vs us → spV G sem vs H Q E → codeAny (model P w) A (.call (.ref f) ⟨us, []⟩) (CR (L2.CX P w) fr P w H s Q E) s
  kp : PySem.W.keepIn K (.ref f) = true
theorem FnA.of {P : Program} {w : World} {K : PySem.W.Frag} {mg : Str → Option Value} {base : Heap} {G : Sg} {k : Nat} {f : Addr} {fd : FuncData} {ps : List Str} {sem : List D → M D} (g : Gn P w K mg base G.gd k f fd ps (spV G sem)) (b : Binds K fd ps [])
    (kp : PySem.W.keepIn K (.ref f) = true) : FnA P w K mg base G k f sem := by
  refine ⟨fun A fr s H us vs Q E hr e0 r h => ?_, kp⟩
  have hl : us.length = ps.length := r.length.symm.trans (g.len _ _ _ _ h)
  have inK : K.In s.heap := e0.mod.kin.keeps fun b o e => (e0.bs b o e).1
  have hb := b s us inK (by rw [List.append_nil]; exact hl)
  rw [List.append_nil] at hb
  exact g.run A fr s H ⟨us, []⟩ us vs Q E hr e0 hb r h
theorem FnA.mono {P : Program} {w : World} {K : PySem.W.Frag} {mg : Str → Option Value} {base : Heap} {G : Sg} {j k : Nat} {f : Addr} {sem : List D → M D} (F : FnA P w K mg base G j f sem) (h : j ≤ k) : FnA P w K mg base G k f sem :=
  ⟨fun A fr s H us vs Q E hr => F.run A fr s H us vs Q E (hr.mono h), F.kp⟩
abbrev FnX (X : Cx) (G : Sg) (k : Nat) (f : Addr) (sem : List D → M D) : Prop := FnA X.prog X.w X.K X.mg X.base G k f sem
section
variable {G : Sg} {X : Cx} {W : WX} {k n : Nat} {f : Addr} {sem : List D → M D} {x : Str} {p pos apos : Pos} {e o : Expr} {es : List Expr} {fa : List SV → M (List D)} {σ : L2.St}
theorem run_fa {pins : List (Addr × Obj)} {H : Hp} {s : Shared} {Q : VK} {us : List Value} {vs : List V} (c : Ctx G X W k) (F : FnX X G k f sem) (I : Inv X pins σ H s) (r : Vals vs us)
    (h : spV G sem vs H Q (WE W σ)) : wpAny (model X.prog X.w) X.A (call (.ref f) us) (EP X pins σ Q) X.xe s := by
  have body := F.run X.A X.stack s H us vs Q (WE W σ) c.rm0 I.env0 r h
  refine wpAny_call (codeAny_mono body ?_)
  intro res s' hq
  rcases res with e | fl
  · exact c.px σ pins H s e s' I hq
  · cases fl with
    | ret u => exact I.after hq
    | next => exact hq.elim
    | brk => exact hq.elim
    | cont => exact hq.elim
theorem v_call (c : Ctx G X W k) (F : FnX X G k f sem) (hg : Gl X x) (hm : X.mg x = some (.ref f)) (ha : PLn G X W n (e :: es) fa) (hs : (e :: es).all notStar = true) (hd : (x == ("__debug__" : Str)) = false) :
    PV G X W (.Call (.Name x p) (e :: es) [] pos) (fun sd => M.bind (fa sd) sem) := by
  have hs2 : notStar e = true ∧ es.all notStar = true := by simpa using hs
  constructor
  intro pins s σ H Q I ⟨w0, w, sd, S, eH, r, q⟩
  refine wpAny_Call_Name_kw (ld_glob I hg hm ?_ hd)
  refine PySem.W.callWith_K (h₀ := X.base) I.ok.mod.kin F.kp (thn (ha.run pos pins s σ H (fun vs H1 => spV G sem vs H1 Q (WE W σ)) I ?_) ?_) (starEach_cons hs2.1) (starEach_all hs2.2 pos)
  · exact ⟨w0, w, sd, S, eH, r, fin_step q fun w1 S1 ds vs e1 s1 rv q1 => ⟨w1, ds, S1, rfl, s1, rv.1, q1⟩⟩
  · rintro us s1 ⟨vs, H1, I1, rv, q1⟩
    exact ⟨I1.kIn, run_fa c F I1 rv q1⟩
theorem v_call0 (c : Ctx G X W k) (F : FnX X G k f sem) (hg : Gl X x) (hm : X.mg x = some (.ref f)) (hd : (x == ("__debug__" : Str)) = false) : PV G X W (.Call (.Name x p) [] [] pos) (fun _ => sem []) := by
  constructor
  intro pins s σ H Q I ⟨w0, w, sd, S, eH, r, q⟩
  refine wpAny_Call_Name_kw (ld_glob I hg hm ?_ hd)
  exact PySem.W.callWith_K0 I.kIn F.kp (run_fa (us := []) c F I .nil ⟨w, [], S, eH, r.st, rfl, q⟩)
def insOf : Option Ob → Option Nat
  | some (.ins c _) => some c
  | _ => none
def clsOf (d : D) : M Nat := fun S => match d with
  | .ins c _ => some (.ok c, S)
  | .ref n => match insOf S[n]? with
    | some c => some (.ok c, S)
    | none => none
  | _ => none
theorem clsOf_rep {w : Wd} {S : List Ob} {d : D} {v : V} {c : Nat} {S' : List Ob} (s : RepS G w S) (r : RepV G w d v) (h : clsOf d S = some (.ok c, S')) : S' = S ∧ ∃ a dx vs, v = .ref a ∧ w.H a = some (.ins (G.ca c) dx ((G.fn c).zip vs)) := by
  unfold clsOf at h
  cases d with
  | ins c' ds =>
    simp only [Option.some.injEq, Prod.mk.injEq, Except.ok.injEq] at h
    obtain ⟨rfl, rfl⟩ := h
    obtain ⟨a, dx, vs, e1, _, h1, _⟩ := r
    exact ⟨rfl, a, dx, vs, e1, h1⟩
  | ref n =>
    obtain ⟨a, e1, h1⟩ := r
    rcases hn : S[n]? with _ | ⟨_ | _ | ⟨c', ds⟩⟩
    · simp [hn, insOf] at h
    · simp [hn, insOf] at h
    · simp [hn, insOf] at h
    · simp only [hn, insOf, Option.some.injEq, Prod.mk.injEq, Except.ok.injEq] at h
      obtain ⟨rfl, rfl⟩ := h
      obtain ⟨dx, vs, h2, _⟩ := s.ob n a _ h1 hn
      exact ⟨rfl, a, dx, vs, e1, h2⟩
  | _ => simp at h
theorem clsOf_noerr {d : D} {S S' : List Ob} {x : Exn} : clsOf d S ≠ some (.error x, S') := by
  intro h
  unfold clsOf at h
  split at h
  · simp at h
  · split at h <;> simp at h
  · simp at h
theorem lookup_zip_none {m : Str} : ∀ {fs : List Str} {vs : List V}, m ∉ fs → (fs.zip vs).lookup m = none
  | [], _, _ => rfl
  | _ :: _, [], _ => rfl
  | f :: fs, v :: vs, h => by
    have h1 : ¬ m = f := fun e => h (by rw [e]; exact List.mem_cons_self)
    rw [List.zip_cons_cons, List.lookup_cons]
    have hb : (m == f) = false := by simpa using h1
    rw [hb]
    exact lookup_zip_none fun z => h (List.mem_cons_of_mem _ z)
theorem lookup_zip_some {m : Str} : ∀ {fs : List Str} {vs : List V} {i : Nat} {v : V}, fs.Nodup → fs[i]? = some m → vs[i]? = some v → (fs.zip vs).lookup m = some v
  | [], _, _, _, _, h, _ => by simp at h
  | _ :: _, [], _, _, _, _, h => by simp at h
  | f :: fs, u :: vs, 0, v, _, h1, h2 => by
    simp at h1 h2
    subst h1 h2
    simp
  | f :: fs, u :: vs, i + 1, v, nd, h1, h2 => by
    have nd := List.nodup_cons.mp nd
    have hm : fs[i]? = some m := by simpa using h1
    have hne : (m == f) = false := by
      have : ¬ m = f := fun e => nd.1 (e ▸ List.mem_of_getElem? hm)
      simpa using this
    rw [List.zip_cons_cons, List.lookup_cons, hne]
    exact lookup_zip_some nd.2 hm (by simpa using h2)
structure MethT (X : Cx) (G : Sg) (k : Nat) (m : Str) (tbl : Nat → Option (List D → M D)) : Prop where
  at_ : ∀ c g, tbl c = some g → ∃ f, Cls X.K (G.ca c) ∧ Meth X.K (G.ca c) m f ∧ FnX X G k f g ∧ m ∉ G.fn c
def plainBase : Expr → Bool
  | .Call (.Name _ _) [] [] _ => false
  | _ => true
theorem attr_base {env : Env} {m : Str} {whole : Sem Value} (h : plainBase o = true) : attributeBase o m env whole = whole := by
  unfold attributeBase
  split
  · cases h
  · rfl
theorem star_form {env : Env} : ∀ {l : List Expr}, l.all notStar = true → (backTo pos (starEach l env)).all (fun y => !y.1) = true
  | [], _ => rfl
  | a :: l, h => by
    have h : notStar a = true ∧ l.all notStar = true := by simpa using h
    rw [starEach_cons h.1]
    show (true && (backTo pos (starEach l env)).all (fun y => !y.1)) = true
    rw [star_form h.2]
    rfl
theorem meth_tree {env : Env} {m : Str} {args : List Expr} (hb : plainBase o = true) (hs : args.all notStar = true) (hl : args.length < 30) (hp : (apos.endLine == pos.line) = true) :
    eval (.Call (.Attribute o m apos) args [] pos) env = (do
      let ov ← eval o env
      standAt apos.atName
      let (f, first) ← holding [ov] (getMethod ov m (do return (← importBound o env).getD true))
      callWith pos f first (backTo pos (starEach args env)) (backToKw pos (keywordEach [] env))) := by
  have e1 : eval (.Call (.Attribute o m apos) args [] pos) env = (do
      let ov ← attributeBase o m env (eval o env)
      standAt apos.atName
      methodCall o m apos pos env ov (args.length + ([] : List Keyword).length) (backTo pos (starEach args env)) (backToKw pos (keywordEach [] env))) := rfl
  have few : methodCallForm (args.length + ([] : List Keyword).length) (backTo pos (starEach args env)) (backToKw pos (keywordEach [] env)) = true := by
    unfold methodCallForm
    rw [star_form hs]
    show (true && true && decide (args.length + 0 + 0 < 30)) = true
    rw [decide_eq_true (by omega)]
    rfl
  rw [e1, attr_base hb]
  unfold methodCall
  rw [few]
  have mp : methodCallPos true o env apos pos = (pure pos : Sem Pos) := by
    unfold methodCallPos
    rw [hp]
    rfl
  rw [mp]
  rfl
def pick (tbl : Nat → Option (List D → M D)) (d : D) : M (List D → M D) := M.bind (clsOf d) fun c => match tbl c with
  | some g => M.pure g
  | none => M.stuck
theorem pick_fin {α β : Type} {rep : Wd → α → β → Prop} {W' : Value → Option Addr → Hp → Prop} {w : Wd} {Q : β → Hp → Prop} {S : List Ob} {tbl : Nat → Option (List D → M D)} {d : D} {k : (List D → M D) → M α} {v : V} (s : RepS G w S) (rd : RepV G w d v)
    (h : FinG G rep W' w Q (M.bind (pick tbl d) k S)) : ∃ c g, tbl c = some g ∧ FinG G rep W' w Q (k g S) ∧ clsOf d S = some (.ok c, S) ∧ ∃ a dx vs, v = .ref a ∧ w.H a = some (.ins (G.ca c) dx ((G.fn c).zip vs)) := by
  unfold pick M.bind at h
  rcases hc : clsOf d S with _ | ⟨x | c, S2⟩
  · rw [hc] at h; exact h.elim
  · exact absurd hc clsOf_noerr
  · obtain ⟨rfl, a, dx, vs, e1, h1⟩ := clsOf_rep s rd hc
    rw [hc] at h
    simp only at h
    rcases ht : tbl c with _ | g
    · rw [ht] at h; exact h.elim
    · rw [ht] at h
      exact ⟨c, g, ht, h, rfl, a, dx, vs, e1, h1⟩
theorem v_meth {m : Str} {tbl : Nat → Option (List D → M D)} {fo : List SV → M D} (c : Ctx G X W k) (T : MethT X G k m tbl) (ho : PV G X W o fo) (ha : PLn G X W n (e :: es) fa) (hs : (e :: es).all notStar = true) (hb : plainBase o = true) (hl : (e :: es).length < 30) (hp : (apos.endLine == pos.line) = true) :
    PV G X W (.Call (.Attribute o m apos) (e :: es) [] pos) (fun sd => M.bind (fo sd) fun d => M.bind (pick tbl d) fun g => M.bind (fa sd) fun ds => g (d :: ds)) := by
  constructor
  intro pins s σ H Q I ⟨w0, w, sd, S, eH, r, q⟩
  refine PySem.W.methodCall_KW (thn (ho.run pins s σ H (fun v H1 => ∃ w1 S1 d c g a dx vs, w1.H = H1 ∧ R G w0 w1 sd S1 σ ∧ RepV G w1 d v ∧ tbl c = some g ∧ v = .ref a ∧ w1.H a = some (.ins (G.ca c) dx ((G.fn c).zip vs)) ∧
      FinG G (RepV G) (fun c x H => W c x σ H) w1 Q (M.bind (fa sd) (fun ds => g (d :: ds)) S1)) I ?_) ?_) (meth_tree hb hs hl hp)
  · refine ⟨w0, w, sd, S, eH, r, fin_step q fun w1 S1 d v e1 s1 rv q1 => ?_⟩
    obtain ⟨c', g, ht, q2, _, a, dx, vs, ev, hv⟩ := pick_fin s1 rv q1
    exact ⟨w1, S1, d, c', g, a, dx, vs, rfl, r.step e1 s1, rv, ht, ev, hv, q2⟩
  · rintro u s1 ⟨v, H1, I1, rv, w1, S1, d, c', g, a, dx, vs, eH1, r1, rd, ht, ev, hv, q1⟩
    subst eH1 ev
    obtain rfl : u = Value.ref a := rv
    obtain ⟨f, cl, hm, F, nf⟩ := T.at_ c' g ht
    refine getmeth_ok I1 hv cl hm (lookup_zip_none nf) ?_
    have hs2 : notStar e = true ∧ es.all notStar = true := by simpa using hs
    refine PySem.W.callWith_K (first := [.ref a]) (h₀ := X.base) I.ok.mod.kin hm.kp (thn (ha.run pos pins s1 σ w1.H (fun xs H2 => spV G g (.ref a :: xs) H2 Q (WE W σ)) I1 ?_) ?_) (starEach_cons hs2.1) (starEach_all hs2.2 pos)
    · refine ⟨w0, w1, sd, S1, rfl, r1, fin_step q1 fun w2 S2 ds xs e2 s2 rx q2 => ?_⟩
      exact ⟨w2, d :: ds, S2, rfl, s2, ⟨_, _, rfl, RepV.mono e2 r1.st.dj _ _ rd, rx.1⟩, q2⟩
    · rintro us s2 ⟨xs, H2, I2, rx, q2⟩
      exact ⟨I2.kIn, run_fa (us := .ref a :: us) (vs := .ref a :: xs) c F I2 (.cons rfl rx) q2⟩
theorem v_meth0 {m : Str} {tbl : Nat → Option (List D → M D)} {fo : List SV → M D} (c : Ctx G X W k) (T : MethT X G k m tbl) (ho : PV G X W o fo) (hb : plainBase o = true) (hp : (apos.endLine == pos.line) = true) :
    PV G X W (.Call (.Attribute o m apos) [] [] pos) (fun sd => M.bind (fo sd) fun d => M.bind (pick tbl d) fun g => g [d]) := by
  constructor
  intro pins s σ H Q I ⟨w0, w, sd, S, eH, r, q⟩
  refine PySem.W.methodCall_KW (thn (ho.run pins s σ H (fun v H1 => ∃ w1 S1 d c g a dx vs, w1.H = H1 ∧ RepS G w1 S1 ∧ RepV G w1 d v ∧ tbl c = some g ∧ v = .ref a ∧ w1.H a = some (.ins (G.ca c) dx ((G.fn c).zip vs)) ∧
      FinG G (RepV G) (fun c x H => W c x σ H) w1 Q (g [d] S1)) I ?_) ?_) (meth_tree hb rfl (by decide) hp)
  · refine ⟨w0, w, sd, S, eH, r, fin_step q fun w1 S1 d v e1 s1 rv q1 => ?_⟩
    obtain ⟨c', g, ht, q2, _, a, dx, vs, ev, hv⟩ := pick_fin (k := fun g => g [d]) s1 rv q1
    exact ⟨w1, S1, d, c', g, a, dx, vs, rfl, s1, rv, ht, ev, hv, q2⟩
  · rintro u s1 ⟨v, H1, I1, rv, w1, S1, d, c', g, a, dx, vs, eH1, s1', rd, ht, ev, hv, q1⟩
    subst eH1 ev
    obtain rfl : u = Value.ref a := rv
    obtain ⟨f, cl, hm, F, nf⟩ := T.at_ c' g ht
    refine getmeth_ok I1 hv cl hm (lookup_zip_none nf) ?_
    exact PySem.W.callWith_K0 (first := [.ref a]) I1.kIn hm.kp (run_fa (us := [.ref a]) (vs := [.ref a]) c F I1 (.cons rfl .nil) ⟨w1, [d], S1, rfl, s1', ⟨_, _, rfl, rd, rfl⟩, q1⟩)
def fldsOf (d : D) : M (Nat × List D) := fun S => match d with
  | .ins c ds => some (.ok (c, ds), S)
  | .ref n => match S[n]? with
    | some (.ins c ds) => some (.ok (c, ds), S)
    | _ => none
  | _ => none
theorem fldsOf_rep {w : Wd} {S : List Ob} {d : D} {v : V} {c : Nat} {ds : List D} {S' : List Ob} (s : RepS G w S) (r : RepV G w d v) (h : fldsOf d S = some (.ok (c, ds), S')) :
    S' = S ∧ ∃ a dx vs, v = .ref a ∧ w.H a = some (.ins (G.ca c) dx ((G.fn c).zip vs)) ∧ RepVs G w ds vs := by
  unfold fldsOf at h
  cases d with
  | ins c' es =>
    simp only [Option.some.injEq, Prod.mk.injEq, Except.ok.injEq] at h
    obtain ⟨⟨rfl, rfl⟩, rfl⟩ := h
    obtain ⟨a, dx, vs, e1, _, h1, _, h3⟩ := r
    exact ⟨rfl, a, dx, vs, e1, h1, h3⟩
  | ref n =>
    obtain ⟨a, e1, h1⟩ := r
    rcases hn : S[n]? with _ | ⟨_ | _ | ⟨c', es⟩⟩
    · simp [hn] at h
    · simp [hn] at h
    · simp [hn] at h
    · simp only [hn, Option.some.injEq, Prod.mk.injEq, Except.ok.injEq] at h
      obtain ⟨⟨rfl, rfl⟩, rfl⟩ := h
      obtain ⟨dx, vs, h2, _, h3⟩ := s.ob n a _ h1 hn
      exact ⟨rfl, a, dx, vs, e1, h2, h3⟩
  | _ => simp at h
theorem fldsOf_noerr {d : D} {S S' : List Ob} {x : Exn} : fldsOf d S ≠ some (.error x, S') := by
  intro h
  unfold fldsOf at h
  split at h
  · simp at h
  · split at h <;> simp at h
  · simp at h
inductive At where
  | fld (i : Nat)
  | prop (g : List D → M D)
def noErr {α : Type} (f : M α) : M α := fun S => match f S with
  | some (.ok a, S') => some (.ok a, S')
  | _ => none
def attr (tbl : Nat → Option At) (d : D) : M D := M.bind (fldsOf d) fun cd => match tbl cd.1 with
  | some (.fld i) => match cd.2[i]? with
    | some x => M.pure x
    | none => M.stuck
  | some (.prop g) => noErr (g [d])
  | none => M.stuck
structure AttrT (X : Cx) (G : Sg) (k : Nat) (m : Str) (tbl : Nat → Option At) : Prop where
  fld : ∀ c i, tbl c = some (.fld i) → Cls X.K (G.ca c) ∧ NoAttr X.K (G.ca c) m ∧ (G.fn c).Nodup ∧ (G.fn c)[i]? = some m
  prop : ∀ c g, tbl c = some (.prop g) → ∃ p f, Cls X.K (G.ca c) ∧ PropOf X.K (G.ca c) m p f ∧ FnX X G k f g
theorem px_nox : PassS X.nox (fun _ _ _ _ => False) := fun σ pins H s e s' I c => by
  obtain ⟨_, _, _, _, _, _, _, _, _, _, _, _, z⟩ := c
  exact z.elim
theorem run_prop {pins : List (Addr × Obj)} {H : Hp} {s : Shared} {Q : VK} {b : Bool} {E' : Value → Shared → Prop} {a C dx p : Addr} {fs : List (Str × V)} {m : Str} (hr : Rm G.gd (k + 1) X.A) (I : Inv X pins σ H s) (ea : H a = some (.ins C dx fs)) (cl : Cls X.K C)
    (hp : PropOf X.K C m p f) (F : FnX X G k f sem) (h : spV G sem [.ref a] H Q (fun _ _ _ => False)) : wpAny (model X.prog X.w) X.A (getAttr (.ref a) m b) (EP X pins σ Q) E' s := by
  obtain ⟨mA, O, _, _, _, _⟩ := ins_get I.hok ea
  obtain ⟨od, J, _⟩ := O.look
  obtain ⟨rest, hrec⟩ := hp.rec_
  have I1 := I.tok (s.toks + 1)
  have hc : (PySem.W.clsIn X.K C).isSome = true := by
    obtain ⟨cd, hc, _⟩ := PySem.W.any_some cl.hd
    exact hc ▸ rfl
  have pg := PySem.W.plainGet_of (cl.get m)
  have body := F.run X.A.in1 X.stack { s with toks := s.toks + 1 } H [.ref a] [.ref a] Q (fun _ _ _ => False) hr.in1 I1.env0.in1 (.cons rfl .nil) h
  refine PySem.W.get_bind I.kIn J pg.1 (PySem.W.findObj_data hc hp.at_ hp.get hp.tak) pg.2 (wpAny_call (PySem.W.prop_get (s := { s with toks := s.toks + 1 }) I.kIn hrec (codeAny_mono body ?_)))
  intro res s' hq
  rcases res with er | fl
  · obtain ⟨_, _, _, _, _, _, _, _, _, _, _, _, z⟩ := hq
    exact z.elim
  · cases fl with
    | ret u =>
      obtain ⟨v, H', I3, rv, q3⟩ := I1.after hq
      show wpAny _ _ (handedOut u) _ _ _
      rw [PySem.W.handedOut_of (handed_of rv)]
      exact wpAny_pure ⟨v, H', I3, rv, q3⟩
    | next => exact hq.elim
    | brk => exact hq.elim
    | cont => exact hq.elim
theorem noErr_fin {W' W'' : Value → Option Addr → Hp → Prop} {α β : Type} {rep : Wd → α → β → Prop} {w : Wd} {Q : β → Hp → Prop} {S : List Ob} {g : M α} (h : FinG G rep W' w Q (noErr g S)) : FinG G rep W'' w Q (g S) := by
  unfold noErr at h
  rcases hg : g S with _ | ⟨x | a, S2⟩
  · rw [hg] at h; exact h.elim
  · rw [hg] at h; exact h.elim
  · rw [hg] at h; exact h
theorem v_attr {m : Str} {tbl : Nat → Option At} {fo : List SV → M D} (c : Ctx G X W k) (T : AttrT X G k m tbl) (ho : PV G X W o fo) (hb : plainBase o = true) : PV G X W (.Attribute o m pos) (fun sd => M.bind (fo sd) (attr tbl)) := by
  constructor
  intro pins s σ H Q I ⟨w0, w, sd, S, eH, r, q⟩
  refine attr_of (attr_base hb) (thn (ho.run pins s σ H (fun v H1 => ∃ w1 S1 d, w1.H = H1 ∧ RepS G w1 S1 ∧ RepV G w1 d v ∧ FinG G (RepV G) (fun c x H => W c x σ H) w1 Q (attr tbl d S1)) I ?_) ?_)
  · exact ⟨w0, w, sd, S, eH, r, fin_step q fun w1 S1 d v e1 s1 rv q1 => ⟨w1, S1, d, rfl, s1, rv, q1⟩⟩
  · rintro u s1 ⟨v, H1, I1, rv, w1, S1, d, eH1, s1', rd, q1⟩
    subst eH1
    unfold attr M.bind at q1
    rcases hc : fldsOf d S1 with _ | ⟨x | ⟨c', ds⟩, S2⟩
    · rw [hc] at q1; exact q1.elim
    · exact absurd hc fldsOf_noerr
    · obtain ⟨rfl, a, dx, vs, ev, hv, hds⟩ := fldsOf_rep s1' rd hc
      subst ev
      obtain rfl : u = Value.ref a := rv
      rw [hc] at q1
      simp only at q1
      rcases ht : tbl c' with _ | ⟨i | g⟩
      · rw [ht] at q1; exact q1.elim
      · rw [ht] at q1
        simp only at q1
        obtain ⟨cl, na, nd, hi⟩ := T.fld c' i ht
        rcases hx : ds[i]? with _ | y
        · rw [hx] at q1; exact q1.elim
        · rw [hx] at q1
          obtain ⟨z, hz, rz⟩ := hds.get hx
          refine getattr_ok I1 hv cl na (lookup_zip_some nd hi hz) fun u2 s2 I2 r2 => ?_
          exact ⟨z, w1.H, I2, r2, fin_pure q1 s1' rz⟩
      · rw [ht] at q1
        obtain ⟨p, f, cl, hp, F⟩ := T.prop c' g ht
        exact run_prop c.rm I1 hv cl hp F ⟨w1, [d], S2, rfl, s1', ⟨_, _, rfl, rd, rfl⟩, noErr_fin q1⟩
end
end Ev
set_option maxRecDepth 100000
set_option maxHeartbeats 2000000
namespace Ev
open PySem PySem.Spec PyProof.Rows L2
inductive Out where
  | next (sd : List SV) | ret (d : D) | brk (sd : List SV) | cont (sd : List SV) | err (e : Exn) (sd : List SV)
abbrev MS : Type := List SV → List Ob → Option (Out × List Ob)
def FinS (G : Sg) (W : WX) (w0 w : Wd) (D : Ends) : Option (Out × List Ob) → Prop
  | none => False
  | some (.next sd, S) => ∀ w' σ', Stay w w' → R G w0 w' sd S σ' → D.nx σ' w'.H
  | some (.ret d, S) => ∀ w' v, Ext w0 w' → RepS G w' S → RepV G w' d v → D.rt v w'.H
  | some (.brk sd, S) => ∀ w' σ', Stay w w' → R G w0 w' sd S σ' → D.bk σ' w'.H
  | some (.cont sd, S) => ∀ w' σ', Stay w w' → R G w0 w' sd S σ' → D.ct σ' w'.H
  | some (.err e sd, S) => ∀ w' σ' cls x, Stay w w' → R G w0 w' sd S σ' → RepX G w' e cls x → W cls x σ' w'.H
def tsV (G : Sg) (W : WX) (f : MS) : TS := fun D σ H => ∃ w0 w sd S, w.H = H ∧ R G w0 w sd S σ ∧ FinS G W w0 w D (f sd S)
abbrev PSV (G : Sg) (X : Cx) (W : WX) (st : Stmt) (f : MS) : Prop := PS X st (tsV G W f)
abbrev PSsV (G : Sg) (X : Cx) (W : WX) (st : List Stmt) (f : MS) : Prop := PSs X st (tsV G W f)
theorem FinS.stay {G : Sg} {W : WX} {w0 w w1 : Wd} {D : Ends} {r : Option (Out × List Ob)} (e : Stay w w1) (h : FinS G W w0 w D r) : FinS G W w0 w1 D r := by
  rcases r with _ | ⟨_ | _ | _ | _ | _, _⟩
  · exact h
  · exact fun w' σ' s => h w' σ' (e.trans s)
  · exact h
  · exact fun w' σ' s => h w' σ' (e.trans s)
  · exact fun w' σ' s => h w' σ' (e.trans s)
  · exact fun w' σ' c x s => h w' σ' c x (e.trans s)
def exS {α : Type} (f : List SV → M α) (k : α → MS) : MS := fun sd S => match f sd S with
  | none => none
  | some (.error e, S1) => some (.err e sd, S1)
  | some (.ok d, S1) => k d sd S1
def seqS (f g : MS) : MS := fun sd S => match f sd S with
  | some (.next sd', S') => g sd' S'
  | o => o
def nextS : MS := fun sd S => some (.next sd, S)
def stuckS : MS := fun _ _ => none
section
variable {G : Sg} {X : Cx} {W : WX} {k : Nat} {w0 w : Wd} {En : Ends}
theorem exS_step {α β : Type} {rep : Wd → α → β → Prop} {f : List SV → M α} {kk : α → MS} {sd : List SV} {S : List Ob} {σ : L2.St} {Q : β → Hp → Prop} (h : FinS G W w0 w En (exS f kk sd S)) (r : R G w0 w sd S σ)
    (c : ∀ w1 S1 d v, Ext w w1 → R G w0 w1 sd S1 σ → rep w1 d v → FinS G W w0 w1 En (kk d sd S1) → Q v w1.H) : FinG G rep (fun c x H => W c x σ H) w Q (f sd S) := by
  unfold exS at h
  rcases hf : f sd S with _ | ⟨_ | d, S1⟩
  · rw [hf] at h; exact h
  · rw [hf] at h
    exact fun w' cls x e s rx => h w' σ cls x (e.stay r.st.dj) (r.step e s) rx
  · rw [hf] at h
    exact fun w' v e s rv => c w' S1 d v e (r.step e s) rv (FinS.stay (e.stay r.st.dj) h)
theorem ss_nil : PSsV G X W [] nextS := by
  refine PSs.imp pss_nil fun D σ H h => ?_
  obtain ⟨w0, w, sd, S, e, r, q⟩ := h
  subst e
  exact q w σ (Stay.refl w) r
theorem ss_cons {st : Stmt} {rest : List Stmt} {f g : MS} (h1 : PSV G X W st f) (h2 : PSsV G X W rest g) : PSsV G X W (st :: rest) (seqS f g) := by
  refine PSs.imp (pss_cons h1 h2) fun D σ H h => ?_
  obtain ⟨w0, w, sd, S, e, r, q⟩ := h
  refine ⟨w0, w, sd, S, e, r, ?_⟩
  unfold seqS at q
  rcases hf : f sd S with _ | ⟨_ | _ | _ | _ | _, S1⟩
  · rw [hf] at q; exact q
  · rw [hf] at q
    exact fun w' σ' s r' => ⟨w0, w', _, S1, rfl, r', FinS.stay s q⟩
  · rw [hf] at q; exact q
  · rw [hf] at q; exact q
  · rw [hf] at q; exact q
  · rw [hf] at q; exact q
theorem ss_never {sts : List Stmt} : PSsV G X W sts stuckS := ⟨fun _ _ _ _ _ _ ⟨_, _, _, _, _, _, q⟩ => q.elim⟩
theorem s_never {st : Stmt} : PSV G X W st stuckS := ⟨fun _ _ _ _ _ _ ⟨_, _, _, _, _, _, q⟩ => q.elim⟩
theorem s_pass {pos : Pos} : PSV G X W (.Pass pos) nextS := by
  refine PS.imp ps_pass fun D σ H h => ?_
  obtain ⟨w0, w, sd, S, e, r, q⟩ := h
  subst e
  exact q w σ (Stay.refl w) r
theorem s_cont {pos : Pos} : PSV G X W (.Continue pos) (fun sd S => some (.cont sd, S)) := by
  refine PS.imp ps_continue fun D σ H h => ?_
  obtain ⟨w0, w, sd, S, e, r, q⟩ := h
  subst e
  exact q w σ (Stay.refl w) r
theorem s_brk {pos : Pos} : PSV G X W (.Break pos) (fun sd S => some (.brk sd, S)) := by
  refine PS.imp ps_break fun D σ H h => ?_
  obtain ⟨w0, w, sd, S, e, r, q⟩ := h
  subst e
  exact q w σ (Stay.refl w) r
def retS (f : List SV → M D) : MS := exS f fun d _ S => some (.ret d, S)
theorem s_ret {e : Expr} {f : List SV → M D} {pos : Pos} (h : PV G X W e f) : PSV G X W (.Return (some e) pos) (retS f) := by
  refine PS.imp (ps_ret h) fun D σ H q => ?_
  obtain ⟨w0, w, sd, S, e, r, q⟩ := q
  exact ⟨w0, w, sd, S, e, r, exS_step q r fun w1 S1 d v _ r1 rv q1 => q1 w1 v r1.ex r1.st rv⟩
theorem s_retN {pos : Pos} : PSV G X W (.Return none pos) (fun _ S => some (.ret .non, S)) := by
  refine PS.imp ps_retN fun D σ H h => ?_
  obtain ⟨w0, w, sd, S, e, r, q⟩ := h
  subst e
  exact q w .non r.ex r.st rfl
def swapFree : Expr → Bool
  | .ListComp .. | .SetComp .. | .DictComp .. => false
  | _ => true
theorem swap_free {e : Expr} {t : Option Expr} {l : Nat} {env : Env} (h : swapFree e = true) : swapsWith e t l env = pure false := by
  cases e <;> first | rfl | cases h
theorem s_expr {e : Expr} {f : List SV → M D} {pos : Pos} (h : PV G X W e f) (hs : swapFree e = true) : PSV G X W (.Expr e pos) (exS f fun _ => nextS) := by
  refine PS.imp (ps_expr h (swap_free hs)) fun D σ H q => ?_
  obtain ⟨w0, w, sd, S, e, r, q⟩ := q
  exact ⟨w0, w, sd, S, e, r, exS_step q r fun w1 S1 d v _ r1 rv q1 => q1 w1 σ (Stay.refl w1) r1⟩
theorem s_if {c : Expr} {a b : List Stmt} {fc : List SV → M Bool} {fa fb : MS} {pos : Pos} (hc : PB G X W c fc) (ha : PSsV G X W a fa) (hb : PSsV G X W b fb) :
    PSV G X W (.If c a b pos) (exS fc fun k => if k = true then fa else fb) := by
  refine PS.imp (ps_if hc ha hb) fun D σ H q => ?_
  obtain ⟨w0, w, sd, S, e, r, q⟩ := q
  refine ⟨w0, w, sd, S, e, r, exS_step q r fun w1 S1 d v _ r1 rv q1 => ?_⟩
  cases (show v = d from rv)
  cases d with
  | true => exact ⟨w0, w1, sd, S1, rfl, r1, q1⟩
  | false => exact ⟨w0, w1, sd, S1, rfl, r1, q1⟩
theorem R.setv {sd : List SV} {S : List Ob} {σ : L2.St} {d : D} {v : V} (r : R G w0 w sd S σ) (rv : RepV G w d v) (i : Nat) : R G w0 w (sd.set i (.val d)) S (σ.set i (some v)) := by
  have key : ∀ {j : Nat} {x : SV}, (sd.set i (.val d))[j]? = some x → (j = i ∧ i < sd.length ∧ x = .val d) ∨ (j ≠ i ∧ sd[j]? = some x) := fun {j x} h => by
    by_cases e : i = j
    · subst e
      by_cases l : i < sd.length
      · rw [List.getElem?_set_self l] at h
        cases h
        exact .inl ⟨rfl, l, rfl⟩
      · rw [List.getElem?_eq_none (by simpa using l)] at h
        cases h
    · rw [List.getElem?_set_ne e] at h
      exact .inr ⟨fun z => e z.symm, h⟩
  refine ⟨r.ex, r.st, by rw [List.length_set, List.length_set]; exact r.ln, fun j x h => ?_, fun j o h => ?_, fun j1 j2 o o' a h1 h2 h3 h4 => ?_, fun a o e h => by
    rcases key h with ⟨_, _, e⟩ | ⟨ne, h⟩
    · cases e
    · rw [List.getElem?_set_ne (fun z => ne z.symm)]
      exact r.sf a o e h⟩
  · rcases key h with ⟨rfl, l, e⟩ | ⟨ne, h⟩
    · cases e
      exact ⟨v, List.getElem?_set_self (by rw [r.ln]; exact l), rv⟩
    · rw [List.getElem?_set_ne (fun z => ne z.symm)]
      exact r.vl j x h
  · rcases key h with ⟨_, _, e⟩ | ⟨ne, h⟩
    · cases e
    · rw [List.getElem?_set_ne (fun z => ne z.symm)]
      exact r.ow j o h
  · rcases key h1 with ⟨_, _, e⟩ | ⟨n1, h1⟩
    · cases e
    · rcases key h2 with ⟨_, _, e⟩ | ⟨n2, h2⟩
      · cases e
      · rw [List.getElem?_set_ne (fun z => n1 z.symm)] at h3
        rw [List.getElem?_set_ne (fun z => n2 z.symm)] at h4
        exact r.ap j1 j2 o o' a h1 h2 h3 h4
abbrev Tgt : Type := D → List SV → List Ob → Option (List SV × List Ob)
abbrev Tgts : Type := List D → List SV → List Ob → Option (List SV × List Ob)
def FinT (G : Sg) (w0 w : Wd) (σ : L2.St) (ts : List Nat) (Q : L2.St → Hp → Prop) : Option (List SV × List Ob) → Prop
  | none => False
  | some (sd, S) => ∀ w' σ', Stay w w' → R G w0 w' sd S σ' → (∀ i, i ∉ ts → σ'[i]? = σ[i]?) → Q σ' w'.H
def tgV (G : Sg) (ts : List Nat) (f : Tgt) : TG := fun v σ H Q => ∃ w0 w sd S d, w.H = H ∧ R G w0 w sd S σ ∧ RepV G w d v ∧ FinT G w0 w σ ts Q (f d sd S)
def tgsV (G : Sg) (ts : List Nat) (n : Nat) (f : Tgts) : TGs := fun vs σ H Q => ∃ w0 w sd S ds, w.H = H ∧ R G w0 w sd S σ ∧ RepVs G w ds vs ∧ ds.length = n ∧ FinT G w0 w σ ts Q (f ds sd S)
abbrev PGV (G : Sg) (X : Cx) (ts : List Nat) (t : Expr) (f : Tgt) : Prop := PG X t (tgV G ts f)
abbrev PGsV (G : Sg) (X : Cx) (ts : List Nat) (n : Nat) (t : List Expr) (f : Tgts) : Prop := PGs X t (tgsV G ts n f)
theorem PG.imp {t : Expr} {g g' : TG} (h : PG X t g) (i : ∀ v σ H Q, g' v σ H Q → g v σ H Q) : PG X t g' := ⟨fun p s σ H v u Q I r q => h.run p s σ H v u Q I r (i _ _ _ _ q)⟩
theorem PGs.imp {t : List Expr} {g g' : TGs} (h : PGs X t g) (i : ∀ v σ H Q, g' v σ H Q → g v σ H Q) : PGs X t g' := ⟨fun p s σ H v u Q I r q => h.run p s σ H v u Q I r (i _ _ _ _ q)⟩
theorem PG.or {t : Expr} {g g' : TG} (h : PG X t g) (h' : PG X t g') : PG X t (fun v σ H Q => g v σ H Q ∨ g' v σ H Q) := ⟨fun p s σ H v u Q I r q => q.elim (h.run p s σ H v u Q I r) (h'.run p s σ H v u Q I r)⟩
def setT (i : Nat) : Tgt := fun d sd S => some (sd.set i (.val d), S)
theorem g_name {i : Nat} {x : Str} {pos : Pos} (hN : X.N.Nodup) (hi : X.N[i]? = some x) (hx : Loc X.env.scope x) (hf : X.fn x = true ∨ X.env.scope.names.lookup x = some .local) : PGV G X [i] (.Name x pos) (setT i) := by
  refine PG.imp (pg_name hN hi hx hf) fun v σ H Q q => ?_
  obtain ⟨w0, w, sd, S, d, e, r, rv, q⟩ := q
  subst e
  refine q w (σ.set i (some v)) (Stay.refl w) (r.setv rv i) fun j hj => ?_
  rw [List.getElem?_set_ne (fun z => hj (by rw [z]; exact List.mem_cons_self))]
theorem gs_nil : PGsV G X [] 0 [] (fun _ sd S => some (sd, S)) := by
  refine PGs.imp pgs_nil fun vs σ H Q q => ?_
  obtain ⟨w0, w, sd, S, ds, e, r, rv, hl, q⟩ := q
  subst e
  have ed : ds = [] := List.eq_nil_of_length_eq_zero hl
  subst ed
  exact ⟨rv, q w σ (Stay.refl w) r fun _ _ => rfl⟩
def consT (f : Tgt) (g : Tgts) : Tgts := fun ds sd S => match ds with
  | [] => none
  | d :: ds => match f d sd S with
    | none => none
    | some (sd1, S1) => g ds sd1 S1
def notStarT : Expr → Bool
  | .Starred _ _ => false
  | _ => true
theorem assignEach_cons {e : Expr} {es : List Expr} {env : Env} (h : notStar e = true) : assignEach (e :: es) env = (false, assign e env) :: assignEach es env := by
  cases e <;> first | rfl | cases h
theorem gs_cons {ts us : List Nat} {n : Nat} {e : Expr} {es : List Expr} {f : Tgt} {g : Tgts} (h1 : PGV G X ts e f) (h2 : PGsV G X us n es g) (hs : notStar e = true) : PGsV G X (ts ++ us) (n + 1) (e :: es) (consT f g) := by
  refine PGs.imp (pgs_cons h1 h2 (by rw [assignEach_cons hs]; rfl)) fun vs σ H Q q => ?_
  obtain ⟨w0, w, sd, S, ds, e, r, rv, hl, q⟩ := q
  subst e
  cases ds with
  | nil => exact q.elim
  | cons d ds =>
    obtain ⟨v, vr, ev, rd, rr⟩ := rv
    refine ⟨v, vr, ev, w0, w, sd, S, d, rfl, r, rd, ?_⟩
    unfold consT at q
    simp only at q
    rcases hf : f d sd S with _ | ⟨sd1, S1⟩
    · rw [hf] at q; exact q
    · rw [hf] at q
      simp only at q
      intro w1 σ1 s1 r1 k1
      refine ⟨w0, w1, sd1, S1, ds, rfl, r1, RepVs.stay s1 _ _ rr, by simpa using hl, ?_⟩
      rcases hg : g ds sd1 S1 with _ | ⟨sd2, S2⟩
      · rw [hg] at q; exact q
      · rw [hg] at q
        intro w2 σ2 s2 r2 k2
        refine q w2 σ2 (s1.trans s2) r2 fun i hi => ?_
        rw [k2 i (fun z => hi (List.mem_append_right _ z)), k1 i (fun z => hi (List.mem_append_left _ z))]
def tupT (n : Nat) (g : Tgts) : Tgt := fun d sd S => match d with
  | .tup ds => if ds.length = n then g ds sd S else none
  | .lst ds => if ds.length = n then g ds sd S else none
  | _ => none
theorem assignEach_len {env : Env} : ∀ {es : List Expr}, es.all notStar = true → (assignEach es env).length = es.length ∧ (assignEach es env).findIdx? (·.1) = none
  | [], _ => ⟨rfl, rfl⟩
  | e :: es, h => by
    have h : notStar e = true ∧ es.all notStar = true := by simpa using h
    obtain ⟨h1, h2⟩ := assignEach_len (env := env) h.2
    rw [assignEach_cons h.1]
    refine ⟨by rw [List.length_cons, List.length_cons, h1], ?_⟩
    rw [List.findIdx?_cons]
    show (if false = true then _ else _) = none
    rw [if_neg Bool.false_ne_true, h2]
    rfl
theorem g_tup {ts : List Nat} {es : List Expr} {j n : Nat} {g : Tgts} {pos : Pos} (cK : G.K = X.K) (hc : X.calm = true) (h : PGsV G X ts n es g) (hs : es.all notStar = true) (hn : es.length = n) : PGV G X ts (.Tuple es j pos) (tupT n g) := by
  have hl := assignEach_len (env := X.env) hs
  refine PG.imp (PG.or (pg_tup hc h (hl.1.trans hn) hl.2) (pg_lst hc h (hl.1.trans hn) hl.2)) fun v σ H Q q => ?_
  obtain ⟨w0, w, sd, S, d, e, r, rv, q⟩ := q
  subst e
  cases d with
  | tup ds =>
    obtain ⟨a, vs, ev, ha, rs⟩ := rv
    by_cases hd : ds.length = n
    · simp only [tupT, if_pos hd] at q
      exact .inl ⟨a, vs, ev, sqT_of cK ha, by rw [← rs.length]; exact hd, w0, w, sd, S, ds, rfl, r, rs, hd, q⟩
    · simp only [tupT, if_neg hd] at q
      exact q.elim
  | lst ds =>
    obtain ⟨a, vs, ev, fa, ha, rs⟩ := rv
    by_cases hd : ds.length = n
    · simp only [tupT, if_pos hd] at q
      exact .inr ⟨a, vs, ev, .of ha, by rw [← rs.length]; exact hd, w0, w, sd, S, ds, rfl, r, rs, hd, q⟩
    · simp only [tupT, if_neg hd] at q
      exact q.elim
  | _ => exact q.elim
def asgS (f : List SV → M D) (t : Tgt) : MS := exS f fun d sd S => match t d sd S with
  | some (sd', S') => some (.next sd', S')
  | none => none
theorem asg_fin {ts : List Nat} {t : Tgt} {d : D} {sd : List SV} {S : List Ob} {σ : L2.St} {v : V} (q : FinS G W w0 w En (match t d sd S with | some (sd', S') => some (.next sd', S') | none => none)) (r : R G w0 w sd S σ) (rv : RepV G w d v) : tgV G ts t v σ w.H En.nx := by
  refine ⟨w0, w, sd, S, d, rfl, r, rv, ?_⟩
  rcases ht : t d sd S with _ | ⟨sd1, S1⟩
  · rw [ht] at q; exact q
  · rw [ht] at q
    exact fun w' σ' s r' _ => q w' σ' s r'
theorem s_asg {ts : List Nat} {tg e : Expr} {f : List SV → M D} {t : Tgt} {pos : Pos} (he : PV G X W e f) (hg : PGV G X ts tg t) (hs : swapsWithSole [tg] e pos.line X.env = pure false) (hw : swappedStores [tg] e X.env = pure none) (hst : notStar tg = true) :
    PSV G X W (.Assign [tg] e pos) (asgS f t) := by
  refine PS.imp (ps_asg he hg hs hw (by rw [assignEach_cons hst]; rfl)) fun D σ H q => ?_
  obtain ⟨w0, w, sd, S, e, r, q⟩ := q
  exact ⟨w0, w, sd, S, e, r, exS_step q r fun w1 S1 d v e1 r1 rv q1 => asg_fin q1 r1 rv⟩
theorem s_set {i : Nat} {x : Str} {e : Expr} {f : List SV → M D} {pos pos' : Pos} (c : Ctx G X W k) (hi : X.N[i]? = some x) (hx : Loc X.env.scope x) (he : PV G X W e f) (hs : swapFree e = true) (hf : X.fn x = true ∨ X.env.scope.names.lookup x = some .local) :
    PSV G X W (.Assign [.Name x pos'] e pos) (asgS f (setT i)) := by
  refine PS.imp (ps_set c.nd hi hx he (swap_free hs) hf) fun D σ H q => ?_
  obtain ⟨w0, w, sd, S, e, r, q⟩ := q
  exact ⟨w0, w, sd, S, e, r, exS_step q r fun w1 S1 d v e1 r1 rv q1 => q1 w1 (σ.set i (some v)) (Stay.refl w1) (r1.setv rv i)⟩
def parS (i j : Nat) (f : List SV → M (List D)) : MS := exS f fun ds sd S => match ds with
  | [a, b] => some (.next ((sd.set i (.val a)).set j (.val b)), S)
  | _ => none
theorem s_par {n i j : Nat} {x y : Str} {a b : Expr} {f : List SV → M (List D)} {px py pt pos : Pos} {kt k2 : Nat} {pt2 : Pos} (c : Ctx G X W k) (hi : X.N[i]? = some x) (hj : X.N[j]? = some y) (hij : i ≠ j)
    (hx : X.env.scope.names.lookup x = some .local) (hy : X.env.scope.names.lookup y = some .local) (ha : PLn G X W n [a, b] f) (hw : swappedStores [.Tuple [.Name x px, .Name y py] kt pt] (.Tuple [a, b] k2 pt2) X.env = pure (some [x, y])) :
    PSV G X W (.Assign [.Tuple [.Name x px, .Name y py] kt pt] (.Tuple [a, b] k2 pt2) pos) (parS i j f) := by
  refine PS.imp (ps_par c.calm c.nd hi hj hij hx hy ha hw rfl) fun D σ H q => ?_
  obtain ⟨w0, w, sd, S, e, r, q⟩ := q
  refine ⟨w0, w, sd, S, e, r, exS_step q r fun w1 S1 ds vs e1 r1 rv q1 => ?_⟩
  rcases ds with _ | ⟨d1, _ | ⟨d2, _ | ⟨d3, ds⟩⟩⟩
  · exact q1.elim
  · exact q1.elim
  · obtain ⟨⟨v1, t1, e1, h1, v2, t2, e2, h2, e3⟩, _⟩ := rv
    subst e1 e2
    cases (show t2 = [] from e3)
    exact ⟨v1, v2, rfl, q1 w1 _ (Stay.refl w1) ((r1.setv h1 i).setv h2 j)⟩
  · exact q1.elim
end
end Ev
set_option maxRecDepth 100000
set_option maxHeartbeats 2000000
namespace Ev
open PySem PySem.Spec PyProof.Rows L2
structure Yld (G : Sg) (w : Wd) (ds : List D) (J : It) : Prop where
  stop : ∀ w' i, Stay w w' → ds.length ≤ i → J.stop i w'.H
  go : ∀ w' i, Stay w w' → i < ds.length → J.go i w'.H
  yld : ∀ w' i d x H' S, Stay w w' → RepS G w' S → ds[i]? = some d → J.yld i w'.H x H' → ∃ w'', w''.H = H' ∧ Ext w' w'' ∧ RepS G w'' S ∧ RepV G w'' d x
abbrev PIV (G : Sg) (X : Cx) (W : WX) (tg iter : Expr) (f : List SV → M (List D)) : Prop := PI X tg iter (fun σ H Rr => teG G (Yld G) W f σ H Rr)
theorem PI.imp {X : Cx} {t e : Expr} {g g' : TI} (h : PI X t e g) (i : ∀ σ H Q, g' σ H Q → g σ H Q) : PI X t e g' := ⟨fun p s σ H R I q => h.run p s σ H R I (i _ _ _ q)⟩
def seqOf : D → M (List D)
  | .lst ds => M.pure ds
  | .tup ds => M.pure ds
  | .scr ds => M.pure ds
  | _ => M.stuck
section
variable {G : Sg} {X : Cx} {W : WX} {k : Nat} {w : Wd}
theorem RepVs.get_len {ds : List D} {vs : List V} (h : RepVs G w ds vs) {i : Nat} : i < ds.length → ∃ v, vs[i]? = some v := fun hi => by
  obtain ⟨v, e, _⟩ := h.get (List.getElem?_eq_getElem hi)
  exact ⟨v, e⟩
theorem yld_list (cK : G.K = X.K) {ds : List D} {vs : List V} {a : Addr} (h : RdF w a (.lst vs) ∨ KLst G.K a vs) (r : RepVs G w ds vs) : Yld G w ds (Itl X.K a) := by
  have sq : ∀ w', Stay w w' → SqL X.K w'.H a vs := fun w' s => sqL_of cK (h.imp (fun z => z.stay s) id)
  refine ⟨fun w' i s hi => ⟨vs, sq w' s, by rw [← r.length]; exact hi⟩, fun w' i s hi => ?_, fun w' i d x H' S s st hd hy => ?_⟩
  · obtain ⟨v, e⟩ := r.get_len hi
    exact ⟨vs, v, sq w' s, e⟩
  · obtain ⟨e, hx⟩ := hy
    obtain ⟨v, ev, rv⟩ := r.get hd
    have := hx vs (sq w' s)
    rw [ev] at this
    cases this
    exact ⟨w', e.symm, Ext.refl _, st, RepV.stay s _ _ rv⟩
theorem yld_tup (cK : G.K = X.K) {ds : List D} {vs : List V} {a : Addr} (h : RdF w a (.tup vs) ∨ KTup G.K a vs) (r : RepVs G w ds vs) : Yld G w ds (Itt X.K a) := by
  have sq : ∀ w', Stay w w' → SqT X.K w'.H a vs := fun w' s => sqT_of cK (h.imp (fun z => z.stay s) id)
  refine ⟨fun w' i s hi => ⟨vs, sq w' s, by rw [← r.length]; exact hi⟩, fun w' i s hi => ?_, fun w' i d x H' S s st hd hy => ?_⟩
  · obtain ⟨v, e⟩ := r.get_len hi
    exact ⟨vs, v, sq w' s, e⟩
  · obtain ⟨e, hx⟩ := hy
    obtain ⟨v, ev, rv⟩ := r.get hd
    have := hx vs (sq w' s)
    rw [ev] at this
    cases this
    exact ⟨w', e.symm, Ext.refl _, st, RepV.stay s _ _ rv⟩
theorem PI.or {t e : Expr} {g g' : TI} (h : PI X t e g) (h' : PI X t e g') : PI X t e (fun σ H Q => g σ H Q ∨ g' σ H Q) := ⟨fun p s σ H R I q => q.elim (h.run p s σ H R I) (h'.run p s σ H R I)⟩
theorem RdF.list_ex {a : Addr} {vs : List V} (cK : G.K = X.K) (h : RdF w a (.lst vs) ∨ KLst G.K a vs) : ∃ xs, SqL X.K w.H a xs := ⟨vs, sqL_of cK h⟩
theorem i_seq {tg e : Expr} {f : List SV → M D} (c : Ctx G X W k) (he : PV G X W e f) : PIV G X W tg e (fun sd => M.bind (f sd) seqOf) := by
  refine PI.imp (PI.or (pi_list he) (pi_tup he)) fun σ H Q q => ?_
  obtain ⟨w0, w, sd, S, e, r, q⟩ := q
  rcases hf : f sd S with _ | ⟨x | d, S1⟩
  · simp only [M.bind, hf] at q; exact q.elim
  · refine .inl ⟨w0, w, sd, S, e, r, ?_⟩
    simp only [M.bind, hf] at q
    rw [hf]
    exact q
  · simp only [M.bind, hf] at q
    cases d with
    | lst ds =>
      refine .inl ⟨w0, w, sd, S, e, r, ?_⟩
      rw [hf]
      intro w' v e1 s1 rv
      obtain ⟨a, vs, ev, fa, ha, rs⟩ := rv
      have hh : RdF w' a (.lst vs) ∨ KLst G.K a vs := .inl ⟨fa, .inl ha⟩
      exact ⟨a, ev, ⟨vs, sqL_of c.cK hh⟩, q w' _ e1 s1 (yld_list c.cK hh rs)⟩
    | scr ds =>
      refine .inl ⟨w0, w, sd, S, e, r, ?_⟩
      rw [hf]
      intro w' v e1 s1 rv
      obtain ⟨a, vs, ev, hh, rs⟩ := rv
      exact ⟨a, ev, ⟨vs, sqL_of c.cK hh⟩, q w' _ e1 s1 (yld_list c.cK hh rs)⟩
    | tup ds =>
      refine .inr ⟨w0, w, sd, S, e, r, ?_⟩
      rw [hf]
      intro w' v e1 s1 rv
      obtain ⟨a, vs, ev, hh, rs⟩ := rv
      exact ⟨a, ev, ⟨vs, sqT_of c.cK hh⟩, q w' _ e1 s1 (yld_tup c.cK hh rs)⟩
    | _ => exact q.elim
def rngD (lo : Int) (n : Nat) : List D := (List.range n).map fun i => .int (lo + (i : Nat))
theorem yld_rng {lo : Int} {n : Nat} : Yld G w (rngD lo n) (Itr lo n) := by
  have hl : (rngD lo n).length = n := by unfold rngD; rw [List.length_map, List.length_range]
  refine ⟨fun w' i s hi => by rw [hl] at hi; exact hi, fun w' i s hi => by rw [hl] at hi; exact hi, fun w' i d x H' S s st hd hy => ?_⟩
  obtain ⟨e1, e2⟩ := hy
  refine ⟨w', e1.symm, Ext.refl _, st, ?_⟩
  unfold rngD at hd
  rw [List.getElem?_map] at hd
  rcases hr : (List.range n)[i]? with _ | j
  · rw [hr] at hd; cases hd
  · rw [hr] at hd
    have hj : i = j := by
      have h2 := List.getElem?_eq_some_iff.mp hr
      obtain ⟨h3, h4⟩ := h2
      rw [List.getElem_range] at h4
      exact h4
    cases hd
    rw [hj] at e2
    exact e2
def rng1 : List D → M (List D)
  | [.int j] => if -(2 ^ 62) ≤ j ∧ j < 2 ^ 62 then M.pure (rngD 0 j.toNat) else M.stuck
  | _ => M.stuck
def rng2 : List D → M (List D)
  | [.int i, .int j] => if (-(2 ^ 62) ≤ i ∧ i < 2 ^ 62) ∧ -(2 ^ 62) ≤ j ∧ j < 2 ^ 62 then M.pure (rngD i (j - i).toNat) else M.stuck
  | _ => M.stuck
theorem FinG.ite' {α β : Type} {rep : Wd → α → β → Prop} {W : Value → Option Addr → Hp → Prop} {w : Wd} {Q : β → Hp → Prop} {c : Prop} [Decidable c] {f : M α} {S : List Ob} (h : FinG G rep W w Q ((if c then f else M.stuck) S)) : c ∧ FinG G rep W w Q (f S) := FinG.ite h
theorem i_rng1 {tg a : Expr} {n : Nat} {f : List SV → M (List D)} {p pos : Pos} (hg : Gl X "range") (hm : X.mg "range" = none) (ha : PLn G X W n [a] f) (hs : notStar a = true) : PIV G X W tg (.Call (.Name "range" p) [a] [] pos) (fun sd => M.bind (f sd) rng1) := by
  refine PI.imp (pi_range1 hg hm ha (starEach_cons hs)) fun σ H Q q => ?_
  obtain ⟨w0, w, sd, S, e, r, q⟩ := q
  refine ⟨w0, w, sd, S, e, r, fin_step q fun w1 S1 ds vs e1 s1 rv q1 => ?_⟩
  rcases ds with _ | ⟨d, _ | ⟨d2, ds⟩⟩
  · exact q1.elim
  · cases d with
    | int j =>
      obtain ⟨v, t, ev, h1, h2⟩ := rv.1
      cases (show t = [] from h2)
      cases (show v = .int j from h1)
      obtain ⟨⟨c1, c2⟩, q1⟩ := FinG.ite q1
      exact ⟨j, ev, c1, c2, fin_pure q1 s1 yld_rng⟩
    | _ => exact q1.elim
  · cases d <;> exact q1.elim
theorem i_rng2 {tg a b : Expr} {n : Nat} {f : List SV → M (List D)} {p pos : Pos} (hg : Gl X "range") (hm : X.mg "range" = none) (ha : PLn G X W n [a, b] f) (hs : notStar a = true) (hs2 : notStar b = true) :
    PIV G X W tg (.Call (.Name "range" p) [a, b] [] pos) (fun sd => M.bind (f sd) rng2) := by
  refine PI.imp (pi_range2 hg hm ha (by rw [starEach_cons hs, starEach_cons hs2]; rfl) (by rw [starEach_cons hs2]; rfl)) fun σ H Q q => ?_
  obtain ⟨w0, w, sd, S, e, r, q⟩ := q
  refine ⟨w0, w, sd, S, e, r, fin_step q fun w1 S1 ds vs e1 s1 rv q1 => ?_⟩
  rcases ds with _ | ⟨d, _ | ⟨d2, _ | ⟨d3, ds⟩⟩⟩
  · exact q1.elim
  · cases d <;> exact q1.elim
  · cases d with
    | int i =>
      cases d2 with
      | int j =>
        obtain ⟨v, t, ev, h1, v2, t2, ev2, h2, h3⟩ := rv.1
        cases (show t2 = [] from h3)
        cases (show v = .int i from h1)
        cases (show v2 = .int j from h2)
        obtain ⟨⟨⟨c1, c2⟩, c3, c4⟩, q1⟩ := FinG.ite q1
        exact ⟨i, j, by rw [ev, ev2], ⟨c1, c2, c3, c4⟩, fin_pure q1 s1 yld_rng⟩
      | _ => exact q1.elim
    | _ => exact q1.elim
  · cases d <;> cases d2 <;> exact q1.elim
def loopS (t : Tgt) (body : MS) : List D → MS
  | [] => nextS
  | d :: ds => fun sd S => match t d sd S with
    | none => none
    | some (sd1, S1) => match body sd1 S1 with
      | some (.next sd2, S2) => loopS t body ds sd2 S2
      | some (.cont sd2, S2) => loopS t body ds sd2 S2
      | some (.brk sd2, S2) => some (.next sd2, S2)
      | o => o
def forS (f : List SV → M (List D)) (t : Tgt) (body : MS) : MS := exS f (loopS t body)
def setFree : Expr → Bool
  | .Set .. => false
  | _ => true
theorem set_free {e : Expr} {env : Env} (h : setFree e = true) : ∀ x, foldedSetIterable e env x = pure x := by
  intro x
  cases e <;> first | rfl | cases h
theorem drop_cons {α : Type} {l : List α} {i : Nat} (h : i < l.length) : ∃ d, l[i]? = some d ∧ l.drop i = d :: l.drop (i + 1) := ⟨l[i], List.getElem?_eq_getElem h, List.drop_eq_getElem_cons h⟩
theorem s_for {ts : List Nat} {tg iter : Expr} {body : List Stmt} {f : List SV → M (List D)} {t : Tgt} {fb : MS} {pos : Pos} (c : Ctx G X W k) (hi : PIV G X W tg iter f) (hg : PGV G X ts tg t) (hb : PSsV G X W body fb) (hs : setFree iter = true) :
    PSV G X W (.For tg iter body [] pos) (forS f t fb) := by
  refine PS.imp (ps_for c.po c.calm hi hg hb (set_free hs)) fun En σ H q => ?_
  obtain ⟨w0, w, sd, S, e, r, q⟩ := q
  refine ⟨w0, w, sd, S, e, r, exS_step q r fun w1 S1 ds J e1 r1 Y q1 => ?_⟩
  refine ⟨fun i m σ H => m = ds.length - i ∧ i ≤ ds.length ∧ ∃ w sd S, w.H = H ∧ Stay w1 w ∧ R G w0 w sd S σ ∧ FinS G W w0 w En (loopS t fb (ds.drop i) sd S), ⟨_, rfl, Nat.zero_le _, w1, sd, S1, rfl, Stay.refl _, r1, q1⟩, ?_⟩
  rintro i m σ2 H2 ⟨rfl, hi2, w2, sd2, S2, rfl, st2, r2, q2⟩
  by_cases hlt : i < ds.length
  · obtain ⟨d, hd, hdr⟩ := drop_cons hlt
    rw [hdr] at q2
    refine .inr ⟨Y.go w2 i st2 hlt, _, fun σ' H' hN => ⟨ds.length - (i + 1), by omega, hN⟩, fun x H' hy => ?_⟩
    obtain ⟨w3, rfl, e3, s3, rx⟩ := Y.yld w2 i d x H' S2 st2 r2.st hd hy
    have r3 := r2.step e3 s3
    refine ⟨w0, w3, sd2, S2, d, rfl, r3, rx, ?_⟩
    unfold loopS at q2
    rcases ht : t d sd2 S2 with _ | ⟨sd4, S4⟩
    · rw [ht] at q2; exact q2
    · rw [ht] at q2
      simp only at q2
      intro w4 σ4 st4 r4 _
      refine ⟨w0, w4, sd4, S4, rfl, r4, ?_⟩
      have st24 : Stay w2 w4 := (e3.stay r2.st.dj).trans st4
      rcases hb : fb sd4 S4 with _ | ⟨_ | _ | _ | _ | _, S5⟩
      · rw [hb] at q2; exact q2
      · rw [hb] at q2
        exact fun w5 σ5 st5 r5 => ⟨rfl, hlt, w5, _, S5, rfl, st2.trans (st24.trans st5), r5, FinS.stay (st24.trans st5) q2⟩
      · rw [hb] at q2; exact q2
      · rw [hb] at q2
        exact fun w5 σ5 st5 r5 => q2 w5 σ5 (st24.trans st5) r5
      · rw [hb] at q2
        exact fun w5 σ5 st5 r5 => ⟨rfl, hlt, w5, _, S5, rfl, st2.trans (st24.trans st5), r5, FinS.stay (st24.trans st5) q2⟩
      · rw [hb] at q2
        exact fun w5 σ5 cl y st5 r5 => q2 w5 σ5 cl y (st24.trans st5) r5
  · have e : i = ds.length := by omega
    subst e
    rw [List.drop_length] at q2
    exact .inl ⟨Y.stop w2 _ st2 (Nat.le_refl _), q2 w2 σ2 (Stay.refl _) r2⟩
def iterS (c : List SV → M Bool) (body : MS) : Nat → MS
  | 0 => stuckS
  | n + 1 => exS c fun b => if b = true then (fun sd S => match body sd S with
      | some (.next sd2, S2) => iterS c body n sd2 S2
      | some (.cont sd2, S2) => iterS c body n sd2 S2
      | some (.brk sd2, S2) => some (.next sd2, S2)
      | o => o) else nextS
def bigW : Nat := 2 ^ 64
def whileS (c : List SV → M Bool) (body : MS) : MS := iterS c body bigW
theorem s_while {cond : Expr} {body : List Stmt} {f : List SV → M Bool} {fb : MS} {pos : Pos} (c : Ctx G X W k) (hc : PB G X W cond f) (hb : PSsV G X W body fb) : PSV G X W (.While cond body [] pos) (whileS f fb) := by
  refine PS.imp (ps_while c.po hc hb) fun En σ H q => ?_
  obtain ⟨w0, w, sd, S, e, r, q⟩ := q
  refine ⟨fun m σ H => ∃ w sd S, w.H = H ∧ R G w0 w sd S σ ∧ FinS G W w0 w En (iterS f fb m sd S), ⟨bigW, w, sd, S, e, r, q⟩, ?_⟩
  rintro m σ1 H1 ⟨w1, sd1, S1, rfl, r1, q1⟩
  cases m with
  | zero => exact q1.elim
  | succ m =>
    unfold iterS at q1
    refine ⟨w0, w1, sd1, S1, rfl, r1, exS_step q1 r1 fun w2 S2 d v e2 r2 rv q2 => ?_⟩
    cases (show v = d from rv)
    cases d with
    | false => exact q2 w2 σ1 (Stay.refl _) r2
    | true =>
      refine ⟨_, fun σ' H' hN => ⟨m, Nat.lt_succ_self _, hN⟩, w0, w2, sd1, S2, rfl, r2, ?_⟩
      have q2 : FinS G W w0 w2 En (match fb sd1 S2 with
        | some (.next sd2, S2) => iterS f fb m sd2 S2
        | some (.cont sd2, S2) => iterS f fb m sd2 S2
        | some (.brk sd2, S2) => some (.next sd2, S2)
        | o => o) := q2
      rcases hb : fb sd1 S2 with _ | ⟨_ | _ | _ | _ | _, S5⟩
      · rw [hb] at q2; exact q2
      · rw [hb] at q2
        exact fun w5 σ5 st5 r5 => ⟨w5, _, S5, rfl, r5, FinS.stay st5 q2⟩
      · rw [hb] at q2; exact q2
      · rw [hb] at q2
        exact fun w5 σ5 st5 r5 => q2 w5 σ5 st5 r5
      · rw [hb] at q2
        exact fun w5 σ5 st5 r5 => ⟨w5, _, S5, rfl, r5, FinS.stay st5 q2⟩
      · rw [hb] at q2
        exact fun w5 σ5 cl y st5 r5 => q2 w5 σ5 cl y st5 r5
end
end Ev
set_option maxRecDepth 100000
set_option maxHeartbeats 2000000
namespace Ev
open PySem PySem.Spec PyProof.Rows L2
def Wd.wr (w : Wd) (p : Addr) (o : HO) : Wd := ⟨w.m, w.F, upd w.H p o, w.x⟩
def Wd.fz (w : Wd) (p : Addr) : Wd := ⟨w.m, fun a => w.F a ∨ a = p, w.H, w.x⟩
section
variable {G : Sg} {w w1 : Wd} {S : List Ob} {p : Addr} {o : HO}
theorem Stay.wr (h : ¬ w.F p) : Stay w (w.wr p o) := ⟨⟨[], by simp [Wd.wr]⟩, fun _ z => z, fun a u f z => by
  show upd w.H p o a = some u
  rw [upd_ne (fun e => h (by rw [← e]; exact f))]; exact z⟩
theorem RepS.wr (s : RepS G w S) (hf : ¬ w.F p) (hm : p ∉ w.m) : RepS G (w.wr p o) S := by
  refine ⟨s.len, s.nd, s.dj, fun a h => ?_, fun n a u h1 h2 => ?_⟩
  · show upd w.H p o a ≠ none
    rw [upd_ne (fun e => hf (by rw [← e]; exact h))]
    exact s.fh a h
  · have ne : a ≠ p := fun z => hm (z ▸ List.mem_of_getElem? h1)
    exact RepO.to (upd_ne ne) (Stay.wr hf) (s.ob n a u h1 h2)
theorem Ext.wr (e : Ext w1 w) (hp : w1.H p = none) : Ext w1 (w.wr p o) := by
  refine ⟨e.m, e.F, fun b u hm h => ?_, e.nm, e.nF, fun b h => ?_⟩
  · show upd w.H p o b = some u
    rw [upd_ne (fun z => by rw [z, hp] at h; cases h)]
    exact e.H b u hm h
  · have h : upd w.H p o b = none := h
    by_cases z : b = p
    · rw [z]; exact hp
    · rw [upd_ne z] at h
      exact e.al b h
theorem Stay.fz : Stay w (w.fz p) := ⟨⟨[], by simp [Wd.fz]⟩, fun _ z => .inl z, fun _ _ _ z => z⟩
theorem RepS.fz (s : RepS G w S) (hm : p ∉ w.m) (hh : w.H p ≠ none) : RepS G (w.fz p) S := by
  refine ⟨s.len, s.nd, fun a h => ?_, fun a h => ?_, fun n a u h1 h2 => RepO.to (w := w) (w' := w.fz p) rfl Stay.fz (s.ob n a u h1 h2)⟩
  · rcases h with h | h
    · exact s.dj a h
    · rw [h]; exact hm
  · rcases h with h | h
    · exact s.fh a h
    · rw [h]; exact hh
theorem Ext.fz (e : Ext w1 w) (hp : w1.H p = none) : Ext w1 (w.fz p) := by
  refine ⟨e.m, fun a h => .inl (e.F a h), e.H, e.nm, fun b h => ?_, e.al⟩
  rcases h with h | h
  · exact e.nF b h
  · exact .inr (h ▸ hp)
end
abbrev TgP : Type := D → List SV → Option (List SV)
abbrev TgPs : Type := List D → List SV → Option (List SV)
def FinP (G : Sg) (w0 w : Wd) (S : List Ob) (σ : L2.St) (ts : List Nat) (Q : L2.St → Hp → Prop) : Option (List SV) → Prop
  | none => False
  | some sd => ∀ σ', R G w0 w sd S σ' → (∀ i, i ∉ ts → σ'[i]? = σ[i]?) → σ'.length = σ.length → Q σ' w.H
def tgP (G : Sg) (ts : List Nat) (f : TgP) : TG := fun v σ H Q => ∃ w0 w sd S d, w.H = H ∧ R G w0 w sd S σ ∧ RepV G w d v ∧ FinP G w0 w S σ ts Q (f d sd)
def tgPs (G : Sg) (ts : List Nat) (n : Nat) (f : TgPs) : TGs := fun vs σ H Q => ∃ w0 w sd S ds, w.H = H ∧ R G w0 w sd S σ ∧ RepVs G w ds vs ∧ ds.length = n ∧ FinP G w0 w S σ ts Q (f ds sd)
abbrev PGP (G : Sg) (X : Cx) (ts : List Nat) (t : Expr) (f : TgP) : Prop := PG X t (tgP G ts f)
abbrev PGPs (G : Sg) (X : Cx) (ts : List Nat) (n : Nat) (t : List Expr) (f : TgPs) : Prop := PGs X t (tgPs G ts n f)
def nmP (i : Nat) : TgP := fun d sd => some (sd.set i (.val d))
def consP (f : TgP) (g : TgPs) : TgPs := fun ds sd => match ds with
  | [] => none
  | d :: ds => match f d sd with
    | none => none
    | some sd1 => g ds sd1
def tupP (n : Nat) (g : TgPs) : TgP := fun d sd => match d with
  | .tup ds => if ds.length = n then g ds sd else none
  | .lst ds => if ds.length = n then g ds sd else none
  | _ => none
section
variable {G : Sg} {X : Cx} {W : WX} {k : Nat} {w0 w : Wd}
theorem p_name {i : Nat} {x : Str} {pos : Pos} (hN : X.N.Nodup) (hi : X.N[i]? = some x) (hx : Loc X.env.scope x) (hf : X.fn x = true ∨ X.env.scope.names.lookup x = some .local) : PGP G X [i] (.Name x pos) (nmP i) := by
  refine PG.imp (pg_name hN hi hx hf) fun v σ H Q q => ?_
  obtain ⟨w0, w, sd, S, d, e, r, rv, q⟩ := q
  subst e
  refine q (σ.set i (some v)) (r.setv rv i) (fun j hj => ?_) (List.length_set ..)
  rw [List.getElem?_set_ne (fun z => hj (by rw [z]; exact List.mem_cons_self))]
theorem ps_nilP : PGPs G X [] 0 [] (fun _ sd => some sd) := by
  refine PGs.imp pgs_nil fun vs σ H Q q => ?_
  obtain ⟨w0, w, sd, S, ds, e, r, rv, hl, q⟩ := q
  subst e
  have ed : ds = [] := List.eq_nil_of_length_eq_zero hl
  subst ed
  exact ⟨rv, q σ r (fun _ _ => rfl) rfl⟩
theorem ps_consP {ts us : List Nat} {n : Nat} {e : Expr} {es : List Expr} {f : TgP} {g : TgPs} (h1 : PGP G X ts e f) (h2 : PGPs G X us n es g) (hs : notStar e = true) : PGPs G X (ts ++ us) (n + 1) (e :: es) (consP f g) := by
  refine PGs.imp (pgs_cons h1 h2 (by rw [assignEach_cons hs]; rfl)) fun vs σ H Q q => ?_
  obtain ⟨w0, w, sd, S, ds, e, r, rv, hl, q⟩ := q
  subst e
  cases ds with
  | nil => exact q.elim
  | cons d ds =>
    obtain ⟨v, vr, ev, rd, rr⟩ := rv
    refine ⟨v, vr, ev, w0, w, sd, S, d, rfl, r, rd, ?_⟩
    unfold consP at q
    simp only at q
    rcases hf : f d sd with _ | sd1
    · rw [hf] at q; exact q
    · rw [hf] at q
      simp only at q
      intro σ1 r1 k1 l1
      refine ⟨w0, w, sd1, S, ds, rfl, r1, rr, by simpa using hl, ?_⟩
      rcases hg : g ds sd1 with _ | sd2
      · rw [hg] at q; exact q
      · rw [hg] at q
        intro σ2 r2 k2 l2
        refine q σ2 r2 (fun i hi => ?_) (l2.trans l1)
        rw [k2 i (fun z => hi (List.mem_append_right _ z)), k1 i (fun z => hi (List.mem_append_left _ z))]
theorem p_tup {ts : List Nat} {es : List Expr} {j n : Nat} {g : TgPs} {pos : Pos} (cK : G.K = X.K) (hc : X.calm = true) (h : PGPs G X ts n es g) (hs : es.all notStar = true) (hn : es.length = n) : PGP G X ts (.Tuple es j pos) (tupP n g) := by
  have hl := assignEach_len (env := X.env) hs
  refine PG.imp (PG.or (pg_tup hc h (hl.1.trans hn) hl.2) (pg_lst hc h (hl.1.trans hn) hl.2)) fun v σ H Q q => ?_
  obtain ⟨w0, w, sd, S, d, e, r, rv, q⟩ := q
  subst e
  cases d with
  | tup ds =>
    obtain ⟨a, vs, ev, ha, rs⟩ := rv
    by_cases hd : ds.length = n
    · simp only [tupP, if_pos hd] at q
      exact .inl ⟨a, vs, ev, sqT_of cK ha, by rw [← rs.length]; exact hd, w0, w, sd, S, ds, rfl, r, rs, hd, q⟩
    · simp only [tupP, if_neg hd] at q
      exact q.elim
  | lst ds =>
    obtain ⟨a, vs, ev, fa, ha, rs⟩ := rv
    by_cases hd : ds.length = n
    · simp only [tupP, if_pos hd] at q
      exact .inr ⟨a, vs, ev, .of ha, by rw [← rs.length]; exact hd, w0, w, sd, S, ds, rfl, r, rs, hd, q⟩
    · simp only [tupP, if_neg hd] at q
      exact q.elim
  | _ => exact q.elim
def upT (f : TgP) : Tgt := fun d sd S => match f d sd with
  | none => none
  | some sd' => some (sd', S)
theorem PGP.up {ts : List Nat} {t : Expr} {f : TgP} (h : PGP G X ts t f) : PGV G X ts t (upT f) := by
  refine PG.imp h fun v σ H Q q => ?_
  obtain ⟨w0, w, sd, S, d, e, r, rv, q⟩ := q
  refine ⟨w0, w, sd, S, d, e, r, rv, ?_⟩
  unfold upT at q
  rcases hf : f d sd with _ | sd1
  · rw [hf] at q; exact q
  · rw [hf] at q
    exact fun σ' r' k' _ => q w σ' (Stay.refl w) r' k'
def wipeD (sd : List SV) : List Nat → List SV
  | [] => sd
  | v :: vs => (wipeD sd vs).set v .no
theorem R.setno {sd : List SV} {S : List Ob} {σ : L2.St} (r : R G w0 w sd S σ) (i : Nat) : R G w0 w (sd.set i .no) S (σ.set i none) := by
  have key : ∀ {j : Nat} {x : SV}, (sd.set i .no)[j]? = some x → x ≠ .no → j ≠ i ∧ sd[j]? = some x := fun {j x} h hx => by
    by_cases e : i = j
    · subst e
      by_cases l : i < sd.length
      · rw [List.getElem?_set_self l] at h
        cases h
        exact absurd rfl hx
      · rw [List.getElem?_eq_none (by simpa using l)] at h
        cases h
    · rw [List.getElem?_set_ne e] at h
      exact ⟨fun z => e z.symm, h⟩
  refine ⟨r.ex, r.st, by rw [List.length_set, List.length_set]; exact r.ln, fun j x h => ?_, fun j o h => ?_, fun j1 j2 o o' a h1 h2 h3 h4 => ?_, fun a o e h => by
    obtain ⟨ne, h⟩ := key h (fun z => nomatch z)
    rw [List.getElem?_set_ne (fun z => ne z.symm)]
    exact r.sf a o e h⟩
  · obtain ⟨ne, h⟩ := key h (fun z => nomatch z)
    rw [List.getElem?_set_ne (fun z => ne z.symm)]
    exact r.vl j x h
  · obtain ⟨ne, h⟩ := key h (fun z => nomatch z)
    rw [List.getElem?_set_ne (fun z => ne z.symm)]
    exact r.ow j o h
  · obtain ⟨n1, h1⟩ := key h1 (fun z => nomatch z)
    obtain ⟨n2, h2⟩ := key h2 (fun z => nomatch z)
    rw [List.getElem?_set_ne (fun z => n1 z.symm)] at h3
    rw [List.getElem?_set_ne (fun z => n2 z.symm)] at h4
    exact r.ap j1 j2 o o' a h1 h2 h3 h4
theorem R.wipe {sd : List SV} {S : List Ob} {σ : L2.St} (r : R G w0 w sd S σ) : ∀ vs : List Nat, R G w0 w (wipeD sd vs) S (wipe σ vs)
  | [] => r
  | v :: vs => (R.wipe r vs).setno v
theorem wipe_get (σ : L2.St) : ∀ (vs : List Nat) (j : Nat), (wipe σ vs)[j]? = if j ∈ vs then (if j < σ.length then some none else none) else σ[j]?
  | [], j => by simp [wipe]
  | v :: vs, j => by
    unfold wipe
    by_cases e : v = j
    · subst e
      rw [if_pos List.mem_cons_self]
      by_cases l : v < σ.length
      · rw [List.getElem?_set_self (by rw [wipe_length]; exact l), if_pos l]
      · rw [List.getElem?_eq_none (by rw [List.length_set, wipe_length]; omega), if_neg l]
    · rw [List.getElem?_set_ne e, wipe_get σ vs j]
      have : (j ∈ v :: vs) ↔ j ∈ vs := by simp [Ne.symm e, eq_comm, show ¬ j = v from fun z => e z.symm]
      by_cases hj : j ∈ vs
      · rw [if_pos hj, if_pos (this.mpr hj)]
      · rw [if_neg hj, if_neg (fun z => hj (this.mp z))]
theorem wipe_same {σ σ' : L2.St} {ts vs : List Nat} (h : ∀ i, i ∉ ts → σ'[i]? = (wipe σ vs)[i]?) (hl : σ'.length = (wipe σ vs).length) (hs : ∀ i ∈ ts, i ∈ vs) : wipe σ' vs = wipe σ vs := by
  refine List.ext_getElem? fun j => ?_
  rw [wipe_get σ' vs j, hl, wipe_length]
  by_cases hj : j ∈ vs
  · rw [if_pos hj, wipe_get σ vs j, if_pos hj]
  · rw [if_neg hj]
    exact h j fun z => hj (hs j z)
theorem fin_split {α β γ δ : Type} {G : Sg} {rep : Wd → α → β → Prop} {rep' : Wd → γ → δ → Prop} {W W' : Value → Option Addr → Hp → Prop} {wA wB : Wd} {Q : β → Hp → Prop} {Q' : δ → Hp → Prop} {f : M α} {k : α → M γ} {S : List Ob}
    (h : FinG G rep' W wA Q' (M.bind (noErr f) k S)) (c : ∀ w' S1 d v, Ext wB w' → RepS G w' S1 → rep w' d v → FinG G rep' W wA Q' (k d S1) → Q v w'.H) : FinG G rep W' wB Q (f S) := by
  unfold M.bind noErr at h
  rcases hf : f S with _ | ⟨_ | d, S1⟩
  · rw [hf] at h; exact h.elim
  · rw [hf] at h; exact h.elim
  · rw [hf] at h
    exact fun w' v e s r => c w' S1 d v e s r h
abbrev NoW : WX := fun _ _ _ _ => False
def compS (t : TgP) (tt : List SV → M Bool) (fe : List SV → M D) (sdw : List SV) : List D → List D → M (List D)
  | [], acc => M.pure acc
  | d :: ds, acc => match t d sdw with
    | none => M.stuck
    | some sd1 => M.bind (noErr (tt sd1)) fun b => if b = true then M.bind (noErr (fe sd1)) fun y => if acc.length < lim then compS t tt fe sdw ds (acc ++ [y]) else M.stuck else compS t tt fe sdw ds acc
def lcS (fi : List SV → M (List D)) (vs : List Nat) (t : TgP) (tt : List SV → M Bool) (fe : List SV → M D) : List SV → M D := fun sd => M.bind (fi sd) fun ds => M.bind (compS t tt fe (wipeD sd vs) ds []) fun acc => M.pure (.lst acc)
abbrev PTsV (G : Sg) (X : Cx) (W : WX) (es : List Expr) (f : List SV → M Bool) : Prop := PTs X es (teB G W f)
theorem PTs.imp {X : Cx} {e : List Expr} {t t' : TT} (h : PTs X e t) (i : ∀ σ H Q, t' σ H Q → t σ H Q) : PTs X e t' := ⟨fun p s σ H Q I q => h.run p s σ H Q I (i σ H Q q)⟩
theorem t_nil : PTsV G X W [] (fun _ => M.pure true) := by
  refine PTs.imp pts_nil fun σ H Q h => ?_
  obtain ⟨w0, w, sd, S, e, r, q⟩ := h
  subst e
  exact fin_pure q r.st rfl
theorem t_one {c : Expr} {f : List SV → M Bool} (h : PB G X W c f) : PTsV G X W [c] f := pts_one h
theorem lc_read {fi : List SV → M (List D)} {ts vs : List Nat} {t : TgP} {tt : List SV → M Bool} {fe : List SV → M D} (hts : ∀ i ∈ ts, i ∈ vs) {σ : L2.St} {H : Hp} {Q : VK} (h : teV G W (lcS fi vs t tt fe) σ H Q) :
    tLc (fun σ H Rr => teG G (Yld G) W fi σ H Rr) (tgP G ts t) (teB G NoW tt) (teV G NoW fe) vs σ H Q := by
  obtain ⟨w0, w, sd, S, e, r, q⟩ := h
  refine ⟨w0, w, sd, S, e, r, fin_step q fun w1 S1 ds J e1 s1 Y q1 => ?_⟩
  intro L hL
  have r1 := (r.step e1 s1).wipe vs
  have dj1 := s1.dj
  refine ⟨fun i m H => m = ds.length - i ∧ i ≤ ds.length ∧ ∃ w2 S2 acc xs, w2.H = H ∧ Ext w1 w2 ∧ RepS G w2 S2 ∧ w2.H L = some (.lst xs) ∧ RepVs G w2 acc xs ∧ ¬ w2.F L ∧ L ∉ w2.m ∧
    FinG G (RepV G) (fun c x H => W c x σ H) w1 Q (M.bind (compS t tt fe (wipeD sd vs) (ds.drop i) acc) (fun acc => M.pure (.lst acc)) S2),
    ⟨_, rfl, Nat.zero_le _, w1.new L (.lst []), S1, [], [], rfl, Ext.new hL, s1.new hL, upd_same, rfl, fun z => s1.fh L z hL, fun z => s1.there z hL, q1⟩, ?_⟩
  rintro i m H2 ⟨rfl, hi2, w2, S2, acc, xs, rfl, e2, s2, hx2, ra, nF, nm, q2⟩
  by_cases hlt : i < ds.length
  · obtain ⟨d, hd, hdr⟩ := drop_cons hlt
    rw [hdr] at q2
    have st2 := e2.stay dj1
    refine .inr ⟨Y.go w2 i st2 hlt, _, fun H' hN => ⟨ds.length - (i + 1), by omega, hN⟩, fun x H' hy => ?_⟩
    obtain ⟨w3, rfl, e3, s3, rx⟩ := Y.yld w2 i d x H' S2 st2 s2 hd hy
    have r3 := r1.step (e2.trans e3) s3
    refine ⟨w0, w3, _, S2, d, rfl, r3, rx, ?_⟩
    unfold compS at q2
    rcases ht : t d (wipeD sd vs) with _ | sd4
    · rw [ht] at q2; exact q2.elim
    · rw [ht] at q2
      simp only at q2
      intro σ4 r4 k4 l4
      refine ⟨wipe_same k4 l4 hts, ?_⟩
      rw [M.bind_assoc] at q2
      refine ⟨w0, w3, sd4, S2, rfl, r4, ?_⟩
      refine fin_split q2 fun w5 S5 b b' e5 s5 rb q5 => ?_
      cases (show b' = b from rb)
      have hx : ∀ {wz : Wd}, Ext w3 wz → wz.H L = some (.lst xs) ∧ RepVs G wz acc xs ∧ ¬ wz.F L ∧ L ∉ wz.m := fun {wz} ez => by
        have e23 := e3.trans ez
        refine ⟨e23.H L _ nm hx2, RepVs.mono e23 s2.dj _ _ ra, fun z => ?_, fun z => ?_⟩
        · rcases e23.nF L z with z | z
          · exact nF z
          · rw [hx2] at z; cases z
        · rcases e23.nm L z with z | z
          · exact nm z
          · rw [hx2] at z; cases z
      cases b with
      | false =>
        obtain ⟨h1, h2, h3, h4⟩ := hx e5
        exact ⟨rfl, hlt, w5, S5, acc, xs, rfl, e2.trans (e3.trans e5), s5, h1, h2, h3, h4, q5⟩
      | true =>
        have q5 : FinG G (RepV G) (fun c x H => W c x σ H) w1 Q (M.bind (M.bind (noErr (fe sd4)) fun y => if acc.length < lim then compS t tt fe (wipeD sd vs) (ds.drop (i + 1)) (acc ++ [y]) else M.stuck) (fun acc => M.pure (.lst acc)) S5) := q5
        rw [M.bind_assoc] at q5
        refine ⟨w0, w5, sd4, S5, rfl, r4.step e5 s5, fin_split q5 fun w6 S6 y v e6 s6 ry q6 => ?_⟩
        obtain ⟨h1, h2, h3, h4⟩ := hx (e5.trans e6)
        rw [M.bind_ite] at q6
        obtain ⟨c6, q6⟩ := FinG.ite q6
        have e16 : Ext w1 w6 := e2.trans (e3.trans (e5.trans e6))
        refine ⟨xs, h1, by rw [← h2.length, ← lim_eq]; exact c6, rfl, hlt, w6.wr L (.lst (xs ++ [v])), S6, acc ++ [y], xs ++ [v], rfl, Ext.wr e16 hL, s6.wr h3 h4, upd_same, ?_, h3, h4, q6⟩
        exact RepVs.append (RepVs.stay (Stay.wr h3) _ _ h2) (RepVs.one (RepV.stay (Stay.wr h3) _ _ ry))
  · have e : i = ds.length := by omega
    subst e
    rw [List.drop_length] at q2
    refine .inl ⟨Y.stop w2 _ (e2.stay dj1) (Nat.le_refl _), ?_⟩
    refine q2 (w2.fz L) _ (Ext.fz e2 hL) (s2.fz nm (by rw [hx2]; exact fun z => nomatch z)) ⟨L, xs, rfl, .inr rfl, hx2, RepVs.stay Stay.fz _ _ ra⟩
theorem v_lc {elt tg iter : Expr} {ifs : List Expr} {scope : Scope} {own : List (Str × Nat)} {pos : Pos} {fi : List SV → M (List D)} {ts : List Nat} {t : TgP} {tt : List SV → M Bool} {fe : List SV → M D} (c : Ctx G X W k) (hi : PIV G X W tg iter fi) (ok : BlkOk X.N X.env.scope scope own)
    (hg : ∀ (s : Shared) (H : Hp) (C : Addr) (cl : List (Str × Addr)) (fp : List Addr), PGP G (X.blk s H scope (compEnvC scope cl C X.env) fp) ts tg t) (ht : ∀ (s : Shared) (H : Hp) (C : Addr) (cl : List (Str × Addr)) (fp : List Addr), PTsV G (X.blk s H scope (compEnvC scope cl C X.env) fp) NoW ifs tt)
    (he : ∀ (s : Shared) (H : Hp) (C : Addr) (cl : List (Str × Addr)) (fp : List Addr), PV G (X.blk s H scope (compEnvC scope cl C X.env) fp) NoW elt fe) (hs : setFree iter = true) (hts : ∀ i ∈ ts, i ∈ own.map (·.2)) :
    PV G X W (.ListComp elt [⟨tg, iter, ifs, 0⟩] scope pos) (lcS fi (own.map (·.2)) t tt fe) :=
  PE.imp (pe_lc c.calm c.nd hi ok hg ht he (set_free hs)) fun σ H Q h => lc_read hts h
theorem s_lc {i : Nat} {y : Str} {py : Pos} {elt tg iter : Expr} {ifs : List Expr} {scope : Scope} {own : List (Str × Nat)} {pos spos : Pos} {fi : List SV → M (List D)} {ts : List Nat} {t : TgP} {tt : List SV → M Bool} {fe : List SV → M D} (c : Ctx G X W k) (hy : X.N[i]? = some y) (hyl : X.env.scope.names.lookup y = some .local)
    (hsw : swapsWith (.ListComp elt [⟨tg, iter, ifs, 0⟩] scope pos) (some (.Name y py)) spos.line X.env = pure true) (hi : PIV G X W tg iter fi) (ok : BlkOk X.N X.env.scope scope own)
    (hg : ∀ (s : Shared) (H : Hp) (C : Addr) (cl : List (Str × Addr)) (fp : List Addr), PGP G (X.blk s H scope (compEnvC scope cl C X.env) fp) ts tg t) (ht : ∀ (s : Shared) (H : Hp) (C : Addr) (cl : List (Str × Addr)) (fp : List Addr), PTsV G (X.blk s H scope (compEnvC scope cl C X.env) fp) NoW ifs tt)
    (he : ∀ (s : Shared) (H : Hp) (C : Addr) (cl : List (Str × Addr)) (fp : List Addr), PV G (X.blk s H scope (compEnvC scope cl C X.env) fp) NoW elt fe) (hs : setFree iter = true) (hts : ∀ i ∈ ts, i ∈ own.map (·.2)) :
    PSV G X W (.Assign [.Name y py] (.ListComp elt [⟨tg, iter, ifs, 0⟩] scope pos) spos) (asgS (lcS fi (own.map (·.2)) t tt fe) (setT i)) := by
  refine PS.imp (ps_setLc c.calm c.nd hy hyl hsw hi ok hg ht he (set_free hs)) fun En σ H h => ?_
  obtain ⟨w0, w, sd, S, e, r, q⟩ := h
  refine lc_read (W := W) (G := G) hts (Q := fun x H1 => En.nx (σ.set i (some x)) H1) ⟨w0, w, sd, S, e, r, exS_step q r fun w1 S1 d v e1 r1 rv q1 => ?_⟩
  exact q1 w1 (σ.set i (some v)) (Stay.refl w1) (r1.setv rv i)
theorem Ctx.blk (c : Ctx G X W k) (s : Shared) (H : Hp) (scope : Scope) (cenv : Env) (fp : List Addr) : Ctx G (X.blk s H scope cenv fp) NoW k :=
  ⟨c.cK, c.calm, c.rm, c.nd, fun σ pins H s e s' I c => by
    obtain ⟨_, _, _, _, _, _, _, _, _, _, _, _, z⟩ := c
    exact z.elim, PassesOwn.never⟩
end
end Ev
set_option maxRecDepth 100000
set_option maxHeartbeats 2000000
namespace Ev
open PySem PySem.Spec PyProof.Rows L2
mutual
def toP : D → Option PyData
  | .non => some .none
  | .bl b => some (.bool b)
  | .int i => some (.int i)
  | .str x => some (.str x)
  | .tup ds => (toPs ds).map .tuple
  | .lst ds => (toPs ds).map .list
  | .scr ds => (toPs ds).map .list
  | .dct _ _ => none
  | .ins _ _ => none
  | .ref _ => none
  | .ty _ => none
  | .cls _ => none
def toPs : List D → Option (List PyData)
  | [] => some []
  | d :: ds => match toP d, toPs ds with
    | some p, some ps => some (p :: ps)
    | _, _ => none
end
section
variable {G : Sg} {X : Cx} {W : WX} {k : Nat} {w : Wd}
mutual
theorem toP_dp (cK : G.K = X.K) : ∀ (d : D) (v : V) (p : PyData), RepV G w d v → toP d = some p → Dp X.K w.H v p
  | .non, v, p, r, h => by cases h; cases (show v = .non from r); exact .non
  | .bl b, v, p, r, h => by cases h; cases (show v = .bl b from r); exact .bl b
  | .int i, v, p, r, h => by cases h; cases (show v = .int i from r); exact .int i
  | .str x, v, p, r, h => by cases h; cases (show v = .str x from r); exact .str x
  | .tup ds, v, p, r, h => by
    obtain ⟨a, vs, e, hh, rs⟩ := r
    subst e
    unfold toP at h
    obtain ⟨ps, h1, h2⟩ := Option.map_eq_some_iff.mp h
    subst h2
    exact .tup (sqT_of cK hh) (toPs_dp cK ds vs ps rs h1)
  | .lst ds, v, p, r, h => by
    obtain ⟨a, vs, e, fa, hh, rs⟩ := r
    subst e
    unfold toP at h
    obtain ⟨ps, h1, h2⟩ := Option.map_eq_some_iff.mp h
    subst h2
    exact .lst (.of hh) (toPs_dp cK ds vs ps rs h1)
  | .scr ds, v, p, r, h => by
    obtain ⟨a, vs, e, hh, rs⟩ := r
    subst e
    unfold toP at h
    obtain ⟨ps, h1, h2⟩ := Option.map_eq_some_iff.mp h
    subst h2
    exact .lst (sqL_of cK hh) (toPs_dp cK ds vs ps rs h1)
  | .dct _ _, _, _, _, h => by unfold toP at h; cases h
  | .ins _ _, _, _, _, h => by unfold toP at h; cases h
  | .ref _, _, _, _, h => by unfold toP at h; cases h
  | .ty _, _, _, _, h => by unfold toP at h; cases h
  | .cls _, _, _, _, h => by unfold toP at h; cases h
theorem toPs_dp (cK : G.K = X.K) : ∀ (ds : List D) (vs : List V) (ps : List PyData), RepVs G w ds vs → toPs ds = some ps → DpAll X.K w.H vs ps
  | [], vs, ps, r, h => by unfold toPs at h; cases h; cases (show vs = [] from r); exact .nil
  | d :: ds, vs, ps, r, h => by
    obtain ⟨v, t, e, h1, h2⟩ := r
    subst e
    unfold toPs at h
    rcases hp : toP d with _ | p
    · rw [hp] at h; cases h
    · rcases hq : toPs ds with _ | qs
      · rw [hp, hq] at h; cases h
      · rw [hp, hq] at h
        cases h
        exact .cons (toP_dp cK d v p h1 hp) (toPs_dp cK ds t qs h2 hq)
end
def dEq (neg : Bool) : D → D → M D
  | .int i, .int j => M.pure (.bl (if neg then !decide (i = j) else decide (i = j)))
  | .str i, .str j => M.pure (.bl (if neg then !decide (i = j) else decide (i = j)))
  | .bl i, .bl j => M.pure (.bl (if neg then !decide (i = j) else decide (i = j)))
  | d, e => match toP d, toP e with
    | some p, some q => if SeqAt.shaped p = true ∧ SeqAt.shaped q = true then M.pure (.bl (if neg then !PyData.eqv p q else PyData.eqv p q)) else M.stuck
    | _, _ => M.stuck
theorem FinG.stuck {α β : Type} {rep : Wd → α → β → Prop} {W : Value → Option Addr → Hp → Prop} {w : Wd} {Q : β → Hp → Prop} {S : List Ob} {P : Prop} (h : FinG G rep W w Q ((M.stuck : M α) S)) : P := h.elim
theorem eq_gen (cK : G.K = X.K) {W' : Value → Option Addr → Hp → Prop} {S : List Ob} {d e : D} {v u : V} {Q : VK} {neg : Bool} (s : RepS G w S) (r1 : RepV G w d v) (r2 : RepV G w e u)
    (q : FinG G (RepV G) W' w Q ((match toP d, toP e with
      | some p, some q => if SeqAt.shaped p = true ∧ SeqAt.shaped q = true then M.pure (.bl (if neg then !PyData.eqv p q else PyData.eqv p q)) else M.stuck
      | _, _ => M.stuck : M D) S)) : ∃ p q, Dp X.K w.H v p ∧ Dp X.K w.H u q ∧ SeqAt.shaped p = true ∧ SeqAt.shaped q = true ∧ Q (.bl (if neg then !PyData.eqv p q else PyData.eqv p q)) w.H := by
  rcases hp : toP d with _ | p
  · rw [hp] at q; exact q.elim
  · rcases hq : toP e with _ | p'
    · rw [hp, hq] at q; exact q.elim
    · rw [hp, hq] at q
      obtain ⟨⟨c1, c2⟩, q⟩ := FinG.ite q
      exact ⟨p, p', toP_dp cK d v p r1 hp, toP_dp cK e u p' r2 hq, c1, c2, fin_pure (b := V.bl _) q s rfl⟩
theorem o_eq (cK : G.K = X.K) (hr : Rm G.gd k X.A) : OpR X (compareOp .Eq) (rD2 G (dEq false)) := by
  refine OpR.imp (op_eq.or (op_eqD hr.room.units)) fun v u H Q q => ?_
  obtain ⟨W, w, S, d, e, rfl, s, r1, r2, q⟩ := q
  cases d <;> cases e <;> first
    | (refine .inr ?_
       obtain ⟨p, p', h1, h2, h3, h4, h5⟩ := eq_gen (neg := false) cK s r1 r2 q
       exact ⟨p, p', h1, h2, h3, h4, h5⟩)
    | (cases (show v = _ from r1)
       cases (show u = _ from r2)
       refine .inl ⟨rfl, ?_⟩
       have q2 := fin_pure (b := V.bl _) q s rfl
       simpa using q2)
theorem o_ne (cK : G.K = X.K) (hr : Rm G.gd k X.A) : OpR X (compareOp .NotEq) (rD2 G (dEq true)) := by
  refine OpR.imp (op_ne.or (op_neD hr.room.units)) fun v u H Q q => ?_
  obtain ⟨W, w, S, d, e, rfl, s, r1, r2, q⟩ := q
  cases d <;> cases e <;> first
    | (refine .inr ?_
       obtain ⟨p, p', h1, h2, h3, h4, h5⟩ := eq_gen (neg := true) cK s r1 r2 q
       exact ⟨p, p', h1, h2, h3, h4, h5⟩)
    | (cases (show v = _ from r1)
       cases (show u = _ from r2)
       refine .inl ⟨rfl, ?_⟩
       have q2 := fin_pure (b := V.bl _) q s rfl
       simpa using q2)
def isNonD : D → Bool
  | .non => true
  | _ => false
theorem isNon_rep {d : D} {v : V} (r : RepV G w d v) : decide (v = .non) = isNonD d := by
  cases d with
  | non => cases (show v = .non from r); rfl
  | bl b => cases (show v = .bl b from r); rfl
  | int b => cases (show v = .int b from r); rfl
  | str b => cases (show v = .str b from r); rfl
  | tup ds => obtain ⟨a, vs, e, _⟩ := r; subst e; rfl
  | lst ds => obtain ⟨a, vs, e, _⟩ := r; subst e; rfl
  | scr ds => obtain ⟨a, vs, e, _⟩ := r; subst e; rfl
  | dct ks ds => obtain ⟨a, vs, e, _⟩ := r; subst e; rfl
  | ins c ds => obtain ⟨a, dx, vs, e, _⟩ := r; subst e; rfl
  | ref n => obtain ⟨a, e, _⟩ := r; subst e; rfl
  | ty t => cases (show v = .ty t.name from r); rfl
  | cls c => cases (show v = .ref (G.ca c) from r); rfl
def dIs (neg : Bool) : D → D → M D
  | d, .non => M.pure (.bl (if neg then !isNonD d else isNonD d))
  | _, _ => M.stuck
theorem o_is : OpR X (compareOp .Is) (rD2 G (dIs false)) := by
  refine OpR.imp op_isN fun v u H Q q => ?_
  obtain ⟨W, w, S, d, e, rfl, s, r1, r2, q⟩ := q
  cases e with
  | non =>
    have q2 := fin_pure (b := V.bl _) (show FinG G (RepV G) W w Q (M.pure (.bl (isNonD d)) S) by cases d <;> exact q) s rfl
    exact ⟨r2, by rw [isNon_rep r1]; exact q2⟩
  | _ => cases d <;> exact q.elim
theorem o_isnot : OpR X (compareOp .IsNot) (rD2 G (dIs true)) := by
  refine OpR.imp op_notN fun v u H Q q => ?_
  obtain ⟨W, w, S, d, e, rfl, s, r1, r2, q⟩ := q
  cases e with
  | non =>
    have q2 := fin_pure (b := V.bl _) (show FinG G (RepV G) W w Q (M.pure (.bl (!isNonD d)) S) by cases d <;> exact q) s rfl
    exact ⟨r2, by rw [isNon_rep r1]; exact q2⟩
  | _ => cases d <;> exact q.elim
def dIx (d e : D) : M D := fun S => match e with
  | .int i => match d with
    | .lst ds => match atI ds i with | some x => some (.ok x, S) | none => none
    | .tup ds => match atI ds i with | some x => some (.ok x, S) | none => none
    | .scr ds => match atI ds i with | some x => some (.ok x, S) | none => none
    | .str z => if z.length ≤ lim then (match atI z.cps.toList i with | some c => some (.ok (.str ⟨#[c]⟩), S) | none => none) else none
    | .ref n => match S[n]? with
      | some (.lst ds) => match atI ds i with | some x => some (.ok x, S) | none => none
      | _ => none
    | _ => none
  | _ => none
theorem atI_rep {ds : List D} {vs : List V} {i : Int} {x : D} (r : RepVs G w ds vs) (h : atI ds i = some x) : ∃ v, atI vs i = some v ∧ RepV G w x v := by
  unfold atI at h ⊢
  rw [r.length] at h
  obtain ⟨j, h1, h2⟩ := Option.bind_eq_some_iff.mp h
  obtain ⟨v, h3, h4⟩ := r.get h2
  exact ⟨v, by rw [h1]; exact h3, h4⟩
theorem ix_D (cK : G.K = X.K) : IxR X (rD2 G dIx) := by
  have base := (ix_list (X := X)).or ((ix_tup (X := X)).or (ix_str (X := X)))
  intro a b pins s σ H x y v u Q I rx ry q
  refine base a b pins s σ H x y v u Q I rx ry ?_
  obtain ⟨W, w, S, d, e, rfl, st, r1, r2, q⟩ := q
  unfold dIx at q
  cases e with
  | int i =>
    cases (show y = .int i from r2)
    cases d with
    | lst ds =>
      obtain ⟨p, vs, rfl, f, hh, rs⟩ := r1
      rcases hx : atI ds i with _ | z
      · simp only [hx] at q; exact q.elim
      · simp only [hx] at q
        obtain ⟨v1, h1, h2⟩ := atI_rep rs hx
        exact .inl ⟨p, vs, i, v1, rfl, rfl, .of hh, h1, fin_pure (a := z) q st h2⟩
    | tup ds =>
      obtain ⟨p, vs, rfl, hh, rs⟩ := r1
      rcases hx : atI ds i with _ | z
      · simp only [hx] at q; exact q.elim
      · simp only [hx] at q
        obtain ⟨v1, h1, h2⟩ := atI_rep rs hx
        exact .inr (.inl ⟨p, vs, i, v1, rfl, rfl, sqT_of cK hh, h1, fin_pure (a := z) q st h2⟩)
    | scr ds =>
      obtain ⟨p, vs, rfl, hh, rs⟩ := r1
      rcases hx : atI ds i with _ | z
      · simp only [hx] at q; exact q.elim
      · simp only [hx] at q
        obtain ⟨v1, h1, h2⟩ := atI_rep rs hx
        exact .inl ⟨p, vs, i, v1, rfl, rfl, sqL_of cK hh, h1, fin_pure (a := z) q st h2⟩
    | str z =>
      cases (show x = .str z from r1)
      by_cases hz : z.length ≤ lim
      · rcases hx : atI z.cps.toList i with _ | c
        · simp only [hx, if_pos hz] at q; exact q.elim
        · simp only [hx, if_pos hz] at q
          exact .inr (.inr ⟨z, i, c, rfl, rfl, by rw [← lim_eq]; exact hz, hx, fin_pure (a := D.str ⟨#[c]⟩) q st rfl⟩)
      · simp only [if_neg hz] at q; exact q.elim
    | ref n =>
      obtain ⟨p, rfl, hm⟩ := r1
      rcases hn : S[n]? with _ | ⟨ds | _ | _⟩
      · simp only [hn] at q; exact q.elim
      · simp only [hn] at q
        obtain ⟨vs, hh, rs⟩ := st.ob n p _ hm hn
        rcases hx : atI ds i with _ | z
        · simp only [hx] at q; exact q.elim
        · simp only [hx] at q
          obtain ⟨v1, h1, h2⟩ := atI_rep rs hx
          exact .inl ⟨p, vs, i, v1, rfl, rfl, .of hh, h1, fin_pure (a := z) q st h2⟩
      · simp only [hn] at q; exact q.elim
      · simp only [hn] at q; exact q.elim
    | _ => exact q.elim
  | _ => exact q.elim
def notSlice : Expr → Bool
  | .Slice .. => false
  | _ => true
theorem plain_ix {b : Expr} (h : notSlice b = true) : PlainIx b := by
  intro o i
  cases b <;> first | rfl | cases h
theorem v_ix {a b : Expr} {fa fb : List SV → M D} {pos : Pos} (cK : G.K = X.K) (ha : PV G X W a fa) (hb : PV G X W b fb) (hs : notSlice b = true) : PV G X W (.Subscript a b pos) (fun sd => M.bind (fa sd) fun x => M.bind (fb sd) fun y => dIx x y) := by
  refine PE.imp (pe_ix (ix_D cK) ha hb (plain_ix hs)) fun σ H Q h => ?_
  obtain ⟨w0, w, sd, S, e, r, q⟩ := h
  refine ⟨w0, w, sd, S, e, r, fin_step q fun w1 S1 d v e1 s1 rv q1 => ⟨w0, w1, sd, S1, rfl, r.step e1 s1, fin_step q1 fun w2 S2 d2 v2 e2 s2 rv2 q2 => ?_⟩⟩
  exact ⟨_, w2, S2, d, d2, rfl, s2, RepV.mono e2 s1.dj d v rv, rv2, q2⟩
end
end Ev
set_option maxRecDepth 100000
set_option maxHeartbeats 2000000
namespace Ev
open PySem PySem.Spec PyProof.Rows L2
def rDs (G : Sg) (g : List D → M D) : List V → Hp → VK → Prop := fun vs H Q => ∃ W w S ds, w.H = H ∧ RepS G w S ∧ RepVs G w ds vs ∧ FinG G (RepV G) W w Q (g ds S)
theorem CallR.imp {X : Cx} {f : Value} {r r' : List V → Hp → VK → Prop} (h : CallR X f r) (i : ∀ vs H Q, r' vs H Q → r vs H Q) : CallR X f r' := fun pins s σ H xs us Q I rx q => h pins s σ H xs us Q I rx (i _ _ _ q)
section
variable {G : Sg} {X : Cx} {W : WX} {k n : Nat} {w : Wd} {g : List D → M D}
theorem v_callB {id : String} {x : Str} {p pos : Pos} {e : Expr} {es : List Expr} {fa : List SV → M (List D)} (hc : CallR X (.builtin id) (rDs G g)) (hg : Gl X x) (hm : X.mg x = none) (hv : bootBuiltins x = some (.builtin id)) (ha : PLn G X W n (e :: es) fa) (hs : (e :: es).all notStar = true)
    (hn : x ≠ "__name__") (hd : (x == ("__debug__" : Str)) = false) : PV G X W (.Call (.Name x p) (e :: es) [] pos) (fun sd => M.bind (fa sd) g) := by
  have hs2 : notStar e = true ∧ es.all notStar = true := by simpa using hs
  refine PE.imp (pe_callB hc hg hm hv ha hn hd (starEach_cons hs2.1) (starEach_all hs2.2 pos)) fun σ H Q h => ?_
  obtain ⟨w0, w, sd, S, e, r, q⟩ := h
  exact ⟨w0, w, sd, S, e, r, fin_step q fun w1 S1 ds vs e1 s1 rv q1 => ⟨_, w1, S1, ds, rfl, s1, rv.1, q1⟩⟩
theorem v_callTy {T : String} {x : Str} {p pos : Pos} {e : Expr} {es : List Expr} {fa : List SV → M (List D)} (hc : CallR X (.type T) (rDs G g)) (hg : Gl X x) (hm : X.mg x = none) (hv : bootBuiltins x = some (.type T)) (ha : PLn G X W n (e :: es) fa) (hs : (e :: es).all notStar = true)
    (hn : x ≠ "__name__") (hd : (x == ("__debug__" : Str)) = false) : PV G X W (.Call (.Name x p) (e :: es) [] pos) (fun sd => M.bind (fa sd) g) := by
  have hs2 : notStar e = true ∧ es.all notStar = true := by simpa using hs
  refine PE.imp (pe_callTy hc hg hm hv ha hn hd (starEach_cons hs2.1) (starEach_all hs2.2 pos)) fun σ H Q h => ?_
  obtain ⟨w0, w, sd, S, e, r, q⟩ := h
  exact ⟨w0, w, sd, S, e, r, fin_step q fun w1 S1 ds vs e1 s1 rv q1 => ⟨_, w1, S1, ds, rfl, s1, rv.1, q1⟩⟩
def on1 (g : D → M D) : List D → M D
  | [d] => g d
  | _ => M.stuck
def on2 (g : D → D → M D) : List D → M D
  | [d, e] => g d e
  | _ => M.stuck
theorem on1_of {g : D → M D} {vs : List V} {H : Hp} {Q : VK} (h : rDs G (on1 g) vs H Q) : ∃ W w S d v, w.H = H ∧ RepS G w S ∧ vs = [v] ∧ RepV G w d v ∧ FinG G (RepV G) W w Q (g d S) := by
  obtain ⟨W, w, S, ds, e, s, r, q⟩ := h
  rcases ds with _ | ⟨d, _ | ⟨d2, ds⟩⟩
  · exact q.elim
  · obtain ⟨v, t, ev, h1, h2⟩ := r
    cases (show t = [] from h2)
    exact ⟨W, w, S, d, v, e, s, ev, h1, q⟩
  · exact q.elim
theorem on2_of {g : D → D → M D} {vs : List V} {H : Hp} {Q : VK} (h : rDs G (on2 g) vs H Q) : ∃ W w S d e v u, w.H = H ∧ RepS G w S ∧ vs = [v, u] ∧ RepV G w d v ∧ RepV G w e u ∧ FinG G (RepV G) W w Q (g d e S) := by
  obtain ⟨W, w, S, ds, e, s, r, q⟩ := h
  rcases ds with _ | ⟨d, _ | ⟨d2, _ | ⟨d3, ds⟩⟩⟩
  · exact q.elim
  · exact q.elim
  · obtain ⟨v, t, ev, h1, u, t2, eu, h2, h3⟩ := r
    cases (show t2 = [] from h3)
    exact ⟨W, w, S, d, d2, v, u, e, s, by rw [ev, eu], h1, h2, q⟩
  · exact q.elim
def dLen (d : D) : M D := fun S => match d with
  | .lst ds => some (.ok (.int ds.length), S)
  | .tup ds => some (.ok (.int ds.length), S)
  | .scr ds => some (.ok (.int ds.length), S)
  | .str x => if x.length ≤ lim then some (.ok (.int x.length), S) else none
  | .ref n => match S[n]? with
    | some (.lst ds) => some (.ok (.int ds.length), S)
    | _ => none
  | _ => none
theorem c_len (cK : G.K = X.K) : CallR X (.builtin "len") (rDs G (on1 dLen)) := by
  refine CallR.imp call_len fun vs H Q h => ?_
  obtain ⟨W, w, S, d, v, rfl, s, rfl, r, q⟩ := on1_of h
  unfold dLen at q
  cases d with
  | lst ds =>
    obtain ⟨a, vs, e, f, hh, rs⟩ := r
    exact ⟨v, ds.length, rfl, by subst e; exact .inl ⟨vs, .of hh, rs.length⟩, fin_pure (a := D.int ds.length) q s rfl⟩
  | tup ds =>
    obtain ⟨a, vs, e, hh, rs⟩ := r
    exact ⟨v, ds.length, rfl, by subst e; exact .inr ⟨vs, sqT_of cK hh, rs.length⟩, fin_pure (a := D.int ds.length) q s rfl⟩
  | scr ds =>
    obtain ⟨a, vs, e, hh, rs⟩ := r
    exact ⟨v, ds.length, rfl, by subst e; exact .inl ⟨vs, sqL_of cK hh, rs.length⟩, fin_pure (a := D.int ds.length) q s rfl⟩
  | str x =>
    by_cases hz : x.length ≤ lim
    · simp only [if_pos hz] at q
      exact ⟨v, x.length, rfl, by cases (show v = .str x from r); exact ⟨by rw [← lim_eq]; exact hz, rfl⟩, fin_pure (a := D.int x.length) q s rfl⟩
    · simp only [if_neg hz] at q; exact q.elim
  | ref m =>
    obtain ⟨p, rfl, hm⟩ := r
    rcases hn : S[m]? with _ | ⟨ds | _ | _⟩
    · simp only [hn] at q; exact q.elim
    · simp only [hn] at q
      obtain ⟨vs, hh, rs⟩ := s.ob m p _ hm hn
      exact ⟨.ref p, ds.length, rfl, .inl ⟨vs, .of hh, rs.length⟩, fin_pure (a := D.int ds.length) q s rfl⟩
    · simp only [hn] at q; exact q.elim
    · simp only [hn] at q; exact q.elim
  | _ => exact q.elim
def dAbs : D → M D
  | .int i => M.pure (.int (if i < 0 then -i else i))
  | _ => M.stuck
theorem c_abs : CallR X (.builtin "abs") (rDs G (on1 dAbs)) := by
  refine CallR.imp call_abs fun vs H Q h => ?_
  obtain ⟨W, w, S, d, v, rfl, s, rfl, r, q⟩ := on1_of h
  cases d with
  | int i => cases (show v = .int i from r); exact ⟨i, rfl, fin_pure q s rfl⟩
  | _ => exact q.elim
def dMax : D → D → M D
  | .int i, .int j => M.pure (.int (if j > i then j else i))
  | _, _ => M.stuck
def dMin : D → D → M D
  | .int i, .int j => M.pure (.int (if j < i then j else i))
  | _, _ => M.stuck
theorem c_max (hc : X.calm = true) : CallR X (.builtin "max") (rDs G (on2 dMax)) := by
  refine CallR.imp (call_max2 hc) fun vs H Q h => ?_
  obtain ⟨W, w, S, d, e, v, u, rfl, s, rfl, r, r', q⟩ := on2_of h
  cases d <;> cases e <;> first
    | exact q.elim
    | (cases (show v = _ from r)
       cases (show u = _ from r')
       exact ⟨_, _, rfl, fin_pure q s rfl⟩)
theorem c_min (hc : X.calm = true) : CallR X (.builtin "min") (rDs G (on2 dMin)) := by
  refine CallR.imp (call_min2 hc) fun vs H Q h => ?_
  obtain ⟨W, w, S, d, e, v, u, rfl, s, rfl, r, r', q⟩ := on2_of h
  cases d <;> cases e <;> first
    | exact q.elim
    | (cases (show v = _ from r)
       cases (show u = _ from r')
       exact ⟨_, _, rfl, fin_pure q s rfl⟩)
def dInt : D → M D
  | .int i => M.pure (.int i)
  | .bl b => M.pure (.int (if b then 1 else 0))
  | .str x => match PySem.intText? x with
    | some n => if x.length ≤ 640 then M.pure (.int n) else M.stuck
    | none => M.stuck
  | _ => M.stuck
theorem c_int : CallR X (.type "int") (rDs G (on1 dInt)) := by
  refine CallR.imp (call_int1.or call_int_str) fun vs H Q h => ?_
  obtain ⟨W, w, S, d, v, rfl, s, rfl, r, q⟩ := on1_of h
  cases d with
  | int i => cases (show v = .int i from r); exact .inl (.inl ⟨i, rfl, fin_pure q s rfl⟩)
  | bl b => cases (show v = .bl b from r); exact .inl (.inr ⟨b, rfl, fin_pure q s rfl⟩)
  | str x =>
    cases (show v = .str x from r)
    unfold dInt at q
    rcases hx : PySem.intText? x with _ | n
    · simp only [hx] at q; exact q.elim
    · simp only [hx] at q
      obtain ⟨c, q⟩ := FinG.ite q
      exact .inr ⟨x, n, rfl, hx, c, fin_pure q s rfl⟩
  | _ => exact q.elim
def strOk (i : Int) : Bool := decide (i.natAbs.log2 < 1920)
def dStr : D → M D
  | .int i => if strOk i = true then M.pure (.str (toString i : String)) else M.stuck
  | .str x => M.pure (.str x)
  | _ => M.stuck
theorem c_str : CallR X (.type "str") (rDs G (on1 dStr)) := by
  refine CallR.imp (call_str_int.or SkE.call_str_str) fun vs H Q h => ?_
  obtain ⟨W, w, S, d, v, rfl, s, rfl, r, q⟩ := on1_of h
  cases d with
  | int i =>
    cases (show v = .int i from r)
    obtain ⟨c, q⟩ := FinG.ite q
    exact .inl ⟨i, rfl, of_decide_eq_true c, fin_pure q s rfl⟩
  | str x => cases (show v = .str x from r); exact .inr ⟨x, rfl, fin_pure q s rfl⟩
  | _ => exact q.elim
def divmOk (i j : Int) : Bool := decide (0 < j) && !Builtin.divisionGoesByPylong i j
def dDivmod : D → D → M D
  | .int i, .int j => if divmOk i j = true then M.pure (.tup [.int (i / j), .int (i % j)]) else M.stuck
  | _, _ => M.stuck
theorem c_divmod : CallR X (.builtin "divmod") (rDs G (on2 dDivmod)) := by
  refine CallR.imp call_divmodW fun vs H Q h => ?_
  obtain ⟨W, w, S, d, e, v, u, rfl, s, rfl, r, r', q⟩ := on2_of h
  cases d with
  | int i =>
    cases e with
    | int j =>
      cases (show v = .int i from r)
      cases (show u = .int j from r')
      obtain ⟨c, q⟩ := FinG.ite q
      unfold divmOk at c
      simp only [Bool.and_eq_true, decide_eq_true_eq, Bool.not_eq_true'] at c
      refine ⟨i, j, rfl, c, fun p hp => ?_⟩
      exact q (w.frz p _) _ (Ext.frz hp) (s.frz hp) ⟨p, _, rfl, .inl ⟨.inr rfl, .inl upd_same⟩, ⟨_, _, rfl, rfl, _, _, rfl, rfl, rfl⟩⟩
    | _ => exact q.elim
  | _ => cases e <;> exact q.elim
def dTuple : D → M D
  | .lst ds => M.pure (.tup ds)
  | .scr ds => M.pure (.tup ds)
  | .tup ds => M.pure (.tup ds)
  | _ => M.stuck
def dList : D → M D
  | .lst ds => M.pure (.lst ds)
  | .scr ds => M.pure (.lst ds)
  | .tup ds => M.pure (.lst ds)
  | _ => M.stuck
theorem c_tuple (cK : G.K = X.K) : CallR X (.type "tuple") (rDs G (on1 dTuple)) := by
  refine CallR.imp call_tuple_of fun vs H Q h => ?_
  obtain ⟨W, w, S, d, v, rfl, s, rfl, r, q⟩ := on1_of h
  cases d with
  | lst ds =>
    obtain ⟨a, vs, e, f, hh, rs⟩ := r
    subst e
    exact ⟨a, vs, rfl, .inl ⟨.of hh, fun p hp => q (w.frz p _) _ (Ext.frz hp) (s.frz hp) ⟨p, vs, rfl, .inl ⟨.inr rfl, .inl upd_same⟩, RepVs.mono (Ext.frz hp) s.dj _ _ rs⟩⟩⟩
  | scr ds =>
    obtain ⟨a, vs, e, hh, rs⟩ := r
    subst e
    exact ⟨a, vs, rfl, .inl ⟨sqL_of cK hh, fun p hp => q (w.frz p _) _ (Ext.frz hp) (s.frz hp) ⟨p, vs, rfl, .inl ⟨.inr rfl, .inl upd_same⟩, RepVs.mono (Ext.frz hp) s.dj _ _ rs⟩⟩⟩
  | tup ds =>
    have r2 := r
    obtain ⟨a, vs, e, hh, rs⟩ := r
    subst e
    exact ⟨a, vs, rfl, .inr ⟨sqT_of cK hh, fin_pure q s r2⟩⟩
  | _ => exact q.elim
theorem c_list (cK : G.K = X.K) : CallR X (.type "list") (rDs G (on1 dList)) := by
  refine CallR.imp call_list_of fun vs H Q h => ?_
  obtain ⟨W, w, S, d, v, rfl, s, rfl, r, q⟩ := on1_of h
  cases d with
  | lst ds =>
    obtain ⟨a, vs, e, f, hh, rs⟩ := r
    subst e
    exact ⟨a, vs, rfl, .inl (.of hh), fun p hp => q (w.frz p _) _ (Ext.frz hp) (s.frz hp) ⟨p, vs, rfl, .inr rfl, upd_same, RepVs.mono (Ext.frz hp) s.dj _ _ rs⟩⟩
  | scr ds =>
    obtain ⟨a, vs, e, hh, rs⟩ := r
    subst e
    exact ⟨a, vs, rfl, .inl (sqL_of cK hh), fun p hp => q (w.frz p _) _ (Ext.frz hp) (s.frz hp) ⟨p, vs, rfl, .inr rfl, upd_same, RepVs.mono (Ext.frz hp) s.dj _ _ rs⟩⟩
  | tup ds =>
    obtain ⟨a, vs, e, hh, rs⟩ := r
    subst e
    exact ⟨a, vs, rfl, .inr (sqT_of cK hh), fun p hp => q (w.frz p _) _ (Ext.frz hp) (s.frz hp) ⟨p, vs, rfl, .inr rfl, upd_same, RepVs.mono (Ext.frz hp) s.dj _ _ rs⟩⟩
  | _ => exact q.elim
def bls : List D → Option (List Bool)
  | [] => some []
  | .bl b :: ds => (bls ds).map (b :: ·)
  | _ :: _ => none
theorem bls_rep : ∀ {ds : List D} {bs : List Bool} {vs : List V}, bls ds = some bs → RepVs G w ds vs → vs = bs.map V.bl
  | [], bs, vs, h, r => by unfold bls at h; cases h; exact r
  | .bl b :: ds, bs, vs, h, r => by
    unfold bls at h
    obtain ⟨cs, h1, h2⟩ := Option.map_eq_some_iff.mp h
    subst h2
    obtain ⟨v, t, e, h3, h4⟩ := r
    rw [e, bls_rep h1 h4]
    cases (show v = .bl b from h3)
    rfl
  | .non :: _, _, _, h, _ => by cases h
  | .int _ :: _, _, _, h, _ => by cases h
  | .str _ :: _, _, _, h, _ => by cases h
  | .tup _ :: _, _, _, h, _ => by cases h
  | .lst _ :: _, _, _, h, _ => by cases h
  | .scr _ :: _, _, _, h, _ => by cases h
  | .dct _ _ :: _, _, _, h, _ => by cases h
  | .ins _ _ :: _, _, _, h, _ => by cases h
  | .ref _ :: _, _, _, h, _ => by cases h
  | .ty _ :: _, _, _, h, _ => by cases h
  | .cls _ :: _, _, _, h, _ => by cases h
def dAll : D → M D
  | .lst ds => match bls ds with
    | some bs => M.pure (.bl (bs.all id))
    | none => M.stuck
  | _ => M.stuck
def dAny : D → M D
  | .lst ds => match bls ds with
    | some bs => M.pure (.bl (bs.any id))
    | none => M.stuck
  | _ => M.stuck
theorem c_all (hc : X.calm = true) : CallR X (.builtin "all") (rDs G (on1 dAll)) := by
  refine CallR.imp (cr_all hc) fun vs H Q h => ?_
  obtain ⟨W, w, S, d, v, rfl, s, rfl, r, q⟩ := on1_of h
  cases d with
  | lst ds =>
    obtain ⟨a, vs, e, f, hh, rs⟩ := r
    unfold dAll at q
    rcases hb : bls ds with _ | bs
    · simp only [hb] at q; exact q.elim
    · simp only [hb] at q
      have ev := bls_rep hb rs
      subst e ev
      exact ⟨a, bs, rfl, .of hh, fin_pure q s rfl⟩
  | _ => exact q.elim
theorem c_any (hc : X.calm = true) : CallR X (.builtin "any") (rDs G (on1 dAny)) := by
  refine CallR.imp (cr_any hc) fun vs H Q h => ?_
  obtain ⟨W, w, S, d, v, rfl, s, rfl, r, q⟩ := on1_of h
  cases d with
  | lst ds =>
    obtain ⟨a, vs, e, f, hh, rs⟩ := r
    unfold dAny at q
    rcases hb : bls ds with _ | bs
    · simp only [hb] at q; exact q.elim
    · simp only [hb] at q
      have ev := bls_rep hb rs
      subst e ev
      exact ⟨a, bs, rfl, .of hh, fin_pure q s rfl⟩
  | _ => exact q.elim
def reprOk (p : PyData) : Bool := p.showable && !p.hasDict && decide (p.depth ≤ 60) && decide (p.shown.length ≤ lim)
def dRepr (d : D) : M D := match toP d with
  | some p => if reprOk p = true then M.pure (.str p.shown) else M.stuck
  | none => M.stuck
theorem c_repr (cK : G.K = X.K) (hr : Rm G.gd k X.A) (hg : G.gd = true := by rfl) : CallR X (.builtin "repr") (rDs G (on1 dRepr)) := by
  intro pins s σ H xs us Q I rx h
  obtain ⟨W, w, S, d, v, rfl, st, rfl, r, q⟩ := on1_of h
  unfold dRepr at q
  rcases hp : toP d with _ | p
  · simp only [hp] at q; exact q.elim
  · simp only [hp] at q
    obtain ⟨c, q⟩ := FinG.ite q
    unfold reprOk at c
    simp only [Bool.and_eq_true, decide_eq_true_eq, Bool.not_eq_true'] at c
    obtain ⟨⟨⟨c1, c2⟩, c3⟩, c4⟩ := c
    obtain ⟨u, rfl, rv⟩ := vals1 rx
    have dp := toP_dp cK d v p r hp
    obtain ⟨as, rd⟩ := Dp.reads I p v u dp rv
    have fin : Q (.str p.shown) w.H := fin_pure q st rfl
    have hz : p.shown.length ≤ sizeLine := by rw [← lim_eq]; exact c4
    cases rd with
    | none => exact PySem.P.repr_of_none ⟨.str _, w.H, I.tok _, ⟨_, rfl⟩, fin⟩
    | bool b => exact PySem.P.repr_of_bool ⟨.str _, w.H, I.tok _, ⟨_, rfl⟩, fin⟩
    | int i t => exact PySem.P.repr_of_int (by simpa [PyData.showable] using c1) ⟨.str _, w.H, I.tok _, ⟨_, rfl⟩, fin⟩
    | str x t => exact PySem.P.repr_of_str ⟨.str _, w.H, I.tok _, ⟨_, rfl⟩, fin⟩ hz
    | list h1 h2 h3 h4 =>
      refine repr_of_reads' (Reads.list h1 h2 h3 h4) c1 (fun z => by rw [c2] at z; cases z) (hr.gd hg) (by have := hr.room.units; omega) (fun _ _ z => z) (fun h' u tk kp => ?_) hz
      exact ⟨.str _, w.H, I.kept (t' := tk) kp, ⟨_, rfl⟩, fin⟩
    | tuple h1 h2 h3 h4 =>
      refine repr_of_reads' (Reads.tuple h1 h2 h3 h4) c1 (fun z => by rw [c2] at z; cases z) (hr.gd hg) (by have := hr.room.units; omega) (fun _ _ z => z) (fun h' u tk kp => ?_) hz
      exact ⟨.str _, w.H, I.kept (t' := tk) kp, ⟨_, rfl⟩, fin⟩
    | dict _ _ _ _ _ => cases c2
end
end Ev
set_option maxRecDepth 100000
set_option maxHeartbeats 2000000
namespace Ev
open PySem PySem.Spec PyProof.Rows L2
section
variable {G : Sg} {X : Cx} {W : WX} {k : Nat} {w0 w w1 : Wd} {S : List Ob} {sd : List SV} {σ : L2.St}
theorem R.wr {i : Nat} {a : Addr} {o o' : Ob} {h : HO} (r : R G w0 w sd S σ) (hi : sd[i]? = some (.own o)) (ha : σ[i]? = some (some (.ref a))) (hn : RepO G (w.wr a h) a o') : R G w0 (w.wr a h) (sd.set i (.own o')) S σ := by
  obtain ⟨a', e1, _, nF, nm, n0⟩ := r.ow i o hi
  rw [ha] at e1
  cases e1
  have il : i < sd.length := (List.getElem?_eq_some_iff.mp hi).1
  have st := Stay.wr (o := h) nF
  have key : ∀ {j : Nat} {x : SV}, (sd.set i (.own o'))[j]? = some x → (j = i ∧ x = .own o') ∨ (j ≠ i ∧ sd[j]? = some x) := fun {j x} z => by
    by_cases e : i = j
    · subst e
      rw [List.getElem?_set_self il] at z
      cases z
      exact .inl ⟨rfl, rfl⟩
    · rw [List.getElem?_set_ne e] at z
      exact .inr ⟨fun q => e q.symm, z⟩
  refine ⟨Ext.wr r.ex n0, r.st.wr nF nm, by rw [List.length_set]; exact r.ln, fun j x z => ?_, fun j o2 z => ?_, fun j1 j2 o1 o2 b h1 h2 h3 h4 => ?_, fun b o2 e z => by
    rcases key z with ⟨rfl, _⟩ | ⟨_, z⟩
    · exact r.sf b _ e hi
    · exact r.sf b _ e z⟩
  · rcases key z with ⟨_, e⟩ | ⟨_, z⟩
    · cases e
    · obtain ⟨v, h1, h2⟩ := r.vl j x z
      exact ⟨v, h1, RepV.stay st _ _ h2⟩
  · rcases key z with ⟨rfl, e⟩ | ⟨ne, z⟩
    · cases e
      exact ⟨a, ha, hn, nF, nm, n0⟩
    · obtain ⟨b, h1, h2, h3, h4, h5⟩ := r.ow j o2 z
      have nab : b ≠ a := fun e => by
        subst e
        exact ne (r.ap j i o2 o b z hi h1 ha)
      exact ⟨b, h1, RepO.to (upd_ne nab) st h2, h3, h4, h5⟩
  · have f1 : ∃ p1, sd[j1]? = some (.own p1) := (key h1).elim (fun z => ⟨o, z.1 ▸ hi⟩) fun z => ⟨o1, z.2⟩
    have f2 : ∃ p2, sd[j2]? = some (.own p2) := (key h2).elim (fun z => ⟨o, z.1 ▸ hi⟩) fun z => ⟨o2, z.2⟩
    obtain ⟨p1, q1⟩ := f1
    obtain ⟨p2, q2⟩ := f2
    exact r.ap j1 j2 p1 p2 b q1 q2 h3 h4
theorem R.setown {i : Nat} {a : Addr} {o : Ob} (r : R G w0 w sd S σ) (ho : RepO G w a o) (nF : ¬ w.F a) (nm : a ∉ w.m) (n0 : w0.H a = none) (na : ∀ (j : Nat) (o' : Ob), sd[j]? = some (.own o') → σ[j]? ≠ some (some (V.ref a))) (i0 : i ≠ 0) : R G w0 w (sd.set i (.own o)) S (σ.set i (some (.ref a))) := by
  have key : ∀ {j : Nat} {x : SV}, (sd.set i (.own o))[j]? = some x → (j = i ∧ i < sd.length ∧ x = .own o) ∨ (j ≠ i ∧ sd[j]? = some x) := fun {j x} z => by
    by_cases e : i = j
    · subst e
      by_cases l : i < sd.length
      · rw [List.getElem?_set_self l] at z
        cases z
        exact .inl ⟨rfl, l, rfl⟩
      · rw [List.getElem?_eq_none (by simpa using l)] at z
        cases z
    · rw [List.getElem?_set_ne e] at z
      exact .inr ⟨fun q => e q.symm, z⟩
  refine ⟨r.ex, r.st, by rw [List.length_set, List.length_set]; exact r.ln, fun j x z => ?_, fun j o2 z => ?_, fun j1 j2 o1 o2 b h1 h2 h3 h4 => ?_, fun b o2 e z => by
    rcases key z with ⟨z, _⟩ | ⟨ne, z⟩
    · exact absurd z.symm i0
    · rw [List.getElem?_set_ne i0]
      exact r.sf b _ e z⟩
  · rcases key z with ⟨_, _, e⟩ | ⟨ne, z⟩
    · cases e
    · rw [List.getElem?_set_ne (fun q => ne q.symm)]
      exact r.vl j x z
  · rcases key z with ⟨rfl, l, e⟩ | ⟨ne, z⟩
    · cases e
      exact ⟨a, List.getElem?_set_self (by rw [r.ln]; exact l), ho, nF, nm, n0⟩
    · rw [List.getElem?_set_ne (fun q => ne q.symm)]
      exact r.ow j o2 z
  · rcases key h1 with ⟨e1, l1, _⟩ | ⟨n1, h1⟩ <;> rcases key h2 with ⟨e2, l2, _⟩ | ⟨n2, h2⟩
    · rw [e1, e2]
    · rw [e1, List.getElem?_set_self (by rw [r.ln]; exact l1)] at h3
      cases h3
      rw [List.getElem?_set_ne (fun q => n2 q.symm)] at h4
      exact absurd h4 (na j2 _ h2)
    · rw [e2, List.getElem?_set_self (by rw [r.ln]; exact l2)] at h4
      cases h4
      rw [List.getElem?_set_ne (fun q => n1 q.symm)] at h3
      exact absurd h3 (na j1 _ h1)
    · rw [List.getElem?_set_ne (fun q => n1 q.symm)] at h3
      rw [List.getElem?_set_ne (fun q => n2 q.symm)] at h4
      exact r.ap j1 j2 o1 o2 b h1 h2 h3 h4
def frzO : Ob → D
  | .lst ds => .lst ds
  | .dct ks ds => .dct ks ds
  | .ins c ds => .ins c ds
theorem R.frz {i : Nat} {o : Ob} (r : R G w0 w sd S σ) (hi : sd[i]? = some (.own o)) : ∃ a, Stay w (w.fz a) ∧ R G w0 (w.fz a) (sd.set i (.val (frzO o))) S σ ∧ σ[i]? = some (some (.ref a)) ∧ RepV G (w.fz a) (frzO o) (.ref a) := by
  obtain ⟨a, ha, ho, nF, nm, n0⟩ := r.ow i o hi
  have il : i < sd.length := (List.getElem?_eq_some_iff.mp hi).1
  have rv : RepV G (w.fz a) (frzO o) (.ref a) := by
    cases o with
    | lst ds => obtain ⟨vs, h1, h2⟩ := ho; exact ⟨a, vs, rfl, .inr rfl, h1, RepVs.stay Stay.fz _ _ h2⟩
    | dct ks ds => obtain ⟨vs, h1, h2, h3⟩ := ho; exact ⟨a, vs, rfl, .inr rfl, h1, h2, RepVs.stay Stay.fz _ _ h3⟩
    | ins c ds => obtain ⟨dx, vs, h1, h2, h3⟩ := ho; exact ⟨a, dx, vs, rfl, .inr rfl, h1, h2, RepVs.stay Stay.fz _ _ h3⟩
  refine ⟨a, Stay.fz, ?_, ha, rv⟩
  have key : ∀ {j : Nat} {x : SV}, (sd.set i (.val (frzO o)))[j]? = some x → (j = i ∧ x = .val (frzO o)) ∨ (j ≠ i ∧ sd[j]? = some x) := fun {j x} z => by
    by_cases e : i = j
    · subst e
      rw [List.getElem?_set_self il] at z
      cases z
      exact .inl ⟨rfl, rfl⟩
    · rw [List.getElem?_set_ne e] at z
      exact .inr ⟨fun q => e q.symm, z⟩
  refine ⟨Ext.fz r.ex n0, r.st.fz nm ho.there, by rw [List.length_set]; exact r.ln, fun j x z => ?_, fun j o2 z => ?_, fun j1 j2 o1 o2 b h1 h2 h3 h4 => ?_, fun b o2 e z => by
    rcases key z with ⟨_, e⟩ | ⟨_, z⟩
    · cases e
    · exact r.sf b _ e z⟩
  · rcases key z with ⟨rfl, e⟩ | ⟨_, z⟩
    · cases e
      exact ⟨.ref a, ha, rv⟩
    · obtain ⟨v, h1, h2⟩ := r.vl j x z
      exact ⟨v, h1, RepV.stay Stay.fz _ _ h2⟩
  · rcases key z with ⟨_, e⟩ | ⟨ne, z⟩
    · cases e
    · obtain ⟨b, h1, h2, h3, h4, h5⟩ := r.ow j o2 z
      have nab : b ≠ a := fun e => by
        subst e
        exact ne (r.ap j i o2 o b z hi h1 ha)
      exact ⟨b, h1, RepO.to (w := w) (w' := w.fz a) rfl Stay.fz h2, fun q => q.elim h3 nab, h4, h5⟩
  · rcases key h1 with ⟨_, e⟩ | ⟨n1, h1⟩
    · cases e
    · rcases key h2 with ⟨_, e⟩ | ⟨n2, h2⟩
      · cases e
      · exact r.ap j1 j2 o1 o2 b h1 h2 h3 h4
def frzS (i : Nat) : MS := fun sd S => match sd[i]? with
  | some (.own o) => some (.next (sd.set i (.val (frzO o))), S)
  | _ => none
theorem ss_frz {i : Nat} {sts : List Stmt} {f : MS} (h : PSsV G X W sts f) : PSsV G X W sts (seqS (frzS i) f) := by
  refine PSs.imp h fun En σ H q => ?_
  obtain ⟨w0, w, sd, S, e, r, q⟩ := q
  unfold seqS frzS at q
  rcases hi : sd[i]? with _ | _ | d | o
  · simp only [hi] at q; exact q.elim
  · simp only [hi] at q; exact q.elim
  · simp only [hi] at q; exact q.elim
  · simp only [hi] at q
    obtain ⟨a, st, r2, _⟩ := r.frz hi
    exact ⟨w0, w.fz a, _, S, e, r2, FinS.stay st q⟩
def FinO (G : Sg) (W : Value → Option Addr → Hp → Prop) (w : Wd) (Q : VK) : Option (Except Exn (List D) × List Ob) → Prop
  | none => False
  | some (.ok ds, S) => ∀ w' p vs, Ext w w' → RepS G w' S → w'.H p = some (.lst vs) → RepVs G w' ds vs → ¬ w'.F p → p ∉ w'.m → w.H p = none → Q (.ref p) w'.H
  | some (.error e, S) => ∀ w' cls x, Ext w w' → RepS G w' S → RepX G w' e cls x → W cls x w'.H
def teO (G : Sg) (W : WX) (f : List SV → M (List D)) : TE := fun σ H Q => ∃ w0 w sd S, w.H = H ∧ R G w0 w sd S σ ∧ FinO G (fun c x H => W c x σ H) w Q (f sd S)
abbrev PO_ (G : Sg) (X : Cx) (W : WX) (e : Expr) (f : List SV → M (List D)) : Prop := PE X e (teO G W f)
theorem FinO.ext {W : Value → Option Addr → Hp → Prop} {Q : VK} {r : Option (Except Exn (List D) × List Ob)} (e : Ext w w1) (h : FinO G W w Q r) : FinO G W w1 Q r := by
  rcases r with _ | ⟨_ | ds, S⟩
  · exact h
  · exact fun w' c x e' => h w' c x (e.trans e')
  · exact fun w' p vs e' s h1 h2 h3 h4 h5 => h w' p vs (e.trans e') s h1 h2 h3 h4 (e.al _ h5)
theorem finO_step {α β : Type} {rep : Wd → α → β → Prop} {W : Value → Option Addr → Hp → Prop} {Q : β → Hp → Prop} {Q' : VK} {f : M α} {k : α → M (List D)} (h : FinO G W w Q' (M.bind f k S))
    (c : ∀ w1 S1 d v, Ext w w1 → RepS G w1 S1 → rep w1 d v → FinO G W w1 Q' (k d S1) → Q v w1.H) : FinG G rep W w Q (f S) := by
  unfold M.bind at h
  rcases hf : f S with _ | ⟨_ | d, S1⟩
  · rw [hf] at h; exact h
  · rw [hf] at h; exact h
  · rw [hf] at h
    exact fun w' v e s r => c w' S1 d v e s r (h.ext e)
theorem finO_new {W : Value → Option Addr → Hp → Prop} {Q : VK} {ds : List D} {vs : List V} {p : Addr} (h : FinO G W w Q (M.pure ds S)) (s : RepS G w S) (r : RepVs G w ds vs) (hp : w.H p = none) : Q (.ref p) (upd w.H p (.lst vs)) :=
  h (w.new p (.lst vs)) p vs (Ext.new hp) (s.new hp) upd_same (RepVs.mono (Ext.new hp) s.dj _ _ r) (fun z => s.fh p z hp) (fun z => s.there z hp) hp
theorem o_lst {n : Nat} {es : List Expr} {g : List SV → M (List D)} {pos : Pos} (h : PLn G X W n es g) (hn : n ≤ sizeLine) : PO_ G X W (.List es pos) (fun sd => M.bind (g sd) M.pure) := by
  refine PE.imp (pe_lst h) fun σ H Q h => ?_
  obtain ⟨w0, w, sd, S, e, r, q⟩ := h
  exact ⟨w0, w, sd, S, e, r, finO_step q fun w1 S1 ds vs e1 s1 rv q1 => ⟨by rw [rv.2]; exact hn, fun p hp => finO_new q1 s1 rv.1 hp⟩⟩
def catL : D → D → M (List D)
  | .lst a, .lst b => if a.length + b.length ≤ lim then M.pure (a ++ b) else M.stuck
  | _, _ => M.stuck
theorem finO_ite {W : Value → Option Addr → Hp → Prop} {Q : VK} {c : Prop} [Decidable c] {f : M (List D)} (h : FinO G W w Q ((if c then f else M.stuck) S)) : c ∧ FinO G W w Q (f S) := by
  by_cases hc : c
  · rw [if_pos hc] at h; exact ⟨hc, h⟩
  · rw [if_neg hc] at h; exact h.elim
theorem o_cat {a b : Expr} {fa fb : List SV → M D} {pos : Pos} (ha : PV G X W a fa) (hb : PV G X W b fb) : PO_ G X W (.BinOp a .Add b pos) (fun sd => M.bind (fa sd) fun x => M.bind (fb sd) fun y => catL x y) := by
  refine PE.imp (pe_op op_cat ha hb) fun σ H Q h => ?_
  obtain ⟨w0, w, sd, S, e, r, q⟩ := h
  refine ⟨w0, w, sd, S, e, r, finO_step q fun w1 S1 d v e1 s1 rv q1 => ⟨w0, w1, sd, S1, rfl, r.step e1 s1, finO_step q1 fun w2 S2 d2 v2 e2 s2 rv2 q2 => ?_⟩⟩
  have rv := RepV.mono e2 s1.dj d v rv
  cases d <;> cases d2 <;> first | exact q2.elim | skip
  obtain ⟨c, q2⟩ := finO_ite q2
  obtain ⟨a, va, ea, fa, ha, ra⟩ := rv
  obtain ⟨b, vb, eb, fb, hb, rb⟩ := rv2
  rw [ra.length, rb.length, lim_eq] at c
  exact ⟨a, b, va, vb, ea, eb, ha, hb, c, fun p hp => finO_new q2 s2 (RepVs.append ra rb) hp⟩
def ownS (i : Nat) (f : List SV → M (List D)) : MS := exS f fun ds sd S => some (.next (sd.set i (.own (.lst ds))), S)
theorem s_own {i : Nat} {x : Str} {e : Expr} {f : List SV → M (List D)} {pos pos' : Pos} (c : Ctx G X W k) (hi : X.N[i]? = some x) (hx : Loc X.env.scope x) (he : PO_ G X W e f) (hs : swapFree e = true) (hf : X.fn x = true ∨ X.env.scope.names.lookup x = some .local) (i0 : i ≠ 0) :
    PSV G X W (.Assign [.Name x pos'] e pos) (ownS i f) := by
  refine PS.imp (ps_set c.nd hi hx he (swap_free hs) hf) fun En σ H q => ?_
  obtain ⟨w0, w, sd, S, e, r, q⟩ := q
  refine ⟨w0, w, sd, S, e, r, ?_⟩
  unfold ownS exS at q
  rcases hf : f sd S with _ | ⟨_ | ds, S1⟩
  · rw [hf] at q; exact q
  · rw [hf] at q
    exact fun w' cls x e s rx => q w' σ cls x (e.stay r.st.dj) (r.step e s) rx
  · rw [hf] at q
    intro w' p vs e1 s1 h1 h2 h3 h4 h5
    have r1 := r.step e1 s1
    refine q w' (σ.set i (some (.ref p))) (e1.stay r.st.dj) (r1.setown ⟨vs, h1, h2⟩ h3 h4 (r.ex.al _ h5) (fun j o' ho hj => ?_) i0)
    obtain ⟨a, e2, hr, _⟩ := r.ow j o' ho
    rw [hj] at e2
    cases e2
    exact hr.there h5
def newRef (o : Ob) : M D := fun S => some (.ok (.ref S.length), S ++ [o])
theorem share {o : Ob} {p : Addr} (s : RepS G w S) (ho : RepO G w p o) (nF : ¬ w.F p) (nm : p ∉ w.m) : Stay w ⟨w.m ++ [p], w.F, w.H, w.x⟩ ∧ RepS G ⟨w.m ++ [p], w.F, w.H, w.x⟩ (S ++ [o]) := by
  have st : Stay w ⟨w.m ++ [p], w.F, w.H, w.x⟩ := ⟨⟨[p], rfl⟩, fun _ z => z, fun _ _ _ z => z⟩
  refine ⟨st, by simp [s.len], ?_, fun a h => ?_, s.fh, fun n a u h1 h2 => ?_⟩
  · rw [List.nodup_append]
    exact ⟨s.nd, by simp, fun a ha b hb => by
      have : b = p := by simpa using hb
      subst this
      exact fun e => nm (e ▸ ha)⟩
  · show a ∉ w.m ++ [p]
    simp only [List.mem_append, List.mem_singleton, not_or]
    exact ⟨s.dj a h, fun e => nF (by rw [← e]; exact h)⟩
  · have h1 : (w.m ++ [p])[n]? = some a := h1
    by_cases hn : n < w.m.length
    · rw [List.getElem?_append_left hn] at h1
      rw [List.getElem?_append_left (by rw [← s.len]; exact hn)] at h2
      exact RepO.to (w := w) (w' := ⟨w.m ++ [p], w.F, w.H, w.x⟩) rfl st (s.ob n a u h1 h2)
    · rw [List.getElem?_append_right (by omega)] at h1
      rw [List.getElem?_append_right (by rw [← s.len]; omega)] at h2
      have e0 : n - w.m.length = 0 := by
        have := (List.getElem?_eq_some_iff.mp h1).1
        simp at this
        omega
      rw [e0] at h1
      rw [← s.len, e0] at h2
      simp at h1 h2
      subst h1 h2
      exact RepO.to (w := w) (w' := ⟨w.m ++ [p], w.F, w.H, w.x⟩) rfl st ho
theorem v_shr {e : Expr} {f : List SV → M (List D)} (h : PO_ G X W e f) : PV G X W e (fun sd => M.bind (f sd) fun ds => newRef (.lst ds)) := by
  refine PE.imp h fun σ H Q h => ?_
  obtain ⟨w0, w, sd, S, e, r, q⟩ := h
  refine ⟨w0, w, sd, S, e, r, ?_⟩
  have q : FinG G (RepV G) (fun c x H => W c x σ H) w Q (M.bind (f sd) (fun ds => newRef (.lst ds)) S) := q
  unfold M.bind at q
  rcases hf : f sd S with _ | ⟨_ | ds, S1⟩
  · rw [hf] at q; exact q
  · rw [hf] at q; exact q
  · rw [hf] at q
    intro w' p vs e1 s1 h1 h2 h3 h4 h5
    obtain ⟨st, s2⟩ := share (o := .lst ds) s1 ⟨vs, h1, h2⟩ h3 h4
    have q : FinG G (RepV G) (fun c x H => W c x σ H) w Q (some (.ok (.ref S1.length), S1 ++ [.lst ds])) := q
    refine q ⟨w'.m ++ [p], w'.F, w'.H, w'.x⟩ (.ref p) ⟨?_, e1.F, e1.H, fun b hb => ?_, e1.nF, e1.al⟩ s2 ⟨p, rfl, ?_⟩
    · obtain ⟨rr, er⟩ := e1.m
      exact ⟨rr ++ [p], by show w'.m ++ [p] = _; rw [er, List.append_assoc]⟩
    · have hb : b ∈ w'.m ++ [p] := hb
      rcases List.mem_append.mp hb with z | z
      · exact e1.nm b z
      · have : b = p := by simpa using z
        subst this
        exact .inr h5
    · show (w'.m ++ [p])[S1.length]? = some p
      rw [← s1.len, List.getElem?_append_right (Nat.le_refl _)]
      simp
def appS (i : Nat) (f : List SV → M D) : MS := fun sd S => match sd[i]? with
  | some (.own (.lst ds)) => if ds.length < lim then exS f (fun d sd S => some (.next (sd.set i (.own (.lst (ds ++ [d])))), S)) sd S else none
  | _ => none
theorem few_of {cpos : Pos} {es : List Expr} (hs : es.all notStar = true) (hl : es.length < 30) : ((backTo cpos (starEach es X.env)).all (fun x => !x.1) && (backToKw cpos (keywordEach [] X.env)).all (fun x => x.1.isSome)
      && decide (es.length + ([] : List Keyword).length + (if ([] : List Keyword).isEmpty then 0 else 1) < 30)) = true := by
  rw [star_form hs]
  show (true && true && decide (es.length + 0 + 0 < 30)) = true
  rw [decide_eq_true (by omega)]
  rfl
theorem s_app {i : Nat} {x : Str} {p apos pos epos : Pos} {e : Expr} {f : List SV → M D} (hN : X.N[i]? = some x) (hv : Vis X.env.scope x) (hd : (x == ("__debug__" : Str)) = false) (hcd : (x == ("__classdict__" : Str)) = false) (he : PV G X W e f) (hs : notStar e = true) (hp : (apos.endLine == pos.line) = true) :
    PSV G X W (.Expr (.Call (.Attribute (.Name x p) "append" apos) [e] [] pos) epos) (appS i f) := by
  have hs1 : [e].all notStar = true := by simpa using hs
  have base := ps_expr (pos := epos) (pe_bm (cpos := pos) (apos := apos) PySem.F.plainAttrs_list PySem.F.slot_list_append PySem.F.type_list_append mt_append (pe_var (X := X) (pos := p) hN hv hd hcd) (pa_cons he pa_nil (starEach_cons hs)) (attr_base rfl) (few_of hs1 (by simp)) hp (starEach_cons hs) rfl) rfl
  refine PS.imp base fun En σ H q => ?_
  obtain ⟨w0, w, sd, S, e, r, q⟩ := q
  subst e
  unfold appS at q
  rcases hi : sd[i]? with _ | _ | d0 | ⟨ds | ⟨ks, ds⟩ | ⟨cc, ds⟩⟩
  · simp only [hi] at q; exact q.elim
  · simp only [hi] at q; exact q.elim
  · simp only [hi] at q; exact q.elim
  · simp only [hi] at q
    by_cases hz : ds.length < lim
    · rw [if_pos hz] at q
      obtain ⟨a, ha, ⟨vs, h1, h2⟩, nF, nm, n0⟩ := r.ow i _ hi
      refine ⟨.ref a, ha, Or.inl ⟨rfl, vs, .of h1⟩, w0, w, sd, S, rfl, r, exS_step q r fun w1 S1 d v e1 r1 rv q1 => ?_⟩
      obtain ⟨a', ha', ⟨vs', h1', h2'⟩, nF', nm', _⟩ := r1.ow i _ hi
      rw [ha] at ha'
      cases ha'
      refine ⟨a, vs', v, rfl, rfl, h1', by rw [← h2'.length, ← lim_eq]; exact hz, ?_⟩
      have hn : RepO G (w1.wr a (.lst (vs' ++ [v]))) a (.lst (ds ++ [d])) := ⟨_, upd_same, RepVs.append (RepVs.stay (Stay.wr nF') _ _ h2') (RepVs.one (RepV.stay (Stay.wr nF') _ _ rv))⟩
      exact q1 (w1.wr a (.lst (vs' ++ [v]))) σ (Stay.wr nF') (r1.wr hi ha hn)
    · rw [if_neg hz] at q; exact q.elim
  · simp only [hi] at q; exact q.elim
  · simp only [hi] at q; exact q.elim
end
end Ev
set_option maxRecDepth 100000
set_option maxHeartbeats 2000000
namespace Ev
open PySem PySem.Spec PyProof.Rows L2
section
variable {G : Sg} {X : Cx} {W : WX} {k : Nat} {w0 w w1 : Wd} {S : List Ob} {sd : List SV} {σ : L2.St}
theorem R.wrm {n : Nat} {a : Addr} {o' : Ob} {h : HO} (r : R G w0 w sd S σ) (hm : w.m[n]? = some a) (hn : RepO G (w.wr a h) a o') : Stay w (w.wr a h) ∧ R G w0 (w.wr a h) sd (S.set n o') σ := by
  have am : a ∈ w.m := List.mem_of_getElem? hm
  have nF : ¬ w.F a := fun z => r.st.dj a z am
  have st := Stay.wr (o := h) nF
  have hnS : n < S.length := by rw [← r.st.len]; exact (List.getElem?_eq_some_iff.mp hm).1
  have ne : ∀ {j b}, w.m[j]? = some b → j ≠ n → b ≠ a := fun {j b} hj hjn e => by
    subst e
    obtain ⟨l1, e1⟩ := List.getElem?_eq_some_iff.mp hj
    obtain ⟨l2, e2⟩ := List.getElem?_eq_some_iff.mp hm
    exact hjn ((List.getElem_inj r.st.nd).mp (e1.trans e2.symm))
  refine ⟨st, ⟨?_, ?_, r.ln, fun j x z => ?_, fun j o2 z => ?_, r.ap, r.sf⟩⟩
  · refine ⟨r.ex.m, r.ex.F, fun b u hb hu => ?_, r.ex.nm, r.ex.nF, fun b z => ?_⟩
    · have nb : b ≠ a := fun e => by
        subst e
        rcases r.ex.nm b am with z | z
        · exact hb z
        · rw [z] at hu; cases hu
      show upd w.H a h b = some u
      rw [upd_ne nb]
      exact r.ex.H b u hb hu
    · have z : upd w.H a h b = none := z
      by_cases e : b = a
      · rw [e, upd_same] at z; cases z
      · rw [upd_ne e] at z
        exact r.ex.al b z
  · refine ⟨by rw [List.length_set]; exact r.st.len, r.st.nd, r.st.dj, fun b z => ?_, fun j b u h1 h2 => ?_⟩
    · show upd w.H a h b ≠ none
      rw [upd_ne (fun e => nF (by rw [← e]; exact z))]
      exact r.st.fh b z
    · by_cases e : n = j
      · subst e
        rw [List.getElem?_set_self hnS] at h2
        cases h2
        rw [show w.m[n]? = some b from h1] at hm
        cases hm
        exact hn
      · rw [List.getElem?_set_ne e] at h2
        exact RepO.to (upd_ne (ne h1 fun z => e z.symm)) st (r.st.ob j b u h1 h2)
  · obtain ⟨v, h1, h2⟩ := r.vl j x z
    exact ⟨v, h1, RepV.stay st _ _ h2⟩
  · obtain ⟨b, h1, h2, h3, h4, h5⟩ := r.ow j o2 z
    have nb : b ≠ a := fun e => h4 (e ▸ am)
    exact ⟨b, h1, RepO.to (upd_ne nb) st h2, h3, h4, h5⟩
def itemT (fo fi : List SV → M D) : Tgt := fun d sd S => match fo sd S with
  | some (.ok (.ref n), S1) => match fi sd S1 with
    | some (.ok (.int j), S2) => match S2[n]? with
      | some (.lst ds) => match ixN ds.length j with
        | some i => some (sd, S2.set n (.lst (ds.set i d)))
        | none => none
      | _ => none
    | _ => none
  | _ => none
theorem sub_tree {o i : Expr} {pos : Pos} (hs : notSlice i = true) (v : Value) : assign (.Subscript o i pos) X.env v = (do
      let ov ← holding [v] (eval o X.env)
      let iv ← holding [v, ov] (eval i X.env)
      standAt pos
      holding [v, ov, iv] (setItem ov iv v)
      release [v, ov, iv] []) := by
  cases i <;> first | rfl | cases hs
theorem g_item {o i : Expr} {fo fi : List SV → M D} {pos : Pos} (ho : PV G X W o fo) (hi : PV G X W i fi) (hs : notSlice i = true) : PGV G X [] (.Subscript o i pos) (itemT fo fi) := by
  refine PG.imp (pg_sub ho hi set_list (sub_tree hs)) fun v σ H Q q => ?_
  obtain ⟨w0, w, sd, S, d, e, r, rd, q⟩ := q
  refine ⟨w0, w, sd, S, e, r, ?_⟩
  unfold itemT at q
  rcases hf : fo sd S with _ | ⟨x | d1, S1⟩
  · rw [hf] at q; exact q
  · rw [hf] at q; exact q.elim
  · rw [hf] at q
    cases d1 with
    | ref n =>
      simp only at q
      intro w1 v1 e1 s1 ⟨a, ev, hm⟩
      have r1 := r.step e1 s1
      refine ⟨w0, w1, sd, S1, rfl, r1, ?_⟩
      rcases hg : fi sd S1 with _ | ⟨x | d2, S2⟩
      · rw [hg] at q; exact q
      · rw [hg] at q; exact q.elim
      · rw [hg] at q
        cases d2 with
        | int j =>
          simp only at q
          intro w2 v2 e2 s2 rj
          cases (show v2 = .int j from rj)
          have r2 := r1.step e2 s2
          obtain ⟨rr, er⟩ := e2.m
          have hm2 : w2.m[n]? = some a := by
            rw [er, List.getElem?_append_left (List.getElem?_eq_some_iff.mp hm).1]; exact hm
          rcases hn : S2[n]? with _ | ⟨ds | _ | _⟩
          · simp only [hn] at q; exact q.elim
          · simp only [hn] at q
            obtain ⟨vs, hh, rs⟩ := s2.ob n a _ hm2 hn
            rcases hx : ixN ds.length j with _ | i2
            · simp only [hx] at q; exact q.elim
            · simp only [hx] at q
              have rd2 : RepV G w2 d v := RepV.mono (e1.trans e2) r.st.dj _ _ rd
              have nF : ¬ w2.F a := fun z => s2.dj a z (List.mem_of_getElem? hm2)
              have st := Stay.wr (o := .lst (vs.set i2 v)) nF
              obtain ⟨st2, r3⟩ := r2.wrm hm2 (h := .lst (vs.set i2 v)) (o' := .lst (ds.set i2 d)) ⟨_, upd_same, RepVs.set i2 (RepVs.stay st _ _ rs) (RepV.stay st _ _ rd2)⟩
              refine ⟨a, vs, j, i2, ev, rfl, hh, by rw [← rs.length]; exact hx, ?_⟩
              exact q (w2.wr a _) σ (((e1.trans e2).stay r.st.dj).trans st2) r3 fun _ _ => rfl
          · simp only [hn] at q; exact q.elim
          · simp only [hn] at q; exact q.elim
        | _ => exact q.elim
    | _ => exact q.elim
def setIS (i : Nat) (fi f : List SV → M D) : MS := fun sd S => match sd[i]? with
  | some (.own (.lst ds)) => exS f (fun d sd S => exS fi (fun j sd S => match j with
    | .int j => match ixN ds.length j with
      | some i2 => some (.next (sd.set i (.own (.lst (ds.set i2 d)))), S)
      | none => none
    | _ => none) sd S) sd S
  | _ => none
theorem s_setI {i : Nat} {x : Str} {p spos pos : Pos} {ix e : Expr} {fi f : List SV → M D} (c : Ctx G X W k) (hN : X.N[i]? = some x) (hv : Vis X.env.scope x) (hd : (x == ("__debug__" : Str)) = false) (hcd : (x == ("__classdict__" : Str)) = false) (he : PV G X W e f) (hi : PV G X W ix fi) (hs : notSlice ix = true)
    (hs1 : swapsWithSole [.Subscript (.Name x p) ix spos] e pos.line X.env = pure false) (hw : swappedStores [.Subscript (.Name x p) ix spos] e X.env = pure none) :
    PSV G X W (.Assign [.Subscript (.Name x p) ix spos] e pos) (setIS i fi f) := by
  refine PS.imp (ps_asg he (pg_sub (pe_var (pos := p) hN hv hd hcd) hi set_list (sub_tree hs)) hs1 hw rfl) fun En σ H q => ?_
  obtain ⟨w0, w, sd, S, e, r, q⟩ := q
  unfold setIS at q
  rcases hi : sd[i]? with _ | _ | d0 | ⟨ds | ⟨ks, ds⟩ | ⟨cc, ds⟩⟩
  · simp only [hi] at q; exact q.elim
  · simp only [hi] at q; exact q.elim
  · simp only [hi] at q; exact q.elim
  · simp only [hi] at q
    refine ⟨w0, w, sd, S, e, r, exS_step q r fun w1 S1 d v e1 r1 rv q1 => ?_⟩
    obtain ⟨a, ha, _⟩ := r1.ow i _ hi
    refine ⟨.ref a, ha, w0, w1, sd, S1, rfl, r1, exS_step q1 r1 fun w2 S2 d2 v2 e2 r2 rv2 q2 => ?_⟩
    obtain ⟨a', ha', ⟨vs', h1', h2'⟩, nF', nm', _⟩ := r2.ow i _ hi
    rw [ha] at ha'
    cases ha'
    cases d2 with
    | int j =>
      cases (show v2 = .int j from rv2)
      simp only at q2
      rcases hx : ixN ds.length j with _ | i2
      · simp only [hx] at q2; exact q2.elim
      · simp only [hx] at q2
        refine ⟨a, vs', j, i2, rfl, rfl, h1', by rw [← h2'.length]; exact hx, ?_⟩
        have rv' : RepV G w2 d v := RepV.mono e2 r1.st.dj _ _ rv
        have hn : RepO G (w2.wr a (.lst (vs'.set i2 v))) a (.lst (ds.set i2 d)) := ⟨_, upd_same, RepVs.set i2 (RepVs.stay (Stay.wr nF') _ _ h2') (RepV.stay (Stay.wr nF') _ _ rv')⟩
        exact q2 (w2.wr a (.lst (vs'.set i2 v))) σ (Stay.wr nF') (r2.wr hi ha hn)
    | _ => exact q2.elim
  · simp only [hi] at q; exact q.elim
  · simp only [hi] at q; exact q.elim
theorem putF_zip {f : Str} : ∀ {fs : List Str} {vs : List V} {j : Nat} {v : V}, fs.Nodup → fs[j]? = some f → j < vs.length → putF f v (fs.zip vs) = fs.zip (vs.set j v)
  | [], _, _, _, _, h, _ => by simp at h
  | _ :: _, [], _, _, _, _, h => by simp at h
  | g :: fs, u :: vs, 0, v, _, h, _ => by
    simp at h
    subst h
    show putF g v ((g, u) :: fs.zip vs) = (g, v) :: fs.zip vs
    unfold putF
    rw [if_pos rfl]
  | g :: fs, u :: vs, j + 1, v, nd, h, hl => by
    have nd := List.nodup_cons.mp nd
    have hm : fs[j]? = some f := by simpa using h
    have hne : ¬ g = f := fun e => nd.1 (e ▸ List.mem_of_getElem? hm)
    show putF f v ((g, u) :: fs.zip vs) = (g, u) :: fs.zip (vs.set j v)
    unfold putF
    rw [if_neg hne, putF_zip nd.2 hm (by simpa using hl)]
theorem putF_new {f : Str} : ∀ {fs : List Str} {vs : List V} {v : V}, fs.Nodup → fs[vs.length]? = some f → putF f v (fs.zip vs) = fs.zip (vs ++ [v])
  | [], vs, _, _, h => by simp at h
  | g :: fs, [], v, _, h => by
    simp at h
    subst h
    show putF g v [] = [(g, v)] ++ fs.zip []
    simp [putF]
  | g :: fs, u :: vs, v, nd, h => by
    have nd := List.nodup_cons.mp nd
    have hm : fs[vs.length]? = some f := by simpa using h
    have hne : ¬ g = f := fun e => nd.1 (e ▸ List.mem_of_getElem? hm)
    show putF f v ((g, u) :: fs.zip vs) = (g, u) :: fs.zip (vs ++ [v])
    unfold putF
    rw [if_neg hne, putF_new nd.2 hm]
def putL (ds : List D) (j : Nat) (d : D) : Option (List D) := if j < ds.length then some (ds.set j d) else if j = ds.length then some (ds ++ [d]) else none
structure FldT (X : Cx) (G : Sg) (m : Str) (tbl : Nat → Option Nat) : Prop where
  at_ : ∀ c j, tbl c = some j → Cls X.K (G.ca c) ∧ NoAttr X.K (G.ca c) m ∧ (G.fn c).Nodup ∧ (G.fn c)[j]? = some m ∧ (G.fn c).length < 1000
def setFS (i : Nat) (tbl : Nat → Option Nat) (f : List SV → M D) : MS := exS f fun d sd S => match sd[i]? with
  | some (.own (.ins c ds)) => match tbl c with
    | some j => match putL ds j d with
      | some es => some (.next (sd.set i (.own (.ins c es))), S)
      | none => none
    | none => none
  | _ => none
theorem s_setF {i : Nat} {x m : Str} {p apos pos : Pos} {e : Expr} {f : List SV → M D} {tbl : Nat → Option Nat} (T : FldT X G m tbl) (hN : X.N[i]? = some x) (hv : Vis X.env.scope x) (hd : (x == ("__debug__" : Str)) = false) (hcd : (x == ("__classdict__" : Str)) = false) (he : PV G X W e f) (hs : swapFree e = true) :
    PSV G X W (.Assign [.Attribute (.Name x p) m apos] e pos) (setFS i tbl f) := by
  refine PS.imp (ps_fld (pe_var (X := X) (pos := p) hN hv hd hcd) he (swap_free hs)) fun En σ H q => ?_
  obtain ⟨w0, w, sd, S, e, r, q⟩ := q
  refine ⟨w0, w, sd, S, e, r, exS_step q r fun w1 S1 d v e1 r1 rv q1 => ?_⟩
  rcases hi : sd[i]? with _ | _ | d0 | ⟨ds | ⟨ks, ds⟩ | ⟨cc, ds⟩⟩
  · simp only [hi] at q1; exact q1.elim
  · simp only [hi] at q1; exact q1.elim
  · simp only [hi] at q1; exact q1.elim
  · simp only [hi] at q1; exact q1.elim
  · simp only [hi] at q1; exact q1.elim
  · simp only [hi] at q1
    rcases ht : tbl cc with _ | j
    · simp only [ht] at q1; exact q1.elim
    · simp only [ht] at q1
      obtain ⟨cl, na, nd, hj, hl⟩ := T.at_ cc j ht
      obtain ⟨a, ha, ⟨dx, vs, h1, h2, h3⟩, nF, nm, n0⟩ := r1.ow i _ hi
      have hlen : ((G.fn cc).zip vs).length < 1000 := by
        rw [List.length_zip]; omega
      refine ⟨.ref a, ha, a, _, dx, _, rfl, h1, cl, na, hlen, ?_⟩
      unfold putL at q1
      by_cases c1 : j < ds.length
      · simp only [if_pos c1] at q1
        rw [putF_zip nd hj (by rw [← h3.length]; exact c1)]
        have hn : RepO G (w1.wr a (.ins (G.ca cc) dx ((G.fn cc).zip (vs.set j v)))) a (.ins cc (ds.set j d)) := ⟨dx, _, upd_same, by rw [List.length_set]; exact h2, RepVs.set j (RepVs.stay (Stay.wr nF) _ _ h3) (RepV.stay (Stay.wr nF) _ _ rv)⟩
        exact q1 _ σ (Stay.wr nF) (r1.wr hi ha hn)
      · simp only [if_neg c1] at q1
        by_cases c2 : j = ds.length
        · simp only [if_pos c2] at q1
          subst c2
          rw [h3.length] at hj
          rw [putF_new nd hj]
          have hn : RepO G (w1.wr a (.ins (G.ca cc) dx ((G.fn cc).zip (vs ++ [v])))) a (.ins cc (ds ++ [d])) := ⟨dx, _, upd_same, by
            rw [List.length_append]
            exact (List.getElem?_eq_some_iff.mp hj).1, RepVs.append (RepVs.stay (Stay.wr nF) _ _ h3) (RepVs.one (RepV.stay (Stay.wr nF) _ _ rv))⟩
          exact q1 _ σ (Stay.wr nF) (r1.wr hi ha hn)
        · simp only [if_neg c2] at q1; exact q1.elim
def ownF (i : Nat) (tbl : Nat → Option Nat) : List SV → M D := fun sd => match sd[i]? with
  | some (.own (.ins c ds)) => match tbl c with
    | some j => match ds[j]? with
      | some d => M.pure d
      | none => M.stuck
    | none => M.stuck
  | _ => M.stuck
theorem v_ownF {i : Nat} {x m : Str} {p pos : Pos} {tbl : Nat → Option Nat} (T : FldT X G m tbl) (hN : X.N[i]? = some x) (hv : Vis X.env.scope x) (hd : (x == ("__debug__" : Str)) = false) (hcd : (x == ("__classdict__" : Str)) = false) : PV G X W (.Attribute (.Name x p) m pos) (ownF i tbl) := by
  refine PE.imp (pe_fld (pe_var (X := X) (pos := p) hN hv hd hcd) (attr_base rfl)) fun σ H Q q => ?_
  obtain ⟨w0, w, sd, S, e, r, q⟩ := q
  subst e
  unfold ownF at q
  rcases hi : sd[i]? with _ | _ | d0 | ⟨ds | ⟨ks, ds⟩ | ⟨cc, ds⟩⟩
  · simp only [hi] at q; exact q.elim
  · simp only [hi] at q; exact q.elim
  · simp only [hi] at q; exact q.elim
  · simp only [hi] at q; exact q.elim
  · simp only [hi] at q; exact q.elim
  · simp only [hi] at q
    rcases ht : tbl cc with _ | j
    · simp only [ht] at q; exact q.elim
    · simp only [ht] at q
      rcases hj2 : ds[j]? with _ | d
      · simp only [hj2] at q; exact q.elim
      · simp only [hj2] at q
        obtain ⟨cl, na, nd, hj, hl⟩ := T.at_ cc j ht
        obtain ⟨a, ha, ⟨dx, vs, h1, h2, h3⟩, _⟩ := r.ow i _ hi
        obtain ⟨v, hv1, hv2⟩ := h3.get hj2
        exact ⟨.ref a, ha, a, _, dx, _, v, rfl, h1, cl, na, lookup_zip_some nd hj hv1, fin_pure q r.st hv2⟩
def ownIx (i : Nat) (fi : List SV → M D) : List SV → M D := fun sd => match sd[i]? with
  | some (.own (.lst ds)) => M.bind (fi sd) fun j => dIx (.lst ds) j
  | _ => M.stuck
theorem v_ownIx {i : Nat} {x : Str} {p pos : Pos} {b : Expr} {fi : List SV → M D} (hN : X.N[i]? = some x) (hv : Vis X.env.scope x) (hd : (x == ("__debug__" : Str)) = false) (hcd : (x == ("__classdict__" : Str)) = false) (hb : PV G X W b fi) (hs : notSlice b = true) : PV G X W (.Subscript (.Name x p) b pos) (ownIx i fi) := by
  refine PE.imp (pe_ix ix_list (pe_var (X := X) (pos := p) hN hv hd hcd) hb (plain_ix hs)) fun σ H Q q => ?_
  obtain ⟨w0, w, sd, S, e, r, q⟩ := q
  subst e
  unfold ownIx at q
  rcases hi : sd[i]? with _ | _ | d0 | ⟨ds | ⟨ks, ds⟩ | ⟨cc, ds⟩⟩
  · simp only [hi] at q; exact q.elim
  · simp only [hi] at q; exact q.elim
  · simp only [hi] at q; exact q.elim
  · simp only [hi] at q
    obtain ⟨a, ha, _⟩ := r.ow i _ hi
    refine ⟨.ref a, ha, w0, w, sd, S, rfl, r, fin_step q fun w1 S1 d v e1 s1 rv q1 => ?_⟩
    obtain ⟨a', ha', ⟨vs, h1, h2⟩, _⟩ := (r.step e1 s1).ow i _ hi
    rw [ha] at ha'
    cases ha'
    unfold dIx at q1
    cases d with
    | int j =>
      cases (show v = .int j from rv)
      simp only at q1
      rcases hx : atI ds j with _ | z
      · simp only [hx] at q1; exact q1.elim
      · simp only [hx] at q1
        obtain ⟨v1, h3, h4⟩ := atI_rep h2 hx
        exact ⟨a, vs, j, v1, rfl, rfl, .of h1, h3, fin_pure (a := z) q1 s1 h4⟩
    | _ => exact q1.elim
  · simp only [hi] at q; exact q.elim
  · simp only [hi] at q; exact q.elim
end
end Ev
set_option maxRecDepth 100000
set_option maxHeartbeats 2000000
namespace Ev
open PySem PySem.Spec PyProof.Rows L2
def cutD {α : Type} (xs : List α) (lo hi : Option Int) : List α := (xs.drop (HT.sIx xs.length 0 lo)).take (HT.sIx xs.length xs.length hi - HT.sIx xs.length 0 lo)
section
variable {G : Sg} {X : Cx} {W : WX} {k : Nat} {w0 w w1 : Wd} {S : List Ob} {sd : List SV} {σ : L2.St}
theorem cut_rep {ds : List D} {vs : List V} {lo hi : Option Int} (r : RepVs G w ds vs) : RepVs G w (cutD ds lo hi) (cutV vs lo hi) := by
  unfold cutD cutV
  rw [r.length]
  exact RepVs.take _ (RepVs.drop _ r)
def dSl (d : D) (lo hi : Option Int) : M D := match d with
  | .lst ds => M.pure (.lst (cutD ds lo hi))
  | .scr ds => M.pure (.lst (cutD ds lo hi))
  | .tup ds => M.pure (.tup (cutD ds lo hi))
  | .str z => if z.length ≤ lim then M.pure (.str (cutS z lo hi)) else M.stuck
  | _ => M.stuck
def rSlD (G : Sg) : V → Option Int → Option Int → Hp → VK → Prop := fun v lo hi H Q => ∃ W w S d, w.H = H ∧ RepS G w S ∧ RepV G w d v ∧ FinG G (RepV G) W w Q (dSl d lo hi S)
theorem sl_D (cK : G.K = X.K) : SlR X (rSlD G) := by
  have base := (sl_list (X := X)).or ((sl_tupA (X := X)).or (sl_str (X := X)))
  intro pins s σ H x v vl vu lo hi sl Q I rx hs pl pu q
  refine base pins s σ H x v vl vu lo hi sl Q I rx hs pl pu ?_
  obtain ⟨W, w, S, d, rfl, st, r, q⟩ := q
  cases d with
  | lst ds =>
    obtain ⟨a, vs, rfl, f, hh, rs⟩ := r
    exact .inl ⟨a, vs, rfl, .of hh, fun p hp => q (w.frz p _) _ (Ext.frz hp) (st.frz hp) ⟨p, _, rfl, .inr rfl, upd_same, RepVs.mono (Ext.frz hp) st.dj _ _ (cut_rep rs)⟩⟩
  | scr ds =>
    obtain ⟨a, vs, rfl, hh, rs⟩ := r
    exact .inl ⟨a, vs, rfl, sqL_of cK hh, fun p hp => q (w.frz p _) _ (Ext.frz hp) (st.frz hp) ⟨p, _, rfl, .inr rfl, upd_same, RepVs.mono (Ext.frz hp) st.dj _ _ (cut_rep rs)⟩⟩
  | tup ds =>
    obtain ⟨a, vs, rfl, hh, rs⟩ := r
    refine .inr (.inl ⟨a, vs, rfl, sqT_of cK hh, fun hw => ?_, fun _ p hp => ?_⟩)
    · have e : cutD ds lo hi = ds := by
        unfold cutD
        rw [rs.length, hw.1, hw.2, List.drop_zero, Nat.sub_zero, ← rs.length, List.take_length]
      have q : FinG G (RepV G) W w Q (M.pure (.tup (cutD ds lo hi)) S) := q
      rw [e] at q
      exact fin_pure q st ⟨a, vs, rfl, hh, rs⟩
    · exact q (w.frz p _) _ (Ext.frz hp) (st.frz hp) ⟨p, _, rfl, .inl ⟨.inr rfl, .inl upd_same⟩, RepVs.mono (Ext.frz hp) st.dj _ _ (cut_rep rs)⟩
  | str z =>
    cases (show x = .str z from r)
    obtain ⟨c, q⟩ := FinG.ite q
    exact .inr (.inr ⟨z, rfl, by rw [← lim_eq]; exact c, fin_pure q st rfl⟩)
  | _ => exact q.elim
def repO : Wd → Option Int → Option Int → Prop := fun _ a b => b = a
abbrev POV (G : Sg) (X : Cx) (W : WX) (e : Option Expr) (f : List SV → M (Option Int)) : Prop := PO X e (fun σ H Q => teG G repO W f σ H Q)
theorem PO.imp {e : Option Expr} {t t' : TO} (h : PO X e t) (i : ∀ σ H Q, t' σ H Q → t σ H Q) : PO X e t' := ⟨fun p s σ H Q I q => h.run p s σ H Q I (i σ H Q q)⟩
theorem q_none : POV G X W none (fun _ => M.pure none) := by
  refine PO.imp po_none fun σ H Q h => ?_
  obtain ⟨w0, w, sd, S, e, r, q⟩ := h
  subst e
  exact fin_pure q r.st rfl
def toI : D → M (Option Int)
  | .int i => M.pure (some i)
  | _ => M.stuck
theorem q_some {e : Expr} {f : List SV → M D} (h : PV G X W e f) : POV G X W (some e) (fun sd => M.bind (f sd) toI) := by
  refine PO.imp (po_some h) fun σ H Q h => ?_
  obtain ⟨w0, w, sd, S, e, r, q⟩ := h
  refine ⟨w0, w, sd, S, e, r, fin_step q fun w1 S1 d v e1 s1 rv q1 => ?_⟩
  cases d with
  | int i => cases (show v = .int i from rv); exact ⟨i, rfl, fin_pure q1 s1 rfl⟩
  | _ => exact q1.elim
theorem v_slice {e : Expr} {lo hi : Option Expr} {f : List SV → M D} {fl fh : List SV → M (Option Int)} {p2 pos : Pos} (cK : G.K = X.K) (he : PV G X W e f) (hl : POV G X W lo fl) (hh : POV G X W hi fh) :
    PV G X W (.Subscript e (.Slice lo hi none p2) pos) (fun sd => M.bind (f sd) fun d => M.bind (fl sd) fun l => M.bind (fh sd) fun u => dSl d l u) := by
  refine PE.imp (pe_slice (sl_D cK) he hl hh) fun σ H Q h => ?_
  obtain ⟨w0, w, sd, S, e, r, q⟩ := h
  refine ⟨w0, w, sd, S, e, r, fin_step q fun w1 S1 d v e1 s1 rv q1 => ⟨w0, w1, sd, S1, rfl, r.step e1 s1, fin_step q1 fun w2 S2 l l' e2 s2 rl q2 => ⟨w0, w2, sd, S2, rfl, (r.step e1 s1).step e2 s2, fin_step q2 fun w3 S3 u u' e3 s3 ru q3 => ?_⟩⟩⟩
  cases (show l' = l from rl)
  cases (show u' = u from ru)
  exact ⟨_, w3, S3, d, rfl, s3, RepV.mono (e2.trans e3) s1.dj d v rv, q3⟩
def dRev : D → M D
  | .lst ds => M.pure (.lst ds.reverse)
  | .scr ds => M.pure (.lst ds.reverse)
  | _ => M.stuck
theorem v_rev {e : Expr} {f : List SV → M D} {j : Nat} {p1 p2 p3 pos : Pos} (cK : G.K = X.K) (he : PV G X W e f) : PV G X W (.Subscript e (.Slice none none (some (.UnaryOp .USub (.Constant (.int 1) j p1) p2)) p3) pos) (fun sd => M.bind (f sd) dRev) := by
  refine PE.imp (pe_revL he) fun σ H Q h => ?_
  obtain ⟨w0, w, sd, S, e, r, q⟩ := h
  refine ⟨w0, w, sd, S, e, r, fin_step q fun w1 S1 d v e1 s1 rv q1 => ?_⟩
  cases d with
  | lst ds =>
    obtain ⟨a, vs, ev, f, hh, rs⟩ := rv
    exact ⟨a, vs, ev, .of hh, fun p hp => q1 (w1.frz p _) _ (Ext.frz hp) (s1.frz hp) ⟨p, _, rfl, .inr rfl, upd_same, RepVs.mono (Ext.frz hp) s1.dj _ _ rs.reverse⟩⟩
  | scr ds =>
    obtain ⟨a, vs, ev, hh, rs⟩ := rv
    exact ⟨a, vs, ev, sqL_of cK hh, fun p hp => q1 (w1.frz p _) _ (Ext.frz hp) (s1.frz hp) ⟨p, _, rfl, .inr rfl, upd_same, RepVs.mono (Ext.frz hp) s1.dj _ _ rs.reverse⟩⟩
  | _ => exact q1.elim
def dNeg : D → M D
  | .int i => M.pure (.int (-i))
  | _ => M.stuck
theorem v_neg {a : Expr} {f : List SV → M D} {pos : Pos} (ha : PV G X W a f) : PV G X W (.UnaryOp .USub a pos) (fun sd => M.bind (f sd) dNeg) := by
  refine PE.imp (pe_un un_neg ha) fun σ H Q h => ?_
  obtain ⟨w0, w, sd, S, e, r, q⟩ := h
  refine ⟨w0, w, sd, S, e, r, fin_step q fun w1 S1 d v e1 s1 rv q1 => ?_⟩
  cases d with
  | int i => cases (show v = .int i from rv); exact ⟨i, rfl, fin_pure q1 s1 rfl⟩
  | _ => exact q1.elim
def signIn (x z : Str) : Option Bool := match x.cps.toList with
  | [c] => some (decide (c ∈ z.cps.toList))
  | _ => none
def txts : List D → Option (List Str)
  | [] => some []
  | .str x :: ds => (txts ds).map (x :: ·)
  | _ :: _ => none
def dIn (neg : Bool) (d e : D) : M D := match e with
  | .str z => match d with
    | .str x => match signIn x z with
      | some b => M.pure (.bl (if neg then !b else b))
      | none => M.stuck
    | _ => M.stuck
  | .lst ds => match toP d, toPs ds with
    | some p, some ps => if SeqAt.shaped p = true ∧ SeqAt.shaped (.list ps) = true then M.pure (.bl (if neg then !(ps.any fun z => PyData.eqv z p) else ps.any fun z => PyData.eqv z p)) else M.stuck
    | _, _ => M.stuck
  | .tup ds => match d with
    | .str x => match txts ds with
      | some xs => M.pure (.bl (if neg then !xs.contains x else xs.contains x))
      | none => M.stuck
    | _ => M.stuck
  | _ => M.stuck
theorem strs_rep : ∀ {ds : List D} {xs : List Str} {vs : List V}, txts ds = some xs → RepVs G w ds vs → vs = xs.map V.str
  | [], xs, vs, h, r => by unfold txts at h; cases h; exact r
  | .str x :: ds, xs, vs, h, r => by
    unfold txts at h
    obtain ⟨ys, h1, h2⟩ := Option.map_eq_some_iff.mp h
    subst h2
    obtain ⟨v, t, e, h3, h4⟩ := r
    rw [e, strs_rep h1 h4]
    cases (show v = .str x from h3)
    rfl
  | .non :: _, _, _, h, _ => by cases h
  | .bl _ :: _, _, _, h, _ => by cases h
  | .int _ :: _, _, _, h, _ => by cases h
  | .tup _ :: _, _, _, h, _ => by cases h
  | .lst _ :: _, _, _, h, _ => by cases h
  | .scr _ :: _, _, _, h, _ => by cases h
  | .dct _ _ :: _, _, _, h, _ => by cases h
  | .ins _ _ :: _, _, _, h, _ => by cases h
  | .ref _ :: _, _, _, h, _ => by cases h
  | .ty _ :: _, _, _, h, _ => by cases h
  | .cls _ :: _, _, _, h, _ => by cases h
theorem all_flat (xs : List Str) : (xs.map V.str).all flatV = true := by
  rw [List.all_map]
  exact List.all_eq_true.mpr fun _ _ => rfl
theorem inV_strs (x : Str) (xs : List Str) : inV (.str x) (xs.map V.str) = xs.contains x := by
  unfold inV
  induction xs with
  | nil => rfl
  | cons y ys ih =>
    rw [List.map_cons, List.any_cons, ih, List.contains_cons]
    congr 1
    show eqV (.str y) (.str x) = (x == y)
    have : eqV (.str y) (.str x) = (y == x) := by first | rfl | simp [eqV]
    rw [this]
    exact Bool.beq_comm ..
theorem o_in (cK : G.K = X.K) (hr : Rm G.gd k X.A) : OpR X (compareOp .In) (rD2 G (dIn false)) := by
  have hu : X.A.units + 65 < cLine := by have := hr.room.un; omega
  refine OpR.imp (op_in_sign.or ((op_inD hu).or op_in_seq)) fun v u H Q q => ?_
  obtain ⟨W, w, S, d, e, rfl, s, r1, r2, q⟩ := q
  unfold dIn at q
  cases e with
  | str z =>
    cases d with
    | str x =>
      cases (show v = .str x from r1)
      cases (show u = .str z from r2)
      rcases hx : signIn x z with _ | b
      · simp only [hx] at q; exact q.elim
      · simp only [hx] at q
        unfold signIn at hx
        split at hx
        · rename_i c hc
          cases hx
          refine .inl ⟨c, z, ?_, rfl, fin_pure (b := V.bl _) q s rfl⟩
          congr 1
          rcases x with ⟨⟨l⟩⟩
          have : l = [c] := hc
          rw [this]
        · cases hx
    | _ => exact q.elim
  | lst ds =>
    rcases hp : toP d with _ | p
    · simp only [hp] at q; exact q.elim
    · rcases hq : toPs ds with _ | ps
      · simp only [hp, hq] at q; exact q.elim
      · simp only [hp, hq] at q
        obtain ⟨⟨c1, c2⟩, q⟩ := FinG.ite q
        have hl : toP (.lst ds) = some (.list ps) := by show (toPs ds).map _ = _; rw [hq]; rfl
        exact .inr (.inl ⟨p, ps, toP_dp cK d v p r1 hp, toP_dp cK (.lst ds) u (.list ps) r2 hl, c1, c2, fin_pure (b := V.bl _) q s rfl⟩)
  | tup ds =>
    cases d with
    | str x =>
      cases (show v = .str x from r1)
      rcases hx : txts ds with _ | xs
      · simp only [hx] at q; exact q.elim
      · simp only [hx] at q
        obtain ⟨a, vs, e, hh, rs⟩ := r2
        have ev := strs_rep hx rs
        subst ev
        refine .inr (.inr ⟨a, _, e, .inr (sqT_of cK hh), rfl, all_flat xs, ?_⟩)
        have q2 := fin_pure (b := V.bl (xs.contains x)) q s rfl
        rw [inV_strs]
        exact q2
    | _ => exact q.elim
  | _ => exact q.elim
theorem o_notin (cK : G.K = X.K) (hr : Rm G.gd k X.A) : OpR X (compareOp .NotIn) (rD2 G (dIn true)) := by
  have hu : X.A.units + 65 < cLine := by have := hr.room.un; omega
  refine OpR.imp (op_notIn_sign.or ((op_notInD hu).or op_notIn_seq)) fun v u H Q q => ?_
  obtain ⟨W, w, S, d, e, rfl, s, r1, r2, q⟩ := q
  unfold dIn at q
  cases e with
  | str z =>
    cases d with
    | str x =>
      cases (show v = .str x from r1)
      cases (show u = .str z from r2)
      rcases hx : signIn x z with _ | b
      · simp only [hx] at q; exact q.elim
      · simp only [hx] at q
        unfold signIn at hx
        split at hx
        · rename_i c hc
          cases hx
          refine .inl ⟨c, z, ?_, rfl, fin_pure (b := V.bl _) q s rfl⟩
          congr 1
          rcases x with ⟨⟨l⟩⟩
          have : l = [c] := hc
          rw [this]
        · cases hx
    | _ => exact q.elim
  | lst ds =>
    rcases hp : toP d with _ | p
    · simp only [hp] at q; exact q.elim
    · rcases hq : toPs ds with _ | ps
      · simp only [hp, hq] at q; exact q.elim
      · simp only [hp, hq] at q
        obtain ⟨⟨c1, c2⟩, q⟩ := FinG.ite q
        have hl : toP (.lst ds) = some (.list ps) := by show (toPs ds).map _ = _; rw [hq]; rfl
        exact .inr (.inl ⟨p, ps, toP_dp cK d v p r1 hp, toP_dp cK (.lst ds) u (.list ps) r2 hl, c1, c2, fin_pure (b := V.bl _) q s rfl⟩)
  | tup ds =>
    cases d with
    | str x =>
      cases (show v = .str x from r1)
      rcases hx : txts ds with _ | xs
      · simp only [hx] at q; exact q.elim
      · simp only [hx] at q
        obtain ⟨a, vs, e, hh, rs⟩ := r2
        have ev := strs_rep hx rs
        subst ev
        refine .inr (.inr ⟨a, _, e, .inr (sqT_of cK hh), rfl, all_flat xs, ?_⟩)
        have q2 := fin_pure (b := V.bl (!xs.contains x)) q s rfl
        show Q (.bl (if true = true then !inV (.str x) (xs.map V.str) else inV (.str x) (xs.map V.str))) w.H
        rw [inV_strs]
        exact q2
    | _ => exact q.elim
  | _ => exact q.elim
end
end Ev
set_option maxRecDepth 100000
set_option maxHeartbeats 2000000
namespace Ev
open PySem PySem.Spec PyProof.Rows L2
section
variable {G : Sg} {X : Cx} {W : WX} {k : Nat} {w0 w w1 : Wd} {S : List Ob} {sd : List SV} {σ : L2.St}
def chainD (g g' : D → D → M D) (fa fb fc : List SV → M D) : List SV → M D := fun sd => M.bind (fa sd) fun x => M.bind (fb sd) fun y => M.bind (g x y) fun z => M.bind (toB z) fun k => if k = true then M.bind (fc sd) fun u => g' y u else M.pure (.bl false)
theorem toB_bind {α β : Type} {rep : Wd → α → β → Prop} {W' : Value → Option Addr → Hp → Prop} {Q : β → Hp → Prop} {d : D} {v : V} {kk : Bool → M α} (h : FinG G rep W' w Q (M.bind (toB d) kk S)) (r : RepV G w d v) : ∃ b, v = .bl b ∧ FinG G rep W' w Q (kk b S) := by
  cases d with
  | bl b => exact ⟨b, r, h⟩
  | _ => exact False.elim h
theorem chain_read {g g' : D → D → M D} {fa fb fc : List SV → M D} {H : Hp} {Q : VK} (h : teV G W (chainD g g' fa fb fc) σ H Q) : tChain (rD2 G g) (rD2 G g') (teV G W fa) (teV G W fb) (teV G W fc) σ H Q := by
  obtain ⟨w0, w, sd, S, e, r, q⟩ := h
  refine ⟨w0, w, sd, S, e, r, fin_step q fun w1 S1 d v e1 s1 rv q1 => ⟨w0, w1, sd, S1, rfl, r.step e1 s1, fin_step q1 fun w2 S2 d2 v2 e2 s2 rv2 q2 => ?_⟩⟩
  refine ⟨_, w2, S2, d, d2, rfl, s2, RepV.mono e2 s1.dj d v rv, rv2, fin_step q2 fun w3 S3 z vz e3 s3 rz q3 => ?_⟩
  obtain ⟨b, ev, q4⟩ := toB_bind q3 rz
  refine ⟨b, ev, ?_⟩
  cases b with
  | false => exact fin_pure (b := V.bl false) q4 s3 rfl
  | true =>
    refine ⟨w0, w3, sd, S3, rfl, ((r.step e1 s1).step e2 s2).step e3 s3, fin_step q4 fun w4 S4 d4 v4 e4 s4 rv4 q5 => ?_⟩
    exact ⟨_, w4, S4, d2, d4, rfl, s4, RepV.mono (e3.trans e4) s2.dj d2 v2 rv2, rv4, q5⟩
theorem marks_of {op op' : CmpOp} {b c : Expr} (h : behindInMarks op' c = false) : lastMarks [op, op'] [b, c] = false := h
theorem v_chain' {op op' : CmpOp} {g g' : D → D → M D} {a b c : Expr} {fa fb fc : List SV → M D} {pos : Pos} (ho : OpR X (compareOp op) (rD2 G g)) (ho' : OpR X (compareOp op') (rD2 G g')) (ha : PV G X W a fa) (hb : PV G X W b fb) (hc : PV G X W c fc)
    (hm : behindInMarks op' c = false) : PV G X W (.Compare a [op, op'] [b, c] pos) (chainD g g' fa fb fc) := PE.imp (pe_chain ho ho' ha hb hc (marks_of hm)) fun σ H Q h => chain_read h
theorem b_chain {op op' : CmpOp} {g g' : D → D → M D} {a b c : Expr} {fa fb fc : List SV → M D} {pos : Pos} (ho : OpR X (compareOp op) (rD2 G g)) (ho' : OpR X (compareOp op') (rD2 G g')) (ha : PV G X W a fa) (hb : PV G X W b fb) (hc : PV G X W c fc)
    (hm : behindInMarks op' c = false) : PB G X W (.Compare a [op, op'] [b, c] pos) (fun sd => M.bind (chainD g g' fa fb fc sd) toB) := by
  refine PT.imp (pt_chain ho ho' ha hb hc (marks_of hm)) fun σ H Q h => ?_
  obtain ⟨w0, w, sd, S, e, r, q⟩ := h
  exact chain_read ⟨w0, w, sd, S, e, r, fin_step q fun w1 S1 d v e1 s1 rv q1 => toB_fin q1 s1 rv⟩
theorem reps_strs : ∀ ys : List Str, RepVs G w (ys.map D.str) (ys.map V.str)
  | [] => rfl
  | y :: ys => ⟨.str y, _, rfl, rfl, reps_strs ys⟩
def isStr : D → M Str
  | .str x => M.pure x
  | _ => M.stuck
def dSplit (a : Str) : D → M D
  | .str b => if (b.length == 0) = false ∧ a.length + 2 ≤ lim then M.pure (.lst ((Txt.split a b).map .str)) else M.stuck
  | _ => M.stuck
def dJoin (a : Str) (e : D) : M D := match e with
  | .lst ds => match txts ds with
    | some ys => if (ys.map (·.length)).sum + ys.length * a.length ≤ 16777216 then M.pure (.str (Txt.join a ys)) else M.stuck
    | none => M.stuck
  | .tup ds => match txts ds with
    | some ys => if (ys.map (·.length)).sum + ys.length * a.length ≤ 16777216 then M.pure (.str (Txt.join a ys)) else M.stuck
    | none => M.stuck
  | _ => M.stuck
theorem isStr_bind {α β : Type} {rep : Wd → α → β → Prop} {W' : Value → Option Addr → Hp → Prop} {Q : β → Hp → Prop} {d : D} {v : V} {kk : Str → M α} (h : FinG G rep W' w Q (M.bind (isStr d) kk S)) (r : RepV G w d v) : ∃ b, v = .str b ∧ FinG G rep W' w Q (kk b S) := by
  cases d with
  | str b => exact ⟨b, r, h⟩
  | _ => exact False.elim h
theorem v_split {o e : Expr} {fo fe : List SV → M D} {apos pos : Pos} (ho : PV G X W o fo) (he : PV G X W e fe) (hs : notStar e = true) (hb : plainBase o = true) (hp : (apos.endLine == pos.line) = true) :
    PV G X W (.Call (.Attribute o "split" apos) [e] [] pos) (fun sd => M.bind (fo sd) fun d => M.bind (isStr d) fun a => M.bind (fe sd) fun b => dSplit a b) := by
  refine PE.imp (pe_split ho he (by rw [starEach_cons hs]; rfl) (attr_base hb) hp) fun σ H Q h => ?_
  obtain ⟨w0, w, sd, S, e, r, q⟩ := h
  refine ⟨w0, w, sd, S, e, r, fin_step q fun w1 S1 d v e1 s1 rv q1 => ?_⟩
  obtain ⟨a, ev, q2⟩ := isStr_bind q1 rv
  refine ⟨⟨a, ev⟩, w0, w1, sd, S1, rfl, r.step e1 s1, fin_step q2 fun w2 S2 d2 v2 e2 s2 rv2 q3 => ?_⟩
  cases d2 with
  | str b =>
    cases (show v2 = .str b from rv2)
    obtain ⟨⟨c1, c2⟩, q4⟩ := FinG.ite q3
    exact ⟨a, b, ev, rfl, c1, by rw [← lim_eq]; exact c2, fun p hp => q4 (w2.frz p _) _ (Ext.frz hp) (s2.frz hp) ⟨p, _, rfl, .inr rfl, upd_same, reps_strs _⟩⟩
  | _ => exact q3.elim
theorem v_join {o e : Expr} {fo fe : List SV → M D} {apos pos : Pos} (cK : G.K = X.K) (ho : PV G X W o fo) (he : PV G X W e fe) (hs : notStar e = true) (hb : plainBase o = true) (hp : (apos.endLine == pos.line) = true) :
    PV G X W (.Call (.Attribute o "join" apos) [e] [] pos) (fun sd => M.bind (fo sd) fun d => M.bind (isStr d) fun a => M.bind (fe sd) fun b => dJoin a b) := by
  refine PE.imp (pe_join ho he (by rw [starEach_cons hs]; rfl) (attr_base hb) hp) fun σ H Q h => ?_
  obtain ⟨w0, w, sd, S, e, r, q⟩ := h
  refine ⟨w0, w, sd, S, e, r, fin_step q fun w1 S1 d v e1 s1 rv q1 => ?_⟩
  obtain ⟨a, ev, q2⟩ := isStr_bind q1 rv
  refine ⟨⟨a, ev⟩, w0, w1, sd, S1, rfl, r.step e1 s1, fin_step q2 fun w2 S2 d2 v2 e2 s2 rv2 q3 => ?_⟩
  unfold dJoin at q3
  cases d2 with
  | lst ds =>
    rcases ht : txts ds with _ | ys
    · simp only [ht] at q3; exact q3.elim
    · simp only [ht] at q3
      obtain ⟨c1, q4⟩ := FinG.ite q3
      obtain ⟨p, vs, e3, f, hh, rs⟩ := rv2
      have e4 := strs_rep ht rs
      subst e4
      exact ⟨a, p, ys, ev, by rw [e3], .inl (.of hh), c1, fin_pure q4 s2 rfl⟩
  | tup ds =>
    rcases ht : txts ds with _ | ys
    · simp only [ht] at q3; exact q3.elim
    · simp only [ht] at q3
      obtain ⟨c1, q4⟩ := FinG.ite q3
      obtain ⟨p, vs, e3, hh, rs⟩ := rv2
      have e4 := strs_rep ht rs
      subst e4
      exact ⟨a, p, ys, ev, by rw [e3], .inr (sqT_of cK hh), c1, fin_pure q4 s2 rfl⟩
  | _ => exact q3.elim
def dFmt : D → M D
  | .str x => if x.length ≤ lim then M.pure (.str x) else M.stuck
  | .int i => if strOk i = true then M.pure (.str (toString i : String)) else M.stuck
  | _ => M.stuck
theorem v_fmt {e : Expr} {f : List SV → M D} {pos : Pos} (he : PV G X W e f) : PV G X W (.FormattedValue e (-1) none pos) (fun sd => M.bind (f sd) dFmt) := by
  refine PE.imp (pe_fmt he) fun σ H Q h => ?_
  obtain ⟨w0, w, sd, S, e, r, q⟩ := h
  refine ⟨w0, w, sd, S, e, r, fin_step q fun w1 S1 d v e1 s1 rv q1 => ?_⟩
  cases d with
  | str x =>
    obtain ⟨c, q2⟩ := FinG.ite q1
    exact .inl ⟨x, rv, by rw [← lim_eq]; exact c, fin_pure q2 s1 rfl⟩
  | int i =>
    obtain ⟨c, q2⟩ := FinG.ite q1
    exact .inr ⟨i, rv, of_decide_eq_true c, fin_pure q2 s1 rfl⟩
  | _ => exact q1.elim
inductive PJV (G : Sg) (X : Cx) (W : WX) : List Expr → List (List SV → M D) → Prop where
  | nil : PJV G X W [] []
  | cons {e : Expr} {f : List SV → M D} {es : List Expr} {fs : List (List SV → M D)} (h : PV G X W e f) (r : PJV G X W es fs) : PJV G X W (e :: es) (f :: fs)
def joinFs : List (List SV → M D) → Str → List SV → M D
  | [], acc, _ => M.pure (.str acc)
  | f :: fs, acc, sd => M.bind (f sd) fun d => M.bind (isStr d) fun y => if (acc ++ y).length ≤ lim then joinFs fs (acc ++ y) sd else M.stuck
theorem PJV.pj {es : List Expr} {fs : List (List SV → M D)} (h : PJV G X W es fs) : PJ X es (fs.map (teV G W)) := by
  induction h with
  | nil => exact .nil
  | cons h r ih => exact .cons h ih
theorem join_read : ∀ (fs : List (List SV → M D)) (acc : Str) (σ : L2.St) (H : Hp) (Q : VK), teV G W (joinFs fs acc) σ H Q → tJs (fs.map (teV G W)) acc σ H (fun out H1 => Q (.str out) H1)
  | [], acc, σ, H, Q, h => by
    obtain ⟨w0, w, sd, S, e, r, q⟩ := h
    subst e
    exact fin_pure (b := V.str acc) q r.st rfl
  | f :: fs, acc, σ, H, Q, h => by
    obtain ⟨w0, w, sd, S, e, r, q⟩ := h
    refine ⟨w0, w, sd, S, e, r, fin_step (f := f sd) q fun w1 S1 d v e1 s1 rv q1 => ?_⟩
    obtain ⟨y, ev, q2⟩ := isStr_bind q1 rv
    obtain ⟨c, q3⟩ := FinG.ite q2
    exact ⟨y, ev, by rw [← lim_eq]; exact c, join_read fs (acc ++ y) σ w1.H Q ⟨w0, w1, sd, S1, rfl, r.step e1 s1, q3⟩⟩
theorem v_joined {v1 v2 : Expr} {rest : List Expr} {fs : List (List SV → M D)} {pos : Pos} (h : PJV G X W (v1 :: v2 :: rest) fs) : PV G X W (.JoinedStr (v1 :: v2 :: rest) pos) (joinFs fs Str.empty) :=
  PE.imp (pe_joined h.pj) fun σ H Q q => join_read fs Str.empty σ H Q q
theorem v_joined1 {e : Expr} {f : List SV → M D} {pos : Pos} (h : PV G X W e f) : PV G X W (.JoinedStr [e] pos) f := pe_joined1 h
def subT (a b : TyN) : Bool := a = b || (a = .bool && b = .int)
theorem kitT {K : PySem.W.Frag} (a b : TyN) : PySem.W.kitOne K (.type a.name) (.type b.name) = some (subT a b) := by
  cases a <;> cases b <;> exact kit_ty (by decide +kernel)
structure ClsT (X : Cx) (G : Sg) (known : Nat → Bool) (sub : Nat → Nat → Option Bool) : Prop where
  cl : ∀ c, known c = true → Cls X.K (G.ca c) ∧ PySem.W.findIn X.K (.ref (G.ca c)) "__class__" = some (some (.builtin "object.__class__")) ∧ PySem.W.mroIn X.K (G.ca c) (.type "object") = some true
  hn : PySem.W.specialIn X.K (.builtin "object.__class__") "__get__" = some (some (.builtin "getset_descriptor.__get__"))
  ht : PySem.W.takesIn X.K (.builtin "object.__class__") = some true
  cc : ∀ c c' b, sub c c' = some b → PySem.W.kitOne X.K (.ref (G.ca c)) (.ref (G.ca c')) = some b
  ct : ∀ c t, known c = true → PySem.W.kitOne X.K (.ref (G.ca c)) (.type (TyN.name t)) = some false
  tc : ∀ t c, known c = true → PySem.W.kitOne X.K (.type (TyN.name t)) (.ref (G.ca c)) = some false
def tyOf (d : D) : M (Sum TyN Nat) := fun S => match d with
  | .non => some (.ok (.inl .none_), S)
  | .bl _ => some (.ok (.inl .bool), S)
  | .int _ => some (.ok (.inl .int), S)
  | .str _ => some (.ok (.inl .str), S)
  | .tup _ => some (.ok (.inl .tuple), S)
  | .lst _ => some (.ok (.inl .list), S)
  | .scr _ => some (.ok (.inl .list), S)
  | .dct _ _ => some (.ok (.inl .dict), S)
  | .ins c _ => some (.ok (.inr c), S)
  | .ref n => match S[n]? with
    | some (.lst _) => some (.ok (.inl .list), S)
    | some (.dct _ _) => some (.ok (.inl .dict), S)
    | some (.ins c _) => some (.ok (.inr c), S)
    | none => none
  | _ => none
def isaD (known : Nat → Bool) (sub : Nat → Nat → Option Bool) (t : Sum TyN Nat) : D → Option Bool
  | .ty b => match t with
    | .inl a => some (subT a b)
    | .inr c => if known c = true then some false else none
  | .cls c' => match t with
    | .inl _ => if known c' = true then some false else none
    | .inr c => if known c = true then sub c c' else none
  | _ => none
def dIsa (known : Nat → Bool) (sub : Nat → Nat → Option Bool) (d e : D) : M D := M.bind (tyOf d) fun t => match isaD known sub t e with
  | some b => M.pure (.bl b)
  | none => M.stuck
def tyV' (G : Sg) : Sum TyN Nat → Value
  | .inl t => .type t.name
  | .inr c => .ref (G.ca c)
theorem tyOf_rep {d : D} {v : V} {t : Sum TyN Nat} {S' : List Ob} {known : Nat → Bool} {sub : Nat → Nat → Option Bool} (cK : G.K = X.K) (T : ClsT X G known sub) (s : RepS G w S) (r : RepV G w d v) (h : tyOf d S = some (.ok t, S')) (hk : ∀ c, t = .inr c → known c = true) : S' = S ∧ TyX X.K w.H v (tyV' G t) := by
  have insX : ∀ {a dx : Addr} {fs : List (Str × V)} {c : Nat}, w.H a = some (.ins (G.ca c) dx fs) → known c = true → TyX X.K w.H (.ref a) (.ref (G.ca c)) := fun e hc => by
    obtain ⟨h1, h2, h3⟩ := T.cl _ hc
    exact .base (.ins e h1 h2 T.hn T.ht h3)
  unfold tyOf at h
  cases d with
  | non => cases h; cases (show v = .non from r); exact ⟨rfl, .base .non⟩
  | bl b => cases h; cases (show v = .bl b from r); exact ⟨rfl, .base (.bl b)⟩
  | int b => cases h; cases (show v = .int b from r); exact ⟨rfl, .base (.int b)⟩
  | str b => cases h; cases (show v = .str b from r); exact ⟨rfl, .base (.str b)⟩
  | tup ds =>
    cases h
    obtain ⟨a, vs, e, hh, rs⟩ := r
    subst e
    rcases hh with ⟨_, hh | ⟨o, hh⟩⟩ | ⟨o, its, n, h1, h2, _⟩
    · exact ⟨rfl, .base (.tup hh)⟩
    · exact ⟨rfl, .fTuple hh⟩
    · exact ⟨rfl, .kTuple (by rw [← cK]; exact h1) h2⟩
  | lst ds =>
    cases h
    obtain ⟨a, vs, e, f, hh, rs⟩ := r
    subst e
    exact ⟨rfl, .base (.lst hh)⟩
  | scr ds =>
    cases h
    obtain ⟨a, vs, e, hh, rs⟩ := r
    subst e
    rcases hh with ⟨_, hh | ⟨o, hh⟩⟩ | ⟨o, its, n, h1, h2, _⟩
    · exact ⟨rfl, .base (.lst hh)⟩
    · exact ⟨rfl, .base (.frz hh)⟩
    · exact ⟨rfl, .kList (by rw [← cK]; exact h1) h2⟩
  | dct ks ds =>
    cases h
    obtain ⟨a, vs, e, f, hh, _⟩ := r
    subst e
    exact ⟨rfl, .base (.dK hh)⟩
  | ins c ds =>
    cases h
    obtain ⟨a, dx, vs, e, f, hh, _⟩ := r
    subst e
    exact ⟨rfl, insX hh (hk c rfl)⟩
  | ref n =>
    obtain ⟨a, e, hm⟩ := r
    subst e
    rcases hn : S[n]? with _ | ⟨ds | ⟨ks, ds⟩ | ⟨c, ds⟩⟩
    · simp only [hn] at h; cases h
    · simp only [hn] at h
      cases h
      obtain ⟨vs, hh, _⟩ := s.ob n a _ hm hn
      exact ⟨rfl, .base (.lst hh)⟩
    · simp only [hn] at h
      cases h
      obtain ⟨vs, hh, _⟩ := s.ob n a _ hm hn
      exact ⟨rfl, .base (.dK hh)⟩
    · simp only [hn] at h
      cases h
      obtain ⟨dx, vs, hh, _⟩ := s.ob n a _ hm hn
      exact ⟨rfl, insX hh (hk c rfl)⟩
  | ty t => cases h
  | cls c => cases h
theorem tyOf_noerr {d : D} {S' : List Ob} {x : Exn} : tyOf d S ≠ some (.error x, S') := by
  intro h
  unfold tyOf at h
  cases d with
  | ref n => rcases hn : S[n]? with _ | ⟨ds | ⟨ks, ds⟩ | ⟨c, ds⟩⟩ <;> simp [hn] at h
  | _ => simp at h
theorem c_isa {known : Nat → Bool} {sub : Nat → Nat → Option Bool} (cK : G.K = X.K) (T : ClsT X G known sub) : CallR X (.builtin "isinstance") (rDs G (on2 (dIsa known sub))) := by
  refine CallR.imp call_isi fun vs H Q h => ?_
  obtain ⟨W, w, S, d, e, v, u, rfl, s, rfl, r, r', q⟩ := on2_of h
  unfold dIsa M.bind at q
  rcases ht : tyOf d S with _ | ⟨x | t, S2⟩
  · rw [ht] at q; exact q.elim
  · exact absurd ht tyOf_noerr
  · rw [ht] at q
    simp only at q
    rcases hi : isaD known sub t e with _ | b
    · simp only [hi] at q; exact q.elim
    · simp only [hi] at q
      have hk : ∀ c, t = .inr c → known c = true := fun c e2 => by
        subst e2
        unfold isaD at hi
        cases e with
        | ty b => by_cases hc : known c = true
                  · exact hc
                  · simp [hc] at hi
        | cls c' => by_cases hc : known c = true
                    · exact hc
                    · simp [hc] at hi
        | _ => simp at hi
      obtain ⟨rfl, ty⟩ := tyOf_rep cK T s r ht hk
      have kit : ∃ c, ClsV u c ∧ PySem.W.kitOne X.K (tyV' G t) c = some b := by
        unfold isaD at hi
        cases e with
        | ty y =>
          cases (show u = .ty y.name from r')
          refine ⟨.type y.name, .ty _, ?_⟩
          rcases t with a | c
          · simp only [Option.some.injEq] at hi
            subst hi
            exact kitT a y
          · have hc := hk c rfl
            simp only [hc, if_true, Option.some.injEq] at hi
            subst hi
            exact T.ct c y hc
        | cls c' =>
          cases (show u = .ref (G.ca c') from r')
          refine ⟨.ref (G.ca c'), .own _, ?_⟩
          rcases t with a | c
          · by_cases hc : known c' = true
            · simp only [hc, if_true, Option.some.injEq] at hi
              subst hi
              exact T.tc a c' hc
            · simp [hc] at hi
          · have hc := hk c rfl
            simp only [hc, if_true] at hi
            exact T.cc c c' b hi
        | _ => simp at hi
      obtain ⟨cc, h1, h2⟩ := kit
      exact ⟨v, u, tyV' G t, cc, b, rfl, h1, ty, h2, fin_pure q s rfl⟩
end
end Ev
set_option maxRecDepth 100000
set_option maxHeartbeats 2000000
namespace Ev
open PySem PySem.Spec PyProof.Rows L2
def FnS (P : Program) (w : World) (K : PySem.W.Frag) (mg : Str → Option Value) (base : Heap) (b : Bool) (k : Nat) (f : Addr) (sp : Sp) : Prop :=
  ∀ (A : Around) (fr : List Env) (s : Shared) (H : Hp) (us : List Value) (vs : List V) (Q : VK) (E : XK),
    Rm b k A → Env0 P w K mg base A fr s H → Vals vs us → sp vs H Q E → codeAny (model P w) A (.call (.ref f) ⟨us, []⟩) (CR (L2.CX P w) fr P w H s Q E) s
def finR : Option (Out × List Ob) → Option (Except Exn D × List Ob)
  | some (.next _, S) => some (.ok .non, S)
  | some (.ret d, S) => some (.ok d, S)
  | some (.err e _, S) => some (.error e, S)
  | _ => none
def slots (n : Nat) (sv : List SV) : List SV := sv ++ List.replicate (n - sv.length) .no
def runFn (m n : Nat) (ms : MS) : List D → M D := fun ds S => if ds.length = m then finR (ms (slots n (ds.map .val)) S) else none
def starFn (m n : Nat) (ms : MS) : List D → M D := fun ds => if m ≤ ds.length ∧ ds.length < m + lim then runFn (m + 1) n ms (ds.take m ++ [.tup (ds.drop m)]) else M.stuck
def mkR (c : Nat) : Option (Out × List Ob) → Option (Except Exn D × List Ob)
  | some (.next sd, S) => match sd[0]? with
    | some (SV.own (Ob.ins c' es)) => if c' = c then some (.ok (.ins c es), S) else none
    | _ => none
  | some (.err e _, S) => some (.error e, S)
  | _ => none
def mkFn (c m n : Nat) (ms : MS) : List D → M D := fun ds S => if ds.length + 1 = m then mkR c (ms (slots n (.own (.ins c []) :: ds.map .val)) S) else none
def mkStar (c m n : Nat) (ms : MS) : List D → M D := fun ds => if m ≤ ds.length + 1 ∧ ds.length + 1 < m + lim then mkFn c (m + 1) n ms (ds.take (m - 1) ++ [.tup (ds.drop (m - 1))]) else M.stuck
section
variable {P : Program} {w : World} {K : PySem.W.Frag} {mg : Str → Option Value} {base : Heap} {G : Sg} {k : Nat} {f : Addr} {x qual : Str} {st : Stmt} {fd : FuncData} {N ps : List Str} {ms : MS}
abbrev XF (P : Program) (w : World) (K : PySem.W.Frag) (mg : Str → Option Value) (base : Heap) (N : List Str) (qual : Str) (st : Stmt) (f : Addr) (cdv : Value) (A : Around) (fr : List Env) (s : Shared) (H : Hp) (E : XK) : Cx :=
  cxOf (L2.CX P w) P w K mg base N qual (defScope st) f cdv A fr s H E
abbrev WF (E : XK) : WX := fun c d _ H => E c d H
def Body (P : Program) (w : World) (K : PySem.W.Frag) (mg : Str → Option Value) (base : Heap) (G : Sg) (k : Nat) (f : Addr) (N : List Str) (qual : Str) (st : Stmt) (ms : MS) : Prop :=
  ∀ (cdv : Value) (A : Around) (fr : List Env) (s : Shared) (H : Hp) (E : XK), Ctx G (XF P w K mg base N qual st f cdv A fr s H E) (WF E) k → PSsV G (XF P w K mg base N qual st f cdv A fr s H E) (WF E) (defBody st) ms
def spT (G : Sg) (N : List Str) (ms : MS) : Sp := fun vs H Q E => tsV G (WF E) ms { nx := fun _ H' => Q .non H', rt := Q } (start N vs) H
theorem ctxF (cK : G.K = K) (SC : FnScope N ps (defScope st)) {cdv : Value} {A : Around} {fr : List Env} {s : Shared} {H : Hp} {E : XK} (hr : Rm G.gd (k + 1) (A.deeper (envOfC qual (defScope st) s.heap.objs.size f cdv))) :
    Ctx G (XF P w K mg base N qual st f cdv A fr s H E) (WF E) k := ⟨cK, rfl, hr, SC.nd, fun σ => L2.passAt (L2.takes_of rfl rfl rfl rfl) σ, L2.passes_of rfl⟩
theorem fns_rule (F : Fun K x qual st f fd) (SC : FnScope N ps (defScope st)) (hb : Binds K fd ps []) (cK : G.K = K) (B : Body P w K mg base G k f N qual st ms) :
    FnS P w K mg base G.gd (k + 2) f (fun vs H Q E => vs.length = ps.length ∧ spT G N ms vs H Q E) := by
  obtain ⟨oc, od, kV, doc, pm, an, cdv, ct, osl, rfl, lk, hcd⟩ := F.ex
  have g := gn_of (sp := fun vs H Q E => vs.length = ps.length ∧ spT G N ms vs H Q E) (P := P) (w := w) (mg := mg) (base := base) (k := k + 1) lk hcd SC (fun _ _ _ _ z => z.1) (fun A fr s H vs Q E hr hsp => ⟨_, B cdv A fr s H E (ctxF cK SC hr), hsp.2⟩)
  intro A fr s H us vs Q E hr e0 r h
  have inK : K.In s.heap := e0.mod.kin.keeps fun b o e => (e0.bs b o e).1
  have b2 := hb s us inK (by rw [List.append_nil, ← r.length]; exact h.1)
  rw [List.append_nil] at b2
  exact g.run A fr s H ⟨us, []⟩ us vs Q E hr e0 b2 r h
theorem slots_val {n i : Nat} {ds : List D} {d : D} (h : (slots n (ds.map .val))[i]? = some (.val d)) : ds[i]? = some d := by
  unfold slots at h
  by_cases l : i < (ds.map SV.val).length
  · rw [List.getElem?_append_left l, List.getElem?_map] at h
    cases e : ds[i]? with
    | none => rw [e] at h; cases h
    | some y => rw [e] at h; cases h; rfl
  · rw [List.getElem?_append_right (Nat.le_of_not_lt l), List.getElem?_replicate] at h
    split at h <;> cases h
theorem slots_own {n i : Nat} {ds : List D} {o : Ob} (h : (slots n (ds.map .val))[i]? = some (.own o)) : False := by
  unfold slots at h
  by_cases l : i < (ds.map SV.val).length
  · rw [List.getElem?_append_left l, List.getElem?_map] at h
    cases e : ds[i]? with
    | none => rw [e] at h; cases h
    | some y => rw [e] at h; cases h
  · rw [List.getElem?_append_right (Nat.le_of_not_lt l), List.getElem?_replicate] at h
    split at h <;> cases h
theorem start_get {vs : List V} {i : Nat} {v : V} (h : vs[i]? = some v) : (start N vs)[i]? = some (some v) := by
  unfold L2.start
  have l : i < vs.length := (List.getElem?_eq_some_iff.mp h).1
  rw [List.getElem?_append_left (by simpa using l), List.getElem?_map, h]
  rfl
theorem start_len {vs : List V} (h : vs.length ≤ N.length) : (start N vs).length = N.length := by
  unfold L2.start
  rw [List.length_append, List.length_map, List.length_replicate]
  omega
theorem slots_len {n : Nat} {sv : List SV} (h : sv.length ≤ n) : (slots n sv).length = n := by
  unfold slots
  rw [List.length_append, List.length_replicate]
  omega
theorem R.enter {wd : Wd} {ds : List D} {vs : List V} {S : List Ob} (s : RepS G wd S) (r : RepVs G wd ds vs) (h : ds.length ≤ N.length) : R G wd wd (slots N.length (ds.map .val)) S (start N vs) := by
  refine ⟨Ext.refl wd, s, ?_, fun i d e => ?_, fun i o e => (slots_own e).elim, fun i j o o' a e => (slots_own e).elim, fun a o _ e => (slots_own e).elim⟩
  · rw [start_len (by rw [← r.length]; exact h), slots_len (by simpa using h)]
  · obtain ⟨v, h1, h2⟩ := r.get (slots_val e)
    exact ⟨v, start_get h1, h2⟩
theorem fin_body {wd : Wd} {ds : List D} {vs : List V} {S : List Ob} {H : Hp} {Q : VK} {E : XK} (eH : wd.H = H) (s : RepS G wd S) (r : RepVs G wd ds vs) (h : ds.length ≤ N.length) (q : FinG G (RepV G) E wd Q (finR (ms (slots N.length (ds.map .val)) S))) : spT G N ms vs H Q E := by
  refine ⟨wd, wd, _, S, eH, R.enter s r h, ?_⟩
  rcases hm : ms (slots N.length (ds.map .val)) S with _ | ⟨_ | _ | _ | _ | _, S1⟩
  · rw [hm] at q; exact q
  · rw [hm] at q
    exact fun w' σ' _ r' => q w' .non r'.ex r'.st rfl
  · rw [hm] at q
    exact fun w' v e s' rv => q w' v e s' rv
  · rw [hm] at q; exact q.elim
  · rw [hm] at q; exact q.elim
  · rw [hm] at q
    exact fun w' σ' cls y _ r' rx => q w' cls y r'.ex r'.st rx
theorem fna_rule (F : Fun K x qual st f fd) (SC : FnScope N ps (defScope st)) (hb : Binds K fd ps []) (cK : G.K = K) (B : Body P w K mg base G k f N qual st ms) {m n : Nat} (em : ps.length = m) (en : N.length = n) (hmn : m ≤ n) :
    FnA P w K mg base G (k + 2) f (runFn m n ms) := by
  have z := fns_rule (P := P) (w := w) (mg := mg) (base := base) F SC hb cK B
  refine ⟨fun A fr s H us vs Q E hr e0 r ⟨wd, ds, S, eH, rs, rv, q⟩ => z A fr s H us vs Q E hr e0 r ?_, F.kp⟩
  unfold runFn at q
  split at q
  · next e =>
    subst em en
    exact ⟨by rw [← rv.length]; exact e, fin_body eH rs rv (by omega) q⟩
  · exact q.elim
theorem fns_starred {pv : Str} (F : Fun K x qual st f fd) (SC : FnScope N (ps ++ [pv]) (defScope st)) (cK : G.K = K) (B : Body P w K mg base G k f N qual st ms)
    (hb : ∀ (kV doc pm : Value) (an : Option Addr) (cdv ct : Value) (us rest : List Value), us.length = ps.length → bindArgs (PySem.W.fnOf x qual (defArgs st) (defBody st) (defScope st) .none kV doc pm an cdv ct) ⟨us ++ rest, []⟩ = (newTuple rest >>= fun t => pure (ps.zip us ++ [(pv, t)]))) :
    FnS P w K mg base G.gd (k + 2) f (fun vs H Q E => ∃ ws more, vs = ws ++ more ∧ ws.length = ps.length ∧ more.length ≤ sizeLine ∧ ∀ p, H p = none → spT G N ms (ws ++ [V.ref p]) (upd H p (.tup more)) Q E) := by
  obtain ⟨oc, od, kV, doc, pm, an, cdv, ct, osl, rfl, lk, hcd⟩ := F.ex
  rintro A fr s H us vs Q E hr e0 r ⟨ws, more, rfl, lw, lm, q⟩
  obtain ⟨u1, u2, rfl, r1, r2⟩ := StX.vals_split r
  have free : H s.heap.objs.size = none := e0.hok.fresh (Nat.le_refl _)
  refine StX.run_bnd (CX := L2.CX P w) (k := k + 1) lk hcd SC hr.room e0 (G := fun xs H2 => ∃ p, H p = none ∧ xs = ws ++ [V.ref p] ∧ H2 = upd H p (.tup more)) ?_ ?_
  · intro A' Ex Q' h
    have l1 : u1.length = ps.length := r1.length.symm.trans lw
    have l2 : u2.length ≤ sizeLine := r2.length ▸ lm
    rw [hb _ _ _ _ _ _ u1 u2 l1]
    refine wpAny_bind (wpAny_newTuple (wpAny_pure ?_) l2)
    have made : ObjOk P w (upd H s.heap.objs.size (.tup more)) (s.heap.push { cls := .type "tuple", data := .seq u2.toArray }) s.heap.objs.size (.tup more) := ⟨lm, u2, r2, _, Heap.get?_push_size _ rfl, rfl, _, rfl⟩
    have keep := StX.un_laid (fs := frs fr) (o := ({ cls := .type "tuple", data := .seq u2.toArray } : Obj)) (u := .tup more) free
    have got := h _ _ (ws ++ [V.ref s.heap.objs.size]) (u1 ++ [Value.ref s.heap.objs.size]) (StX.env0_laid e0 made) keep rfl (fun e s' => StX.cxUp fr s H _ _ E e s' keep (fun b o y => Heap.get?_push_of_some _ y) rfl)
      (r1.append (.cons rfl .nil)) (by simp [lw]) ⟨_, free, rfl, rfl⟩
    rwa [List.zip_append l1.symm] at got
  · rintro s2 H2 xs ⟨p, hp, rfl, rfl⟩ hr2
    exact ⟨_, B cdv A fr s2 _ E (ctxF cK SC ⟨hr2, hr.gd⟩), q p hp⟩
theorem rep_tail {wd : Wd} : ∀ (m : Nat) {ds : List D} {vs : List V}, RepVs G wd ds vs → m ≤ ds.length → ∃ a b, vs = a ++ b ∧ a.length = m ∧ RepVs G wd (ds.take m) a ∧ RepVs G wd (ds.drop m) b := fun m ds vs r h =>
  ⟨vs.take m, vs.drop m, (List.take_append_drop m vs).symm, by rw [List.length_take, ← r.length]; omega, r.take m, r.drop m⟩
theorem fna_star {pv : Str} (F : Fun K x qual st f fd) (SC : FnScope N (ps ++ [pv]) (defScope st)) (cK : G.K = K) (B : Body P w K mg base G k f N qual st ms)
    (hb : ∀ (kV doc pm : Value) (an : Option Addr) (cdv ct : Value) (us rest : List Value), us.length = ps.length → bindArgs (PySem.W.fnOf x qual (defArgs st) (defBody st) (defScope st) .none kV doc pm an cdv ct) ⟨us ++ rest, []⟩ = (newTuple rest >>= fun t => pure (ps.zip us ++ [(pv, t)])))
    {m n : Nat} (em : ps.length = m) (en : N.length = n) (hmn : m + 1 ≤ n) : FnA P w K mg base G (k + 2) f (starFn m n ms) := by
  have z := fns_starred (P := P) (w := w) (mg := mg) (base := base) F SC cK B hb
  refine ⟨fun A fr s H us vs Q E hr e0 r ⟨wd, ds, S, eH, rs, rv, q⟩ => z A fr s H us vs Q E hr e0 r ?_, F.kp⟩
  unfold starFn at q
  obtain ⟨hl, q⟩ := FinG.ite q
  obtain ⟨a, b, e, la, ra, rb⟩ := rep_tail m rv hl.1
  have lb : b.length < lim := by
    rw [← rb.length, List.length_drop]
    omega
  refine ⟨a, b, e, la.trans em.symm, by rw [lim_eq] at lb; exact Nat.le_of_lt lb, fun p hp => ?_⟩
  subst en eH
  have ez : Ext wd (wd.frz p (.tup b)) := Ext.frz hp
  have st2 := ez.stay rs.dj
  unfold runFn at q
  have ll : (ds.take m ++ [D.tup (ds.drop m)]).length = m + 1 := by simp; omega
  rw [if_pos ll] at q
  refine fin_body (wd := wd.frz p (.tup b)) rfl (rs.frz hp) (RepVs.append (RepVs.stay st2 _ _ ra) (RepVs.one ?_)) (by rw [ll]; exact hmn) (FinG.ext ez q)
  exact ⟨p, b, rfl, .inl ⟨.inr rfl, .inl upd_same⟩, RepVs.stay st2 _ _ rb⟩
end
end Ev
set_option maxRecDepth 100000
set_option maxHeartbeats 2000000
namespace Ev
open PySem PySem.Spec PyProof.Rows L2
def spN (G : Sg) (c : Nat) (sem : List D → M D) : Sp := fun vs' H' Q' E => ∃ (x dx : Addr) (vs : List V) (H : Hp) (Q : VK), vs' = V.ref x :: vs ∧ H' = upd (upd H dx (.own x)) x (.ins (G.ca c) dx []) ∧ H x = none ∧ H dx = none ∧ dx ≠ x ∧
  (Q' = fun v H2 => v = V.non ∧ Q (.ref x) H2) ∧ spV G sem vs H Q E
structure ClA (P : Program) (w : World) (K : PySem.W.Frag) (mg : Str → Option Value) (base : Heap) (G : Sg) (k c : Nat) (sem : List D → M D) : Prop where
  ex : ∃ f, Mk K (G.ca c) f ∧ FnS P w K mg base G.gd k f (spN G c sem)
theorem ClA.mono {P : Program} {w : World} {K : PySem.W.Frag} {mg : Str → Option Value} {base : Heap} {G : Sg} {j k c : Nat} {sem : List D → M D} (F : ClA P w K mg base G j c sem) (h : j ≤ k) : ClA P w K mg base G k c sem :=
  ⟨let ⟨f, M, g⟩ := F.ex; ⟨f, M, fun A fr s H us vs Q E hr => g A fr s H us vs Q E (hr.mono h)⟩⟩
section
variable {P : Program} {w : World} {K : PySem.W.Frag} {mg : Str → Option Value} {base : Heap} {G : Sg} {k c : Nat} {f : Addr} {x qual : Str} {st : Stmt} {fd : FuncData} {N ps : List Str} {ms : MS}
theorem R.enterI {wd w1 : Wd} {ds : List D} {vs : List V} {S : List Ob} {a dx : Addr} (e : Ext wd w1) (s : RepS G w1 S) (r : RepVs G w1 ds vs) (h : ds.length + 1 ≤ N.length) (ha : w1.H a = some (.ins (G.ca c) dx [])) (nF : ¬ w1.F a) (nm : a ∉ w1.m) (n0 : wd.H a = none) :
    R G { wd with x := some a } w1 (slots N.length (.own (.ins c []) :: ds.map .val)) S (L2.start N (V.ref a :: vs)) := by
  have hd : ∀ {i : Nat} {y : SV}, (slots N.length (SV.own (.ins c []) :: ds.map .val))[i]? = some y → (i = 0 ∧ y = .own (.ins c [])) ∨ (∃ j, i = j + 1 ∧ (slots (N.length - 1) (ds.map SV.val))[j]? = some y) := fun {i y} z => by
    cases i with
    | zero =>
      refine .inl ⟨rfl, ?_⟩
      unfold slots at z
      simp at z
      exact z.symm
    | succ j =>
      refine .inr ⟨j, rfl, ?_⟩
      unfold slots at z ⊢
      have e1 : N.length - (SV.own (Ob.ins c []) :: ds.map SV.val).length = N.length - 1 - (ds.map SV.val).length := by
        rw [List.length_cons]
        omega
      rw [e1, List.cons_append, List.getElem?_cons_succ] at z
      exact z
  have s0 : (L2.start N (V.ref a :: vs))[0]? = some (some (V.ref a)) := start_get rfl
  refine ⟨⟨e.m, e.F, e.H, e.nm, e.nF, e.al⟩, s, ?_, fun i d z => ?_, fun i o z => ?_, fun i j o o' b z1 z2 _ _ => ?_, fun b o eb z => ?_⟩
  · have l : vs.length = ds.length := r.length.symm
    rw [start_len (by rw [List.length_cons, l]; exact h), slots_len (by rw [List.length_cons, List.length_map]; exact h)]
  · rcases hd z with ⟨_, e2⟩ | ⟨j, rfl, z2⟩
    · cases e2
    · obtain ⟨v, h1, h2⟩ := r.get (slots_val z2)
      exact ⟨v, start_get (by rw [List.getElem?_cons_succ]; exact h1), h2⟩
  · rcases hd z with ⟨rfl, e2⟩ | ⟨j, rfl, z2⟩
    · cases e2
      exact ⟨a, s0, ⟨dx, [], by rw [List.zip_nil_right]; exact ha, Nat.zero_le _, rfl⟩, nF, nm, n0⟩
    · exact (slots_own z2).elim
  · rcases hd z1 with ⟨e1, _⟩ | ⟨j1, _, z1⟩
    · rcases hd z2 with ⟨e2, _⟩ | ⟨j2, _, z2⟩
      · rw [e1, e2]
      · exact (slots_own z2).elim
    · exact (slots_own z1).elim
  · cases eb
    exact s0
theorem fin_mk {wd w1 : Wd} {ds : List D} {vs : List V} {S : List Ob} {a dx : Addr} {Q : VK} {E : XK} (e : Ext wd w1) (s : RepS G w1 S) (r : RepVs G w1 ds vs) (h : ds.length + 1 ≤ N.length) (ha : w1.H a = some (.ins (G.ca c) dx [])) (nF : ¬ w1.F a) (nm : a ∉ w1.m) (n0 : wd.H a = none)
    (q : FinG G (RepV G) E wd Q (mkR c (ms (slots N.length (.own (.ins c []) :: ds.map .val)) S))) : spT G N ms (V.ref a :: vs) w1.H (fun v H2 => v = .non ∧ Q (.ref a) H2) E := by
  refine ⟨{ wd with x := some a }, w1, _, S, rfl, R.enterI e s r h ha nF nm n0, ?_⟩
  rcases hm : ms (slots N.length (.own (.ins c []) :: ds.map .val)) S with _ | ⟨sd | _ | _ | _ | _, S1⟩
  · rw [hm] at q; exact q
  · rw [hm] at q
    intro w' σ' _ r'
    have ex : Ext wd w' := ⟨r'.ex.m, r'.ex.F, r'.ex.H, r'.ex.nm, r'.ex.nF, r'.ex.al⟩
    unfold mkR at q
    simp only at q
    rcases hs : sd[0]? with _ | _ | _ | ⟨_ | _ | ⟨c', es⟩⟩
    · rw [hs] at q; exact q.elim
    · rw [hs] at q; exact q.elim
    · rw [hs] at q; exact q.elim
    · rw [hs] at q; exact q.elim
    · rw [hs] at q; exact q.elim
    · rw [hs] at q
      simp only at q
      split at q
      · next ec =>
        subst ec
        obtain ⟨b, hb, ho, bF, bm, b0⟩ := r'.ow 0 _ hs
        have hb2 := r'.sf a _ rfl hs
        rw [hb] at hb2
        cases hb2
        obtain ⟨dx', vs', h1, h2, h3⟩ := id ho
        refine ⟨rfl, q (w'.fz a) (.ref a) (Ext.fz ex n0) (r'.st.fz bm ho.there) ⟨a, dx', vs', rfl, .inr rfl, h1, h2, RepVs.stay Stay.fz _ _ h3⟩⟩
      · exact q.elim
  · rw [hm] at q; exact q.elim
  · rw [hm] at q; exact q.elim
  · rw [hm] at q; exact q.elim
  · rw [hm] at q
    exact fun w' σ' cls y _ r' rx => q w' cls y ⟨r'.ex.m, r'.ex.F, r'.ex.H, r'.ex.nm, r'.ex.nF, r'.ex.al⟩ r'.st rx
theorem made {wd : Wd} {S : List Ob} {a dx C : Addr} (s : RepS G wd S) (ha : wd.H a = none) (hdx : wd.H dx = none) (ne : dx ≠ a) :
    ∃ w1 : Wd, w1.H = upd (upd wd.H dx (.own a)) a (.ins C dx []) ∧ Ext wd w1 ∧ RepS G w1 S ∧ ¬ w1.F a ∧ a ∉ w1.m := by
  have ha2 : (wd.new dx (.own a)).H a = none := by
    show upd wd.H dx _ a = none
    rw [upd_ne (fun e => ne e.symm)]
    exact ha
  exact ⟨(wd.new dx (.own a)).new a (.ins C dx []), rfl, (Ext.new hdx).trans (Ext.new ha2), (s.new hdx).new ha2, fun z => s.fh a z ha, fun z => s.there z ha⟩
theorem cla_rule (F : Fun K x qual st f fd) (SC : FnScope N ps (defScope st)) (hb : Binds K fd ps []) (cK : G.K = K) (B : Body P w K mg base G k f N qual st ms) (M : Mk K (G.ca c) f) {m n : Nat} (em : ps.length = m) (en : N.length = n) (hmn : m ≤ n) :
    ClA P w K mg base G (k + 2) c (mkFn c m n ms) := by
  have z := fns_rule (P := P) (w := w) (mg := mg) (base := base) F SC hb cK B
  refine ⟨f, M, fun A fr s H us vs Q E hr e0 r h => z A fr s H us vs Q E hr e0 r ?_⟩
  obtain ⟨a, dx, vs, H, Q, rfl, rfl, ha, hdx, ne, rfl, wd, ds, S, eH, rs, rv, q⟩ := h
  subst em en eH
  obtain ⟨w1, e1, ex, s1, nF, nm⟩ := made (C := G.ca c) rs ha hdx ne
  unfold mkFn at q
  split at q
  · next e =>
    refine ⟨by rw [List.length_cons, ← rv.length]; exact e, ?_⟩
    rw [← e1]
    exact fin_mk ex s1 (RepVs.mono ex rs.dj _ _ rv) (by omega) (by rw [e1, upd_same]) nF nm ha q
  · exact q.elim
theorem cla_star {pv : Str} (F : Fun K x qual st f fd) (SC : FnScope N (ps ++ [pv]) (defScope st)) (cK : G.K = K) (B : Body P w K mg base G k f N qual st ms)
    (hb : ∀ (kV doc pm : Value) (an : Option Addr) (cdv ct : Value) (us rest : List Value), us.length = ps.length → bindArgs (PySem.W.fnOf x qual (defArgs st) (defBody st) (defScope st) .none kV doc pm an cdv ct) ⟨us ++ rest, []⟩ = (newTuple rest >>= fun t => pure (ps.zip us ++ [(pv, t)])))
    (M : Mk K (G.ca c) f) {m n : Nat} (em : ps.length = m) (en : N.length = n) (hmn : m + 1 ≤ n) (hm1 : 1 ≤ m) : ClA P w K mg base G (k + 2) c (mkStar c m n ms) := by
  have z := fns_starred (P := P) (w := w) (mg := mg) (base := base) F SC cK B hb
  refine ⟨f, M, fun A fr s H us vs Q E hr e0 r h => z A fr s H us vs Q E hr e0 r ?_⟩
  obtain ⟨a, dx, vs, H, Q, rfl, rfl, ha, hdx, ne, rfl, wd, ds, S, eH, rs, rv, q⟩ := h
  subst eH
  unfold mkStar at q
  obtain ⟨hl, q⟩ := FinG.ite q
  obtain ⟨v1, v2, e, l1, r1, r2⟩ := rep_tail (m - 1) rv (by omega)
  subst e
  have l2 : v2.length < lim := by
    rw [← r2.length, List.length_drop]
    omega
  obtain ⟨w1, e1, ex, s1, nF, nm⟩ := made (C := G.ca c) rs ha hdx ne
  refine ⟨V.ref a :: v1, v2, rfl, by rw [List.length_cons, em, l1]; omega, by rw [lim_eq] at l2; exact Nat.le_of_lt l2, fun p hp => ?_⟩
  subst en
  rw [← e1] at hp ⊢
  have ez : Ext w1 (w1.frz p (.tup v2)) := Ext.frz hp
  have st2 := (ex.trans ez).stay rs.dj
  have nap : a ≠ p := fun z => by
    rw [← z, e1, upd_same] at hp
    cases hp
  have ll : (ds.take (m - 1) ++ [D.tup (ds.drop (m - 1))]).length + 1 = m + 1 := by simp; omega
  unfold mkFn at q
  rw [if_pos ll] at q
  have rr : RepVs G (w1.frz p (.tup v2)) (ds.take (m - 1) ++ [D.tup (ds.drop (m - 1))]) (v1 ++ [V.ref p]) := RepVs.append (RepVs.stay st2 _ _ r1) (RepVs.one ⟨p, v2, rfl, .inl ⟨.inr rfl, .inl upd_same⟩, RepVs.stay st2 _ _ r2⟩)
  refine fin_mk (ex.trans ez) (s1.frz hp) rr (by rw [ll]; exact hmn) (a := a) (dx := dx) ?_ (fun z => z.elim nF nap) nm ha q
  show upd w1.H p _ a = _
  rw [upd_ne nap, e1, upd_same]
end
section
variable {G : Sg} {X : Cx} {W : WX} {k n c : Nat} {f C : Addr} {sem : List D → M D} {sp : Sp} {x : Str} {p pos apos : Pos} {e o : Expr} {es : List Expr} {fa : List SV → M (List D)} {σ : L2.St}
theorem run_mk {pins : List (Addr × Obj)} {H : Hp} {s : Shared} {Q : VK} {us : List Value} {vs : List V} (cx : Ctx G X W k) (M : Mk X.K C f) (F : FnS X.prog X.w X.K X.mg X.base G.gd k f sp) (I : Inv X pins σ H s) (r : Vals vs us)
    (h : ∀ a dx, H a = none → H dx = none → dx ≠ a → sp (V.ref a :: vs) (upd (upd H dx (.own a)) a (.ins C dx [])) (fun v H2 => v = .non ∧ Q (.ref a) H2) (WE W σ)) :
    wpAny (model X.prog X.w) X.A (call (.ref C) us) (EP X pins σ Q) X.xe s := by
  have want := h _ _ (I.hok.fresh (Nat.le_succ _)) (I.hok.fresh (Nat.le_refl _)) (Nat.ne_of_lt (Nat.lt_succ_self s.heap.objs.size))
  have J := Inv.made (C := C) I
  have body := F _ X.stack _ _ (Value.ref (s.heap.objs.size + 1) :: us) (V.ref (s.heap.objs.size + 1) :: vs) _ _ (cx.rm.make C us []) (J.env0.make C us []) (.cons rfl r) want
  refine wpAny_call (make_map (f := f) I.kIn M.makes M.init (beq_iff_eq.mp M.fn) (codeAny_mono body ?_))
  rintro (er | fl) s' got
  · exact cx.px σ pins _ _ er s' J got
  · cases fl with
    | ret u =>
      obtain ⟨v, H', J2, rv, rfl, q3⟩ := J.after got
      exact ⟨rv, V.ref (s.heap.objs.size + 1), H', J2, rfl, q3⟩
    | next => exact got.elim
    | brk => exact got.elim
    | cont => exact got.elim
structure CallA (G : Sg) (X : Cx) (W : WX) (a : Addr) (sem : List D → M D) : Prop where
  kp : PySem.W.keepIn X.K (.ref a) = true
  run : ∀ (pins : List (Addr × Obj)) (σ : L2.St) (H : Hp) (s : Shared) (Q : VK) (us : List Value) (vs : List V), Inv X pins σ H s → Vals vs us → spV G sem vs H Q (WE W σ) → wpAny (model X.prog X.w) X.A (call (.ref a) us) (EP X pins σ Q) X.xe s
theorem FnA.call (c : Ctx G X W k) (F : FnX X G k f sem) : CallA G X W f sem := ⟨F.kp, fun _ _ _ _ _ _ _ I r h => run_fa c F I r h⟩
theorem ClA.call {c : Nat} (cx : Ctx G X W k) (F : ClA X.prog X.w X.K X.mg X.base G k c sem) : CallA G X W (G.ca c) sem := by
  obtain ⟨f, M, g⟩ := F.ex
  exact ⟨M.kp, fun pins σ H s Q us vs I r h => run_mk cx M g I r fun a dx ha hdx ne => ⟨a, dx, vs, H, Q, rfl, rfl, ha, hdx, ne, rfl, h⟩⟩
theorem v_calls (F : CallA G X W f sem) (hg : Gl X x) (hm : X.mg x = some (.ref f)) (ha : PLn G X W n (e :: es) fa) (hs : (e :: es).all notStar = true) (hd : (x == ("__debug__" : Str)) = false) :
    PV G X W (.Call (.Name x p) (e :: es) [] pos) (fun sd => M.bind (fa sd) sem) := by
  have hs2 : notStar e = true ∧ es.all notStar = true := by simpa using hs
  constructor
  intro pins s σ H Q I ⟨w0, w, sd, S, eH, r, q⟩
  refine wpAny_Call_Name_kw (ld_glob I hg hm ?_ hd)
  refine PySem.W.callWith_K (h₀ := X.base) I.ok.mod.kin F.kp (thn (ha.run pos pins s σ H (fun vs H1 => spV G sem vs H1 Q (WE W σ)) I ?_) ?_) (starEach_cons hs2.1) (starEach_all hs2.2 pos)
  · exact ⟨w0, w, sd, S, eH, r, fin_step q fun w1 S1 ds vs e1 s1 rv q1 => ⟨w1, ds, S1, rfl, s1, rv.1, q1⟩⟩
  · rintro us s1 ⟨vs, H1, I1, rv, q1⟩
    exact ⟨I1.kIn, F.run _ _ _ _ _ _ _ I1 rv q1⟩
theorem v_calls0 (F : CallA G X W f sem) (hg : Gl X x) (hm : X.mg x = some (.ref f)) (hd : (x == ("__debug__" : Str)) = false) : PV G X W (.Call (.Name x p) [] [] pos) (fun _ => sem []) := by
  constructor
  intro pins s σ H Q I ⟨w0, w, sd, S, eH, r, q⟩
  refine wpAny_Call_Name_kw (ld_glob I hg hm ?_ hd)
  exact PySem.W.callWith_K0 I.kIn F.kp (F.run pins σ H s Q [] [] I .nil ⟨w, [], S, eH, r.st, rfl, q⟩)
end
end Ev
set_option maxRecDepth 100000
set_option maxHeartbeats 2000000
namespace Ev
open PySem PySem.Spec PyProof.Rows L2
section
variable {G : Sg} {X : Cx} {W : WX} {k n : Nat} {f C : Addr} {sem : List D → M D} {x m : Str} {p pos apos : Pos} {e o fe : Expr} {es : List Expr} {fa : List SV → M (List D)} {ff : List SV → M D} {σ : L2.St}
def fldT (i : Nat) (tbl : Nat → Option Nat) : Tgt := fun d sd S => match sd[i]? with
  | some (.own (.ins c ds)) => match tbl c with
    | some j => match putL ds j d with
      | some es => some (sd.set i (.own (.ins c es)), S)
      | none => none
    | none => none
  | _ => none
def tgFld (K : PySem.W.Frag) (to : TE) (f : Str) : TG := fun v σ H Q => to σ H fun y H1 => ∃ a C dx fs, y = V.ref a ∧ H1 a = some (.ins C dx fs) ∧ Cls K C ∧ NoAttr K C f ∧ fs.length < 1000 ∧ Q σ (upd H1 a (.ins C dx (putF f v fs)))
theorem pg_attr {to : TE} (ho : PE X o to) : PG X (.Attribute o m pos) (tgFld X.K to m) := by
  refine ⟨fun pins s σ H v u Q I r h => ?_⟩
  have tree : assign (.Attribute o m pos) X.env u = (do
    let ov ← holding [u] (eval o X.env)
    standAt pos.atName
    holding [u, ov] (setAttr ov m u)
    release [u, ov] []) := by rfl
  rw [tree]
  refine wpAny_bind (wpAny_holding (thn (ho.run pins s σ H _ I h) fun ov s1 got => ?_))
  obtain ⟨y, H1, I1, ry, a, C, dx, fs, ey, ha, cl, na, hl, q⟩ := got
  subst ey
  obtain rfl : ov = Value.ref a := ry
  refine wpAny_bind (wpAny_standAt (wpAny_bind (wpAny_holding (setattr_ok I1 ha cl na hl r fun s2 I2 => ?_))))
  exact wpAny_release ⟨σ, _, I2, q⟩
theorem g_fld {i : Nat} {tbl : Nat → Option Nat} (T : FldT X G m tbl) (hN : X.N[i]? = some x) (hv : Vis X.env.scope x) (hd : (x == ("__debug__" : Str)) = false) (hcd : (x == ("__classdict__" : Str)) = false) : PGV G X [] (.Attribute (.Name x p) m pos) (fldT i tbl) := by
  refine PG.imp (pg_attr (pe_var (X := X) (pos := p) hN hv hd hcd)) fun v σ H Q q => ?_
  obtain ⟨w0, w, sd, S, d, e, r, rv, q⟩ := q
  subst e
  unfold fldT at q
  rcases hi : sd[i]? with _ | _ | d0 | ⟨ds | ⟨ks, ds⟩ | ⟨cc, ds⟩⟩
  · simp only [hi] at q; exact q.elim
  · simp only [hi] at q; exact q.elim
  · simp only [hi] at q; exact q.elim
  · simp only [hi] at q; exact q.elim
  · simp only [hi] at q; exact q.elim
  · simp only [hi] at q
    rcases ht : tbl cc with _ | j
    · simp only [ht] at q; exact q.elim
    · simp only [ht] at q
      obtain ⟨cl, na, nd, hj, hl⟩ := T.at_ cc j ht
      obtain ⟨a, ha, ⟨dx, vs, h1, h2, h3⟩, nF, nm, n0⟩ := r.ow i _ hi
      have hlen : ((G.fn cc).zip vs).length < 1000 := by
        rw [List.length_zip]; omega
      refine ⟨.ref a, ha, a, _, dx, _, rfl, h1, cl, na, hlen, ?_⟩
      have st := Stay.wr (w := w) (p := a) (o := .ins (G.ca cc) dx ((G.fn cc).zip (vs.set j v))) nF
      unfold putL at q
      by_cases c1 : j < ds.length
      · simp only [if_pos c1] at q
        rw [putF_zip nd hj (by rw [← h3.length]; exact c1)]
        have hn : RepO G (w.wr a (.ins (G.ca cc) dx ((G.fn cc).zip (vs.set j v)))) a (.ins cc (ds.set j d)) := ⟨dx, _, upd_same, by rw [List.length_set]; exact h2, RepVs.set j (RepVs.stay (Stay.wr nF) _ _ h3) (RepV.stay (Stay.wr nF) _ _ rv)⟩
        exact q _ σ (Stay.wr nF) (r.wr hi ha hn) fun _ _ => rfl
      · simp only [if_neg c1] at q
        by_cases c2 : j = ds.length
        · simp only [if_pos c2] at q
          subst c2
          rw [h3.length] at hj
          rw [putF_new nd hj]
          have hn : RepO G (w.wr a (.ins (G.ca cc) dx ((G.fn cc).zip (vs ++ [v])))) a (.ins cc (ds ++ [d])) := ⟨dx, _, upd_same, by
            rw [List.length_append]
            exact (List.getElem?_eq_some_iff.mp hj).1, RepVs.append (RepVs.stay (Stay.wr nF) _ _ h3) (RepVs.one (RepV.stay (Stay.wr nF) _ _ rv))⟩
          exact q _ σ (Stay.wr nF) (r.wr hi ha hn) fun _ _ => rfl
        · simp only [if_neg c2] at q; exact q.elim
structure CallT (X : Cx) (G : Sg) (k : Nat) (tbl : Nat → Option (List D → M D)) : Prop where
  at_ : ∀ c g, tbl c = some g → ∃ f, StX.CallO X.K (G.ca c) f ∧ FnX X G k f g
def isObj : D → Bool
  | .ins _ _ => true
  | .ref _ => true
  | _ => false
theorem isObj_ref {w : Wd} {d : D} {v : V} (h : isObj d = true) (r : RepV G w d v) : ∃ a, v = .ref a := by
  cases d <;> first | (cases h; done) | skip
  · obtain ⟨a, _, _, e, _⟩ := r; exact ⟨a, e⟩
  · obtain ⟨a, e, _⟩ := r; exact ⟨a, e⟩
def callD (tbl : Nat → Option (List D → M D)) (fa : M (List D)) (d : D) : M D := if isObj d = true then M.bind fa fun ds => M.bind (pick tbl d) fun g => g (d :: ds) else M.stuck
theorem v_callO {tbl : Nat → Option (List D → M D)} (c : Ctx G X W k) (T : CallT X G k tbl) (hf : PV G X W fe ff) (ha : PLn G X W n (e :: es) fa) (hs : (e :: es).all notStar = true)
    (ht : eval (.Call fe (e :: es) [] pos) X.env = (do callWith pos (← eval fe X.env) [] (backTo pos (starEach (e :: es) X.env)) (backToKw pos (keywordEach [] X.env)))) :
    PV G X W (.Call fe (e :: es) [] pos) (fun sd => M.bind (ff sd) (callD tbl (fa sd))) := by
  have hs2 : notStar e = true ∧ es.all notStar = true := by simpa using hs
  constructor
  intro pins s σ H Q I ⟨w0, w, sd, S, eH, r, q⟩
  refine Call_ (thn (hf.run pins s σ H (fun v H1 => ∃ a, v = V.ref a ∧ ∃ w1 S1 d, w1.H = H1 ∧ R G w0 w1 sd S1 σ ∧ RepV G w1 d v ∧ FinG G (RepV G) (fun c x H => W c x σ H) w1 Q (M.bind (fa sd) (fun ds => M.bind (pick tbl d) fun g => g (d :: ds)) S1)) I ?_) ?_) ht
  · refine ⟨w0, w, sd, S, eH, r, fin_step q fun w1 S1 d v e1 s1 rv q1 => ?_⟩
    unfold callD at q1
    obtain ⟨io, q1⟩ := FinG.ite q1
    obtain ⟨a, ev⟩ := isObj_ref io rv
    exact ⟨a, ev, w1, S1, d, rfl, r.step e1 s1, rv, q1⟩
  · rintro u s1 ⟨v, H1, I1, rv, a, rfl, w1, S1, d, rfl, r1, rd, q1⟩
    obtain rfl : u = Value.ref a := rv
    refine StX.callO_with (thn (ha.run pos pins s1 σ w1.H (fun vs H2 => ∃ c g dx fs, tbl c = some g ∧ H2 a = some (.ins (G.ca c) dx fs) ∧ spV G g (V.ref a :: vs) H2 Q (WE W σ)) I1 ?_) ?_) (starEach_cons hs2.1) (starEach_all hs2.2 pos)
    · refine ⟨w0, w1, sd, S1, rfl, r1, fin_step q1 fun w2 S2 ds xs e2 s2 rx q2 => ?_⟩
      have rd2 := RepV.mono e2 r1.st.dj _ _ rd
      obtain ⟨cc, g, tg, q3, _, b, dx, fs, eb, hb⟩ := pick_fin s2 rd2 q2
      cases eb
      exact ⟨cc, g, dx, _, tg, hb, w2, d :: ds, S2, rfl, s2, ⟨_, _, rfl, rd2, rx.1⟩, q3⟩
    · rintro us s2 ⟨xs, H2, I2, rx, cc, g, dx, fs, tg, hb, q2⟩
      obtain ⟨f, co, F⟩ := T.at_ cc g tg
      obtain ⟨ox, od, J, hd⟩ := StX.insC_at I2 (.inr ⟨dx, fs, hb⟩)
      refine ⟨⟨_, ox, od, J, hd⟩, wpAny_call (PySem.W.kco_code I2.kIn J hd co.at_ co.fn co.fi ?_)⟩
      have body := F.run X.A X.stack s2 H2 (.ref a :: us) (.ref a :: xs) Q (WE W σ) c.rm0 I2.env0 (.cons rfl rx) q2
      refine codeAny_mono body ?_
      rintro (er | fl) s' hq
      · exact c.px σ pins H2 s2 er s' I2 hq
      · cases fl with
        | ret u => exact I2.after hq
        | next => exact hq.elim
        | brk => exact hq.elim
        | cont => exact hq.elim
structure StatT (X : Cx) (C : Addr) (m : Str) (f : Addr) : Prop where
  ex : ∃ (mc : Value) (p : Addr) (rest : List Value), ClX.CRead X.K C mc ∧ PySem.W.findCls X.K (.ref C) mc m = some (.get (.builtin "staticmethod.__get__") (.ref p) .none (.ref C)) ∧ PySem.W.recIn X.K p "staticmethod" = some (.ref f :: rest)
theorem v_stat {y : Str} (T : StatT X C m f) (F : CallA G X W f sem) (hg : Gl X y) (hm : X.mg y = some (.ref C)) (ha : PLn G X W n (e :: es) fa) (hs : (e :: es).all notStar = true) (hd : (y == ("__debug__" : Str)) = false) (hl : (e :: es).length < 30) (hp : (apos.endLine == pos.line) = true) :
    PV G X W (.Call (.Attribute (.Name y p) m apos) (e :: es) [] pos) (fun sd => M.bind (fa sd) sem) := by
  have hs2 : notStar e = true ∧ es.all notStar = true := by simpa using hs
  obtain ⟨mc, q, rest, rd, hat, hrec⟩ := T.ex
  constructor
  intro pins s σ H Q I ⟨w0, w, sd, S, eH, r, qq⟩
  refine PySem.W.methodCall_KW (ld_glob I hg hm ?_ hd) (meth_tree (by rfl) hs hl hp)
  refine PySem.W.method_cls I.kIn rd.ga (PySem.W.cls_bind I.kIn rd.rd hat (wpAny_call (PySem.W.sm_get (s := { s with toks := s.toks + 1 }) I.kIn hrec (PySem.W.handed_on rfl ?_))))
  have I1 := I.tok (s.toks + 1)
  refine PySem.W.callWith_K (h₀ := X.base) I.ok.mod.kin F.kp (thn (ha.run pos pins _ σ H (fun vs H1 => spV G sem vs H1 Q (WE W σ)) I1 ?_) ?_) (starEach_cons hs2.1) (starEach_all hs2.2 pos)
  · exact ⟨w0, w, sd, S, eH, r, fin_step qq fun w1 S1 ds vs e1 s1 rv q1 => ⟨w1, ds, S1, rfl, s1, rv.1, q1⟩⟩
  · rintro us s1 ⟨vs, H1, I2, rv, q1⟩
    exact ⟨I2.kIn, F.run _ _ _ _ _ _ _ I2 rv q1⟩
structure BinT (X : Cx) (G : Sg) (k : Nat) (op : Operator) (tbl : Nat → Option (List D → M D)) : Prop where
  at_ : ∀ c g, tbl c = some g → ∃ f, PySem.W.selfFirst X.K (G.ca c) = true ∧ PySem.W.findIn X.K (.ref (G.ca c)) (PySem.dunder op.info.2) = some (some (.ref f)) ∧ PySem.W.isFn X.K (.ref f) = true ∧ FnX X G k f g
def ownBin (tbl : Nat → Option (List D → M D)) (d e : D) : M D := M.bind (pick tbl d) fun g => M.bind (clsOf d) fun c => M.bind (clsOf e) fun c' => if c = c' then g [d, e] else M.stuck
theorem clsOf_fin {α β : Type} {rep : Wd → α → β → Prop} {W' : Value → Option Addr → Hp → Prop} {w : Wd} {Q : β → Hp → Prop} {S : List Ob} {d : D} {kk : Nat → M α} {v : V} (s : RepS G w S) (rd : RepV G w d v) (h : FinG G rep W' w Q (M.bind (clsOf d) kk S)) :
    ∃ c, FinG G rep W' w Q (kk c S) ∧ clsOf d S = some (.ok c, S) ∧ ∃ a dx vs, v = .ref a ∧ w.H a = some (.ins (G.ca c) dx ((G.fn c).zip vs)) := by
  unfold M.bind at h
  rcases hc : clsOf d S with _ | ⟨y | c, S2⟩
  · rw [hc] at h; exact h.elim
  · exact absurd hc clsOf_noerr
  · obtain ⟨rfl, z⟩ := clsOf_rep s rd hc
    rw [hc] at h
    exact ⟨c, h, rfl, z⟩
theorem v_ownBin {op : Operator} {a b : Expr} {tbl : Nat → Option (List D → M D)} {f1 f2 : List SV → M D} (c : Ctx G X W k) (T : BinT X G k op tbl) (h1 : PV G X W a f1) (h2 : PV G X W b f2) : PV G X W (.BinOp a op b pos) (fun sd => M.bind (f1 sd) fun d => M.bind (f2 sd) (ownBin tbl d)) := by
  constructor
  intro pins s σ H Q I ⟨w0, w, sd, S, eH, r, q⟩
  refine wpAny_BinOp (binT h1 h2 (R := fun v v2 H2 => ∃ w2 S2 d d2, w2.H = H2 ∧ RepS G w2 S2 ∧ RepV G w2 d v ∧ RepV G w2 d2 v2 ∧ FinG G (RepV G) (fun c x H => W c x σ H) w2 Q (ownBin tbl d d2 S2)) I ?_ ?_)
  · refine ⟨w0, w, sd, S, eH, r, fin_step q fun w1 S1 d v e1 s1 rv q1 => ⟨w0, w1, sd, S1, rfl, r.step e1 s1, fin_step q1 fun w2 S2 d2 v2 e2 s2 rv2 q2 => ?_⟩⟩
    exact ⟨w2, S2, d, d2, rfl, s2, RepV.mono e2 s1.dj d v rv, rv2, q2⟩
  · rintro v u s2 y z H2 I2 rv ru ⟨w2, S2, d, d2, rfl, s2', rd, rd2, q2⟩
    unfold ownBin at q2
    obtain ⟨cc, g, tg, q3, hc1, a1, dx1, fs1, rfl, hb1⟩ := pick_fin s2' rd q2
    obtain ⟨c1, q4, hc2, a2, dx2, fs2, e2, hb2⟩ := clsOf_fin s2' rd q3
    cases e2
    obtain ⟨c2, q5, hc3, a3, dx3, fs3, rfl, hb3⟩ := clsOf_fin s2' rd2 q4
    obtain ⟨ec, q6⟩ := FinG.ite q5
    subst ec
    have e12 : c1 = cc := by
      rw [hc1] at hc2
      cases hc2
      rfl
    subst e12
    obtain ⟨f, sf, fi, isf, F⟩ := T.at_ c1 g tg
    cases (show v = Value.ref a1 from rv)
    cases (show u = Value.ref a3 from ru)
    obtain ⟨m1, O1, _⟩ := ins_get I2.hok hb1
    obtain ⟨od1, J1, _⟩ := O1.look
    obtain ⟨m3, O3, _⟩ := ins_get I2.hok hb3
    obtain ⟨od3, J3, _⟩ := O3.look
    obtain ⟨fr, hF⟩ := I2.fr
    refine PySem.W.binop_K hF I2.ok.mod.kin J1 J3.type sf fi isf (wpAny_mono (run_fa (us := [.ref a1, .ref a3]) (vs := [.ref a1, .ref a3]) c F I2 (.cons rfl (.cons rfl .nil)) ⟨w2, [d, d2], S2, rfl, s2', ⟨_, _, rfl, rd, _, _, rfl, rd2, rfl⟩, q6⟩) (fun u2 s3 got => ?_) fun _ _ z => z)
    obtain ⟨v2, H3, I3, rv2, q7⟩ := id got
    exact SlX.cmpback rv2 got
end
end Ev
set_option maxRecDepth 100000
set_option maxHeartbeats 2000000
namespace Ev
open PySem PySem.Spec PyProof.Rows L2
def stepLo (n : Nat) (c : Int) : Int := if c < 0 then (n : Int) - 1 else 0
def stepNo (n : Nat) (c : Int) : Nat := Builtin.Slice.slicePlaces (stepLo n c) (if c < 0 then -1 else (n : Int)) c
def stepL {α : Type} (c : Int) (xs : List α) : List α := (List.range (stepNo xs.length c)).filterMap fun (m : Nat) => xs[(stepLo xs.length c + (m : Int) * c).toNat]?
theorem step_adjust (n : Nat) (c : Int) : Builtin.Slice.sliceAdjust none none c (n : Int) = (stepLo n c, if c < 0 then -1 else (n : Int)) := by
  unfold Builtin.Slice.sliceAdjust stepLo
  by_cases h : c < 0
  · simp [h]
  · simp [h]
theorem vals_pick {xs : List V} {us : List Value} (r : Vals xs us) (ix : Nat → Nat) : ∀ l : List Nat, Vals (l.filterMap fun m => xs[ix m]?) (l.filterMap fun m => us[ix m]?)
  | [] => .nil
  | m :: l => by
    have ih := vals_pick r ix l
    rcases h : xs[ix m]? with _ | x
    · have hu : us[ix m]? = none := by
        rw [List.getElem?_eq_none_iff] at h ⊢
        rw [← r.length]
        exact h
      rw [List.filterMap_cons_none (by simpa using h), List.filterMap_cons_none (by simpa using hu)]
      exact ih
    · obtain ⟨u, hu, ru⟩ := r.get h
      rw [List.filterMap_cons_some (b := x) (by simpa using h), List.filterMap_cons_some (b := u) (by simpa using hu)]
      exact .cons ru ih
theorem reps_pick {G : Sg} {w : Wd} {ds : List D} {vs : List V} (r : RepVs G w ds vs) (ix : Nat → Nat) : ∀ l : List Nat, RepVs G w (l.filterMap fun m => ds[ix m]?) (l.filterMap fun m => vs[ix m]?)
  | [] => rfl
  | m :: l => by
    have ih := reps_pick r ix l
    rcases h : ds[ix m]? with _ | x
    · have hu : vs[ix m]? = none := by
        rw [List.getElem?_eq_none_iff] at h ⊢
        rw [← r.length]
        exact h
      rw [List.filterMap_cons_none (by simpa using h), List.filterMap_cons_none (by simpa using hu)]
      exact ih
    · obtain ⟨u, hu, ru⟩ := r.get h
      rw [List.filterMap_cons_some (b := x) (by simpa using h), List.filterMap_cons_some (b := u) (by simpa using hu)]
      exact ⟨u, _, rfl, ru, ih⟩
theorem stepNo_le (n : Nat) (c : Int) (h : c ≠ 0) : stepNo n c ≤ n := by
  unfold stepNo stepLo Builtin.Slice.slicePlaces
  by_cases h0 : c < 0
  · have h1 : ¬ c > 0 := by omega
    simp only [h0, h1, if_true, if_false]
    split
    · have e : ((n : Int) - 1 - -1 - 1) / -c ≤ (n : Int) - 1 - -1 - 1 := by
        refine Int.ediv_le_self _ ?_
        omega
      omega
    · simp
  · have h1 : c > 0 := by omega
    simp only [h0, h1, if_true, if_false]
    split
    · have e : ((n : Int) - 0 - 1) / c ≤ (n : Int) - 0 - 1 := by
        refine Int.ediv_le_self _ ?_
        omega
      omega
    · simp
theorem step_len {α : Type} (c : Int) (h : c ≠ 0) (xs : List α) : (stepL c xs).length ≤ xs.length := by
  unfold stepL
  refine Nat.le_trans (List.length_filterMap_le _ _) ?_
  rw [List.length_range]
  exact stepNo_le _ _ h
section
variable {prog : Program} {w : World} {A : Around} {E : Value → Shared → Prop} {s : Shared}
theorem applied_step {sl : Addr} {vs : Value} {c : Int} {n : Nat} {Q : Int × Int × Nat → Shared → Prop} (hs : s.heap.IsSliceOf sl .none .none vs) (pc : IsPart vs (some c)) (h0 : c ≠ 0) (h : Q (stepLo n c, c, stepNo n c) s) :
    wpAny (model prog w) A (Builtin.Slice.sliceApplied (.ref sl) (pure (n : Int))) Q E s := by
  obtain ⟨ob, hob, hcl, hfd⟩ := id hs
  unfold Builtin.Slice.sliceApplied Builtin.Slice.sliceFields
  refine wpAny_bind (wpAny_bind (wpAny_field hob hfd (x := .none) rfl (wpAny_bind (wpAny_field hob hfd (x := .none) rfl (wpAny_bind (wpAny_field hob hfd (x := vs) rfl (wpAny_pure ?_)))))))
  refine wpAny_bind (HT.slicePart_ pc ?_)
  show wpAny _ _ (if (c == 0) = true then _ else _) _ _ s
  rw [if_neg (by simpa using h0)]
  refine wpAny_bind (HT.slicePart_ .none (wpAny_bind (HT.slicePart_ .none (wpAny_bind (wpAny_pure ?_)))))
  show wpAny _ _ (match Builtin.Slice.sliceAdjust none none c (n : Int) with | (lo, hi) => pure (lo, c, Builtin.Slice.slicePlaces lo hi c)) _ _ s
  rw [step_adjust]
  exact wpAny_pure h
theorem get_tup_step {t sl : Addr} {items : Array Value} {vs : Value} {c : Int} {Q : Value → Shared → Prop} (ht : IsTup s.heap t items) (hs : s.heap.IsSliceOf sl .none .none vs) (pc : IsPart vs (some c)) (h0 : c ≠ 0) (h1 : c ≠ 1)
    (h : Q (.ref s.heap.objs.size) { s with heap := s.heap.push { cls := .type "tuple", data := .seq (stepL c items.toList).toArray } }) (hsz : items.size ≤ sizeLine) : wpAny (model prog w) A (getItem (.ref t) (.ref sl)) Q E s := by
  have fits : sizeOk (.seq (stepL c items.toList).toArray) := by
    show (stepL c items.toList).toArray.size ≤ sizeLine
    rw [List.size_toArray]
    exact Nat.le_trans (step_len c h0 items.toList) (by rw [Array.length_toList]; exact hsz)
  obtain ⟨ob, hob, hcl, hfd⟩ := id hs
  have hT : s.TypeIs (.ref sl) "slice" := ⟨ob, hob, hcl⟩
  unfold getItem
  try with_reducible refine wpAny_holding ?_
  first | refine wpAny_bind (wpAny_pure ?_) | skip
  refine wpAny_bind (wpAny_sequenceKey ht.typeIs (by decide) ?_)
  refine wpAny_bind (wpAny_callSpecial?_slot (name := Str.ofString "__getitem__") ht.typeIs PyProof.Rows.slot_tuple_getitem (wpAny_call_entry PyProof.Rows.slot_tuple_getitem ht.typeIs entry_tuple_getitem ?_ (args_tuple_getitem _ _)))
  show wpAny _ _ (Builtin.Tuple.tupleItemsOf (.ref t) >>= _) _ _ s
  refine wpAny_bind (tupleItemsOf_ ht (wpAny_bind (wpAny_typeOf hT ?_)))
  rw [if_pos (by decide)]
  refine wpAny_bind (applied_step hs pc h0 ?_)
  have part : ¬ ((stepLo items.size c == 0 && c == 1 && stepNo items.size c == items.size) = true) := by
    intro z
    rw [Bool.and_eq_true, Bool.and_eq_true] at z
    exact h1 (eq_of_beq z.1.2)
  show wpAny _ _ (if (stepLo items.size c == 0 && c == 1 && stepNo items.size c == items.size) = true then _ else _) _ _ s
  rw [if_neg part]
  have e : ((List.range (stepNo items.size c)).filterMap fun (k : Nat) => items[(stepLo items.size c + (k : Int) * c).toNat]?) = stepL c items.toList := by
    unfold stepL
    rw [Array.length_toList]
    congr 1
    funext k
    rw [Array.getElem?_toList]
  rw [e]
  first
    | exact wpAny_bind (m := Builtin.Tuple.tupleExact _) (wpAny_newObj_type (wpAny_pure ⟨_, rfl, wpAny_pure h⟩) fits)
    | exact wpAny_bind (m := Builtin.Tuple.tupleExact _) (wpAny_newObj_type (wpAny_bind (wpAny_pure (wpAny_pure ⟨_, rfl, wpAny_pure h⟩))) fits)
    | exact wpAny_bind (wpAny_bind (m := Builtin.Tuple.tupleExact _) (wpAny_newObj_type (wpAny_pure (wpAny_pure ⟨_, rfl, wpAny_pure h⟩)) fits))
    | exact wpAny_bind (wpAny_bind (m := Builtin.Tuple.tupleExact _) (wpAny_newObj_type (wpAny_pure ⟨_, rfl, wpAny_pure h⟩) fits))
end
section
variable {G : Sg} {X : Cx} {W : WX} {k n : Nat} {pos : Pos} {e o fe : Expr} {es : List Expr} {σ : L2.St}
def tStepT (K : PySem.W.Frag) (c : Int) (te : TE) : TE := fun σ H Q => te σ H fun x H1 => ∃ a xs, x = .ref a ∧ SqT K H1 a xs ∧ ∀ p, H1 p = none → Q (.ref p) (upd H1 p (.tup (stepL c xs)))
theorem stepL_eq {α : Type} (c : Int) (xs : List α) (n : Nat) (h : xs.length = n) : stepL c xs = (List.range (stepNo n c)).filterMap fun m => xs[(fun m : Nat => (stepLo n c + (m : Int) * c).toNat) m]? := by
  subst h
  rfl
theorem pe_stepT {te : TE} {st : Expr} {p3 : Pos} {c : Int} (he : PE X e te) (hst : PO X (some st) (fun _ H Q => Q (some c) H)) (h0 : c ≠ 0) (h1 : c ≠ 1) : PE X (.Subscript e (.Slice none none (some st) p3) pos) (tStepT X.K c te) := by
  refine ⟨fun pins s σ H Q I h => ?_⟩
  refine Subscript_ (thn (he.run pins s σ H _ I h) fun v s1 ⟨x, H1, I1, r1, a, xs, ex, hx, q⟩ => ?_)
  subst ex
  obtain rfl : v = Value.ref a := r1
  refine wpAny_Slice (thn (po_none.run pins s1 σ H1 (fun o H2 => o = none ∧ H2 = H1) I1 ⟨rfl, rfl⟩) fun vl s2 got => ?_)
  obtain ⟨l, H2, I2, pl, el, e2⟩ := got
  subst el e2
  refine thn (po_none.run pins s2 σ H2 (fun o H3 => o = none ∧ H3 = H2) I2 ⟨rfl, rfl⟩) fun vu s3 got => ?_
  obtain ⟨u, H3, I3, pu, eu, e3⟩ := got
  subst eu e3
  refine thn (hst.run pins s3 σ H3 (fun o H4 => o = some c ∧ H4 = H3) I3 ⟨rfl, rfl⟩) fun vs s4 got => ?_
  obtain ⟨oo, H4, I4, ps, eo, e4⟩ := got
  subst eo e4
  cases pl
  cases pu
  have J : Inv X pins σ H4 { s4 with heap := s4.heap.push { cls := .type "slice", data := .fields #[.none, .none, vs] } } := I4.kept (t' := s4.toks) fun b ob z => Heap.get?_push_of_some _ z
  obtain ⟨its, r, ht, hz⟩ := J.tuple hx
  show wpAny (model X.prog X.w) X.A (subscriptTail e (.Slice none none (some st) p3) (.ref a) (.ref s4.heap.objs.size)) (EP X pins σ Q) X.xe { s4 with heap := s4.heap.push { cls := .type "slice", data := .fields #[.none, .none, vs] } }
  refine tail_any (ops := [.ref a, .ref s4.heap.objs.size]) ht.typeIs PyProof.Rows.slot_tuple_getitem.lookup ?_ (by with_unfolding_all rfl)
  refine get_tup_step ht (Heap.IsSliceOf.new _ .none .none vs) ps h0 h1 ?_ (by rw [List.size_toArray, ← r.length]; exact hz)
  refine ⟨.ref _, _, J.laid (t' := s4.toks) (o := .tup (stepL c xs)) (fun b ob z => Heap.get?_push_of_some _ z) (Nat.le_refl _) ?_, rfl, q _ (J.hok.fresh (Nat.le_refl _))⟩
  refine ⟨Nat.le_trans (step_len c h0 xs) hz, stepL c its, ?_, IsTup.new _ _⟩
  rw [stepL_eq c xs xs.length rfl, stepL_eq c its xs.length r.length.symm]
  exact vals_pick r _ _
def dStep (c : Int) : D → M D
  | .tup ds => M.pure (.tup (stepL c ds))
  | _ => M.stuck
theorem v_stepT {f : List SV → M D} {st : Expr} {p3 : Pos} {c : Int} (cK : G.K = X.K) (he : PV G X W e f) (hst : PO X (some st) (fun _ H Q => Q (some c) H)) (h0 : c ≠ 0) (h1 : c ≠ 1) : PV G X W (.Subscript e (.Slice none none (some st) p3) pos) (fun sd => M.bind (f sd) (dStep c)) := by
  refine PE.imp (pe_stepT he hst h0 h1) fun σ H Q h => ?_
  obtain ⟨w0, w, sd, S, e, r, q⟩ := h
  refine ⟨w0, w, sd, S, e, r, fin_step q fun w1 S1 d v e1 s1 rv q1 => ?_⟩
  cases d with
  | tup ds =>
    obtain ⟨a, vs, ev, ha, rs⟩ := rv
    refine ⟨a, vs, ev, sqT_of cK ha, fun p hp => q1 (w1.frz p _) _ (Ext.frz hp) (s1.frz hp) ⟨p, _, rfl, .inl ⟨.inr rfl, .inl upd_same⟩, RepVs.mono (Ext.frz hp) s1.dj _ _ ?_⟩⟩
    rw [stepL_eq c ds ds.length rfl, stepL_eq c vs ds.length rs.length.symm]
    exact reps_pick rs _ _
  | _ => exact q1.elim
theorem po_neg1 {j : Nat} {p1 p2 : Pos} : PO X (some (.UnaryOp .USub (.Constant (.int 1) j p1) p2)) (fun _ H Q => Q (some (-1)) H) := by
  have z : PO X (some (.UnaryOp .USub (.Constant (.int 1) j p1) p2)) (tPart (tUn (rU fun i => .int (-i)) (tC (.int 1)))) := po_some (pe_un un_neg pe_int)
  exact ⟨fun pins s σ H Q I h => z.run pins s σ H Q I ⟨1, rfl, -1, rfl, h⟩⟩
theorem po_lit {c : Int} {j : Nat} {p1 : Pos} : PO X (some (.Constant (.int c) j p1)) (fun _ H Q => Q (some c) H) := by
  have z : PO X (some (.Constant (.int c) j p1)) (tPart (tC (.int c))) := po_some pe_int
  exact ⟨fun pins s σ H Q I h => z.run pins s σ H Q I ⟨c, rfl, h⟩⟩
end
end Ev
set_option maxRecDepth 100000
set_option maxHeartbeats 2000000
namespace Ev
open PySem PySem.Spec PyProof.Rows L2
def perm {α : Type} (ix : List Nat) (l : List α) : List α := ix.filterMap (l[·]?)
theorem vals_perm {xs : List V} {us : List Value} (r : Vals xs us) (ix : List Nat) : Vals (perm ix xs) (perm ix us) := vals_pick r id ix
theorem reps_perm {G : Sg} {w : Wd} {ds : List D} {vs : List V} (r : RepVs G w ds vs) (ix : List Nat) : RepVs G w (perm ix ds) (perm ix vs) := reps_pick r id ix
structure FnK (P : Program) (w : World) (K : PySem.W.Frag) (mg : Str → Option Value) (base : Heap) (G : Sg) (k : Nat) (f : Addr) (m : Nat) (ks : List Str) (sem : List D → M D) : Prop where
  run : ∀ (A : Around) (fr : List Env) (s : Shared) (H : Hp) (us ws : List Value) (vs zs : List V) (Q : VK) (E : XK),
    Rm G.gd k A → Env0 P w K mg base A fr s H → Vals vs us → Vals zs ws → vs.length = m → zs.length = ks.length → spV G sem (vs ++ zs) H Q E → codeAny (model P w) A (.call (.ref f) ⟨us, ks.zip ws⟩) (CR (L2.CX P w) fr P w H s Q E) s
  kp : PySem.W.keepIn K (.ref f) = true
abbrev FnKX (X : Cx) (G : Sg) (k : Nat) (f : Addr) (m : Nat) (ks : List Str) (sem : List D → M D) : Prop := FnK X.prog X.w X.K X.mg X.base G k f m ks sem
theorem FnK.mono {P : Program} {w : World} {K : PySem.W.Frag} {mg : Str → Option Value} {base : Heap} {G : Sg} {j k m : Nat} {ks : List Str} {f : Addr} {sem : List D → M D} (F : FnK P w K mg base G j f m ks sem) (h : j ≤ k) : FnK P w K mg base G k f m ks sem :=
  ⟨fun A fr s H us ws vs zs Q E hr => F.run A fr s H us ws vs zs Q E (hr.mono h), F.kp⟩
section
variable {P : Program} {w : World} {K : PySem.W.Frag} {mg : Str → Option Value} {base : Heap} {G : Sg} {k m c : Nat} {f : Addr} {x qual : Str} {st : Stmt} {fd : FuncData} {N ps ks : List Str} {ms : MS} {ix : List Nat}
def KwBinds (st : Stmt) (x qual : Str) (ps ks : List Str) (m : Nat) (ix : List Nat) : Prop := ∀ (kV doc pm : Value) (an : Option Addr) (cdv ct : Value) (us ws : List Value), us.length = m → ws.length = ks.length →
  bindArgs (PySem.W.fnOf x qual (defArgs st) (defBody st) (defScope st) .none kV doc pm an cdv ct) ⟨us, ks.zip ws⟩ = pure (ps.zip (perm ix (us ++ ws)))
theorem fnk_run (F : Fun K x qual st f fd) (SC : FnScope N ps (defScope st)) (hb : KwBinds st x qual ps ks m ix) (cK : G.K = K) (B : Body P w K mg base G k f N qual st ms)
    {A : Around} {fr : List Env} {s : Shared} {H : Hp} {us ws : List Value} {vs zs : List V} {Q : VK} {E : XK} (hr : Rm G.gd (k + 2) A) (e0 : Env0 P w K mg base A fr s H) (r : Vals vs us) (r2 : Vals zs ws) (l1 : vs.length = m) (l2 : zs.length = ks.length)
    (h : (perm ix (vs ++ zs)).length = ps.length ∧ spT G N ms (perm ix (vs ++ zs)) H Q E) : codeAny (model P w) A (.call (.ref f) ⟨us, ks.zip ws⟩) (CR (L2.CX P w) fr P w H s Q E) s := by
  obtain ⟨oc, od, kV, doc, pm, an, cdv, ct, osl, rfl, lk, hcd⟩ := F.ex
  have g := gn_of (sp := fun vs H Q E => vs.length = ps.length ∧ spT G N ms vs H Q E) (P := P) (w := w) (mg := mg) (base := base) (k := k + 1) lk hcd SC (fun _ _ _ _ z => z.1) (fun A fr s H vs Q E hr hsp => ⟨_, B cdv A fr s H E (ctxF cK SC hr), hsp.2⟩)
  exact g.run A fr s H ⟨us, ks.zip ws⟩ (perm ix (us ++ ws)) _ Q E hr e0 (.of_eq (hb _ _ _ _ _ _ us ws (r.length.symm.trans l1) (r2.length.symm.trans l2))) (vals_perm (r.append r2) ix) h
theorem fnk_rule (F : Fun K x qual st f fd) (SC : FnScope N ps (defScope st)) (hb : KwBinds st x qual ps ks m ix) (cK : G.K = K) (B : Body P w K mg base G k f N qual st ms) {a n : Nat} (ea : ps.length = a) (en : N.length = n) (hmn : a ≤ n) :
    FnK P w K mg base G (k + 2) f m ks (fun ds => runFn a n ms (perm ix ds)) := by
  refine ⟨fun A fr s H us ws vs zs Q E hr e0 r r2 l1 l2 ⟨wd, ds, S, eH, rs, rv, q⟩ => fnk_run F SC hb cK B hr e0 r r2 l1 l2 ?_, F.kp⟩
  have rp := reps_perm rv ix
  have q2 : FinG G (RepV G) E wd Q (runFn a n ms (perm ix ds) S) := q
  clear q
  unfold runFn at q2
  split at q2
  · next e =>
    subst ea en
    exact ⟨by rw [← rp.length]; exact e, fin_body eH rs rp (by omega) q2⟩
  · exact q2.elim
end
section
variable {G : Sg} {X : Cx} {W : WX} {k n m j : Nat} {f C : Addr} {sem : List D → M D} {x y mm : Str} {p pos apos kpos : Pos} {e o fe : Expr} {es : List Expr} {kws : List Keyword} {ks : List Str} {fa fk : List SV → M (List D)} {ff g : List SV → M D} {σ : L2.St}
abbrev PKn (G : Sg) (X : Cx) (W : WX) (n : Nat) (es : List Keyword) (f : List SV → M (List D)) : Prop := PK X es (teG G (repL G n) W f)
theorem PK.imp {e : List Keyword} {t t' : TA} (h : PK X e t) (i : ∀ σ H Q, t' σ H Q → t σ H Q) : PK X e t' := ⟨fun ps p s σ H Q I q => h.run ps p s σ H Q I (i σ H Q q)⟩
theorem k_nil : PKn G X W 0 [] (fun _ => M.pure []) := by
  refine PK.imp pk_nil fun σ H Q h => ?_
  obtain ⟨w0, w, sd, S, e, r, q⟩ := h
  subst e
  exact fin_pure q r.st ⟨rfl, rfl⟩
theorem k_cons {nm : Option Str} (he : PV G X W e g) (hr : PKn G X W n kws fk) : PKn G X W (n + 1) (⟨nm, e, kpos⟩ :: kws) (fun sd => M.bind (g sd) fun d => M.bind (fk sd) fun ds => M.pure (d :: ds)) := by
  refine PK.imp (pk_cons he hr) fun σ H Q h => ?_
  obtain ⟨w0, w, sd, S, e, r, q⟩ := h
  refine ⟨w0, w, sd, S, e, r, fin_step q fun w1 S1 d v e1 s1 rv q1 => ⟨w0, w1, sd, S1, rfl, r.step e1 s1, fin_step q1 fun w2 S2 ds vs e2 s2 rvs q2 => ?_⟩⟩
  exact fin_pure q2 s2 ⟨⟨v, vs, rfl, RepV.mono e2 s1.dj d v rv, rvs.1⟩, by rw [List.length_cons, rvs.2]⟩
def both (fa fk : List SV → M (List D)) : List SV → M (List D) := fun sd => M.bind (fa sd) fun ds => M.bind (fk sd) fun es => M.pure (ds ++ es)
structure CallK (G : Sg) (X : Cx) (W : WX) (a : Addr) (m : Nat) (ks : List Str) (sem : List D → M D) : Prop where
  kp : PySem.W.keepIn X.K (.ref a) = true
  run : ∀ (pins : List (Addr × Obj)) (σ : L2.St) (H : Hp) (s : Shared) (Q : VK) (us ws : List Value) (vs zs : List V), Inv X pins σ H s → Vals vs us → Vals zs ws → vs.length = m → zs.length = ks.length → spV G sem (vs ++ zs) H Q (WE W σ) →
    wpAny (model X.prog X.w) X.A (call (.ref a) us (ks.zip ws)) (EP X pins σ Q) X.xe s
theorem after_call {pins : List (Addr × Obj)} {H : Hp} {s : Shared} {Q : VK} {a : Args} (c : Ctx G X W k) (I : Inv X pins σ H s) (h : codeAny (model X.prog X.w) X.A (.call (.ref f) a) (CR (L2.CX X.prog X.w) X.stack X.prog X.w H s Q (WE W σ)) s) :
    wpAny (model X.prog X.w) X.A (call (.ref f) a.pos a.kw) (EP X pins σ Q) X.xe s := by
  refine wpAny_call (codeAny_mono h ?_)
  rintro (er | fl) s' hq
  · exact c.px σ pins H s er s' I hq
  · cases fl with
    | ret u => exact I.after hq
    | next => exact hq.elim
    | brk => exact hq.elim
    | cont => exact hq.elim
theorem FnK.call (c : Ctx G X W k) (F : FnKX X G k f m ks sem) : CallK G X W f m ks sem :=
  ⟨F.kp, fun pins σ H s Q us ws vs zs I r r2 l1 l2 h => after_call (a := ⟨us, ks.zip ws⟩) c I (F.run X.A X.stack s H us ws vs zs Q (WE W σ) c.rm0 I.env0 r r2 l1 l2 h)⟩
theorem kw_names {env : Env} : ∀ {kws : List Keyword} {pos : Pos}, (backToKw pos (keywordEach kws env)).all (·.1.isSome) = true → (backToKw pos (keywordEach kws env)).any (·.1.isNone) = false := fun {kws pos} h => by
  rw [List.any_eq_false]
  intro z hz
  have := List.all_eq_true.mp h z hz
  cases e : z.1 with
  | none => rw [e] at this; cases this
  | some _ => simp
theorem v_kw (F : CallK G X W f n ks sem) (hg : Gl X x) (hm : X.mg x = some (.ref f)) (ha : PLn G X W n (e :: es) fa) (hk : PKn G X W j kws fk) (hj : j = ks.length) (hs : (e :: es).all notStar = true) (hd : (x == ("__debug__" : Str)) = false)
    (hall : (backToKw pos (keywordEach kws X.env)).all (·.1.isSome) = true) (hks : (backToKw pos (keywordEach kws X.env)).filterMap (·.1) = ks) : PV G X W (.Call (.Name x p) (e :: es) kws pos) (fun sd => M.bind (both fa fk sd) sem) := by
  have hs2 : notStar e = true ∧ es.all notStar = true := by simpa using hs
  constructor
  intro pins s σ H Q I ⟨w0, w, sd, S, eH, r, q⟩
  have q : FinG G (RepV G) (fun c x H => W c x σ H) w Q (M.bind (M.bind (fa sd) fun ds => M.bind (fk sd) fun es => M.pure (ds ++ es)) sem S) := q
  rw [M.bind_assoc] at q
  refine wpAny_Call_Name_kw (ld_glob I hg hm ?_ hd)
  refine PySem.W.callWith_KW (h₀ := X.base) I.ok.mod.kin F.kp hall (thn (ha.run pos pins s σ H (fun vs H1 => vs.length = n ∧ ∃ w1 S1 ds, w1.H = H1 ∧ R G w0 w1 sd S1 σ ∧ RepVs G w1 ds vs ∧ FinG G (RepV G) (fun c x H => W c x σ H) w1 Q (M.bind (M.bind (fk sd) fun es => M.pure (ds ++ es)) sem S1)) I ?_) ?_)
    (by rw [starEach_all hs pos, kw_names hall]; rfl) (starEach_cons hs2.1)
  · exact ⟨w0, w, sd, S, eH, r, fin_step q fun w1 S1 ds vs e1 s1 rv q1 => ⟨rv.2, w1, S1, ds, rfl, r.step e1 s1, rv.1, q1⟩⟩
  · rintro us s1 ⟨vs, H1, I1, rv, lv, w1, S1, ds, rfl, r1, rd, q1⟩
    rw [M.bind_assoc] at q1
    refine thn (hk.run pos pins s1 σ w1.H (fun zs H2 => zs.length = ks.length ∧ spV G sem (vs ++ zs) H2 Q (WE W σ)) I1 ?_) ?_
    · exact ⟨w0, w1, sd, S1, rfl, r1, fin_step q1 fun w2 S2 es zs e2 s2 rz q2 => ⟨rz.2.trans hj, w2, ds ++ es, S2, rfl, s2, RepVs.append (RepVs.mono e2 r1.st.dj _ _ rd) rz.1, q2⟩⟩
    · rintro ws s2 ⟨zs, H2, I2, rz, lz, q2⟩
      refine ⟨I2.kIn, ?_⟩
      rw [hks]
      exact F.run pins σ H2 s2 Q us ws vs zs I2 rv rz lv lz q2
theorem v_kw0 (F : CallK G X W f 0 ks sem) (hg : Gl X x) (hm : X.mg x = some (.ref f)) (hk : PKn G X W j kws fk) (hj : j = ks.length) (hd : (x == ("__debug__" : Str)) = false)
    (hall : (backToKw pos (keywordEach kws X.env)).all (·.1.isSome) = true) (hks : (backToKw pos (keywordEach kws X.env)).filterMap (·.1) = ks) : PV G X W (.Call (.Name x p) [] kws pos) (fun sd => M.bind (fk sd) sem) := by
  constructor
  intro pins s σ H Q I ⟨w0, w, sd, S, eH, r, q⟩
  refine wpAny_Call_Name_kw (ld_glob I hg hm ?_ hd)
  refine PySem.W.callWith_KW0 (h₀ := X.base) I.ok.mod.kin F.kp hall (thn (hk.run pos pins s σ H (fun zs H2 => zs.length = ks.length ∧ spV G sem ([] ++ zs) H2 Q (WE W σ)) I ?_) ?_) (by rw [kw_names hall]; rfl)
  · exact ⟨w0, w, sd, S, eH, r, fin_step q fun w2 S2 es zs e2 s2 rz q2 => ⟨rz.2.trans hj, w2, es, S2, rfl, s2, rz.1, q2⟩⟩
  · rintro ws s2 ⟨zs, H2, I2, rz, lz, q2⟩
    refine ⟨I2.kIn, ?_⟩
    rw [hks]
    exact F.run pins σ H2 s2 Q [] ws [] zs I2 .nil rz rfl lz q2
theorem with_obj {M : Model} {A : Around} {E : Value → Shared → Prop} {s : Shared} {a : Addr} {pos : Pos} {Q : Value → Shared → Prop} {args : List (Bool × Sem Value)} {keys : List (Option Str × Sem Value)} (plain : (args.any (·.1) || keys.any (·.1.isNone)) = false)
    (h : wpAny M A (evalArgs (.ref a) true args keys) (fun z t => (∃ C ox od, PySem.W.InstAt t.heap a ox C od ∧ ox.data = .plain) ∧ wpAny M A (call (.ref a) z.pos z.kw) Q E t) E s) : wpAny M A (callWith pos (.ref a) [] args keys) Q E s := by
  unfold callWith
  refine wpAny_bind (wpAny_holding (wpAny_mono h ?_ fun _ _ y => y))
  rintro z t ⟨⟨C, ox, od, J, hd⟩, go⟩
  refine wpAny_bind (wpAny_standAt ?_)
  have kept := PySem.W.kco_keeper (M := M) J hd
  simp only [plain]
  refine wpAny_bind (kept.here ?_)
  exact wpAny_bind (wpAny_mono (wpAny_operateT go) (fun r t2 hr => wpAny_bind (wpAny_holding (wpAny_point (wpAny_pure hr)))) fun _ _ y => y)
structure CallKT (X : Cx) (G : Sg) (k : Nat) (ks : List Str) (tbl : Nat → Option (List D → M D)) : Prop where
  at_ : ∀ c g, tbl c = some g → ∃ f, StX.CallO X.K (G.ca c) f ∧ FnKX X G k f 1 ks g
theorem v_callOK {tbl : Nat → Option (List D → M D)} (c : Ctx G X W k) (T : CallKT X G k ks tbl) (hf : PV G X W fe ff) (hk : PKn G X W j kws fk) (hj : j = ks.length)
    (hall : (backToKw pos (keywordEach kws X.env)).all (·.1.isSome) = true) (hks : (backToKw pos (keywordEach kws X.env)).filterMap (·.1) = ks)
    (ht : eval (.Call fe [] kws pos) X.env = (do callWith pos (← eval fe X.env) [] (backTo pos (starEach [] X.env)) (backToKw pos (keywordEach kws X.env)))) :
    PV G X W (.Call fe [] kws pos) (fun sd => M.bind (ff sd) (callD tbl (fk sd))) := by
  constructor
  intro pins s σ H Q I ⟨w0, w, sd, S, eH, r, q⟩
  rw [ht]
  refine wpAny_bind (thn (hf.run pins s σ H (fun v H1 => ∃ a, v = V.ref a ∧ ∃ w1 S1 d, w1.H = H1 ∧ R G w0 w1 sd S1 σ ∧ RepV G w1 d v ∧ FinG G (RepV G) (fun c x H => W c x σ H) w1 Q (M.bind (fk sd) (fun ds => M.bind (pick tbl d) fun g => g (d :: ds)) S1)) I ?_) ?_)
  · refine ⟨w0, w, sd, S, eH, r, fin_step q fun w1 S1 d v e1 s1 rv q1 => ?_⟩
    unfold callD at q1
    obtain ⟨io, q1⟩ := FinG.ite q1
    obtain ⟨a, ev⟩ := isObj_ref io rv
    exact ⟨a, ev, w1, S1, d, rfl, r.step e1 s1, rv, q1⟩
  · rintro u s1 ⟨v, H1, I1, rv, a, rfl, w1, S1, d, rfl, r1, rd, q1⟩
    obtain rfl : u = Value.ref a := rv
    refine with_obj (by rw [kw_names hall]; rfl) (PyProof.Rows.evalArgs_kw2_nil hall (thn (hk.run pos pins s1 σ w1.H (fun zs H2 => zs.length = ks.length ∧ ∃ c g dx fs, tbl c = some g ∧ H2 a = some (.ins (G.ca c) dx fs) ∧ spV G g ([V.ref a] ++ zs) H2 Q (WE W σ)) I1 ?_) ?_))
    · refine ⟨w0, w1, sd, S1, rfl, r1, fin_step q1 fun w2 S2 ds xs e2 s2 rx q2 => ?_⟩
      have rd2 := RepV.mono e2 r1.st.dj _ _ rd
      obtain ⟨cc, g, tg, q3, _, b, dx, fs, eb, hb⟩ := pick_fin s2 rd2 q2
      cases eb
      exact ⟨rx.2.trans hj, cc, g, dx, _, tg, hb, w2, d :: ds, S2, rfl, s2, ⟨_, _, rfl, rd2, rx.1⟩, q3⟩
    · rintro ws s2 ⟨zs, H2, I2, rz, lz, cc, g, dx, fs, tg, hb, q2⟩
      obtain ⟨f, co, F⟩ := T.at_ cc g tg
      obtain ⟨ox, od, J, hd⟩ := StX.insC_at I2 (.inr ⟨dx, fs, hb⟩)
      rw [hks]
      refine ⟨⟨_, ox, od, J, hd⟩, wpAny_call (PySem.W.kco_code I2.kIn J hd co.at_ co.fn co.fi ?_)⟩
      have body := F.run X.A X.stack s2 H2 [.ref a] ws [.ref a] zs Q (WE W σ) c.rm0 I2.env0 (.cons rfl .nil) rz rfl lz q2
      refine codeAny_mono body ?_
      rintro (er | fl) s' hq
      · exact c.px σ pins H2 s2 er s' I2 hq
      · cases fl with
        | ret u => exact I2.after hq
        | next => exact hq.elim
        | brk => exact hq.elim
        | cont => exact hq.elim
end
end Ev
set_option maxRecDepth 100000
set_option maxHeartbeats 2000000
namespace Ev
open PySem PySem.Spec PyProof.Rows L2
def GlobD (mg : Str → Option Value) (G : Sg) (x : Str) (d : D) : Prop := ∃ u v, mg x = some u ∧ RelV v u ∧ ∀ w : Wd, RepV G w d v
section
variable {G : Sg} {X : Cx} {W : WX} {k : Nat} {x : Str} {p : Pos} {d : D}
theorem v_glob (hg : Gl X x) (h : GlobD X.mg G x d) (hd : (x == ("__debug__" : Str)) = false) : PV G X W (.Name x p) (fun _ => M.pure d) := by
  obtain ⟨u, v, hm, r, rv⟩ := h
  exact v_lit (pe_glob hg hm r hd) fun w S _ => rv w
theorem v_ty {t : TyN} (hg : Gl X x) (hm : X.mg x = none) (hv : bootBuiltins x = some (.type t.name)) (hn : x ≠ "__name__") (hd : (x == ("__debug__" : Str)) = false) : PV G X W (.Name x p) (fun _ => M.pure (.ty t)) :=
  v_lit (v := .ty t.name) (pe_bltn hg hm hv rfl hn hd) fun w S _ => rfl
theorem v_int {i : Int} {j : Nat} : PV G X W (.Constant (.int i) j p) (fun _ => M.pure (.int i)) := v_lit pe_int fun _ _ _ => rfl
theorem v_str {s : Str} {j : Nat} : PV G X W (.Constant (.str s) j p) (fun _ => M.pure (.str s)) := v_lit pe_str fun _ _ _ => rfl
theorem v_bool {b : Bool} {j : Nat} : PV G X W (.Constant (.bool b) j p) (fun _ => M.pure (.bl b)) := v_lit pe_bl fun _ _ _ => rfl
theorem v_none {j : Nat} : PV G X W (.Constant .none j p) (fun _ => M.pure .non) := v_lit pe_non fun _ _ _ => rfl
theorem b_of {e : Expr} {f : List SV → M Bool} (h : PBW G X W e f) : PB G X W e f := PW.pt h
end
theorem glob_int {mg : Str → Option Value} {G : Sg} {x : Str} {i : Int} {t : Tok} (h : mg x = some (.int i t)) : GlobD mg G x (.int i) := ⟨_, .int i, h, ⟨t, rfl⟩, fun _ => rfl⟩
theorem glob_str {mg : Str → Option Value} {G : Sg} {x s : Str} {t : Tok} (h : mg x = some (.str s t)) : GlobD mg G x (.str s) := ⟨_, .str s, h, ⟨t, rfl⟩, fun _ => rfl⟩
theorem glob_cls {mg : Str → Option Value} {G : Sg} {x : Str} {c : Nat} (h : mg x = some (.ref (G.ca c))) : GlobD mg G x (.cls c) := ⟨_, .ref (G.ca c), h, rfl, fun _ => rfl⟩
theorem glob_tup {mg : Str → Option Value} {G : Sg} {x : Str} {a : Addr} {ds : List D} {vs : List V} (h : mg x = some (.ref a)) (hk : KTup G.K a vs) (hr : ∀ w : Wd, RepVs G w ds vs) : GlobD mg G x (.tup ds) := ⟨_, .ref a, h, rfl, fun w => ⟨a, vs, rfl, .inr hk, hr w⟩⟩
def tab {α : Type} : List (Nat × α) → Nat → Option α
  | [], _ => none
  | (c, x) :: l, n => if n = c then some x else tab l n
theorem tab_nil {α : Type} {P : Nat → α → Prop} : ∀ c g, tab ([] : List (Nat × α)) c = some g → P c g := fun _ _ h => nomatch h
theorem tab_cons {α : Type} {P : Nat → α → Prop} {c0 : Nat} {x : α} {l : List (Nat × α)} (h0 : P c0 x) (h : ∀ c g, tab l c = some g → P c g) : ∀ c g, tab ((c0, x) :: l) c = some g → P c g := fun c g e => by
  unfold tab at e
  split at e
  · next q => subst q; cases e; exact h0
  · exact h c g e
end Ev
namespace Ev
open PySem PySem.Spec PyProof.Rows L2
def AtOk (X : Cx) (G : Sg) (k : Nat) (m : Str) (c : Nat) : At → Prop
  | .fld i => Cls X.K (G.ca c) ∧ NoAttr X.K (G.ca c) m ∧ (G.fn c).Nodup ∧ (G.fn c)[i]? = some m
  | .prop g => ∃ p f, Cls X.K (G.ca c) ∧ PropOf X.K (G.ca c) m p f ∧ FnX X G k f g
theorem AttrT.of {X : Cx} {G : Sg} {k : Nat} {m : Str} {tbl : Nat → Option At} (h : ∀ c x, tbl c = some x → AtOk X G k m c x) : AttrT X G k m tbl := ⟨fun c i e => h c _ e, fun c g e => h c _ e⟩
end Ev
set_option maxRecDepth 100000
set_option maxHeartbeats 2000000
namespace Ev
open PySem PySem.Spec PyProof.Rows L2
theorem enum_new1 {v : Value} {o : Obj} {Hh : Heap → Prop} (B : Begins v o Hh) :
    Meets (Builtin.«enumerate.__new__» ⟨[.type "enumerate", v], []⟩) (fun _ R s => Hh s.heap ∧
      R (.ok (.ret (.ref (s.heap.push o).objs.size))) { s with heap := (s.heap.push o).push { cls := .type "enumerate", data := .fields #[.none, .bool false, .ref s.heap.objs.size, rawInt 0, .none, .none] } }) :=
  .of_wp fun prog w A R s h => by
    obtain ⟨hp, g, d, tk, os⟩ := s
    obtain ⟨h1, h⟩ := h
    have below := sub_enumerate
    have begin_ : ∀ {A' : Around} {E : Value → Shared → Prop} {Q : Value → Shared → Prop}, Q (.ref hp.objs.size) ⟨hp.push o, g, d, tk, os⟩ → wpAny (model prog w) A' (pyIter v) Q E ⟨hp, g, d, tk, os⟩ :=
      fun q => B.iter prog w _ _ ⟨hp, g, d, tk, os⟩ _ h1 q
    wp_walk using begin_
    refine wpAny_stack_any fun st => wpAny_pure ?_
    split
    · rename_i c _ _ _ _ _
      cases (c == Value.type "enumerate")
      all_goals
        wp_walk using begin_
        exact ⟨_, rfl, h⟩
    · wp_walk using begin_
      exact ⟨_, rfl, h⟩
section
variable {prog : Program} {w : World} {A : Around} {E : Value → Shared → Prop} {s : Shared}
theorem call_enum1 {v : Value} {o : Obj} {Hh : Heap → Prop} {Q : Value → Shared → Prop} (B : Begins v o Hh) (h1 : Hh s.heap)
    (h : ∀ h', IsEnum h' (s.heap.objs.size + 1) s.heap.objs.size 0 .none → h'.get? s.heap.objs.size = some o → (∀ b u, s.heap.get? b = some u → h'.get? b = some u) → Q (.ref (s.heap.objs.size + 1)) { s with heap := h' }) :
    wpAny (model prog w) A (call (.type "enumerate") [v]) Q E s := by
  have size1 : (s.heap.push o).objs.size = s.heap.objs.size + 1 := Heap.size_push ..
  refine callType_new F.called_enumerate (by decide) (F.typeCall_enumerate_1 _) (F.newCall_enumerate_1 _) (fun obj => F.args_object_init_2 obj _) F.entry_enumerate_new (enum_new1 B) ⟨h1, ?_⟩
  show _ ∧ _
  rw [size1]
  have made : IsEnum ((s.heap.push o).push { cls := .type "enumerate", data := .fields #[.none, .bool false, .ref s.heap.objs.size, rawInt 0, .none, .none] }) (s.heap.objs.size + 1) s.heap.objs.size 0 .none := by
    have z := Heap.get?_push_size (s.heap.push o) (o := { cls := .type "enumerate", data := .fields #[.none, .bool false, .ref s.heap.objs.size, rawInt 0, .none, .none] }) rfl
    rw [size1] at z
    exact z
  exact ⟨⟨_, made, rfl⟩, h _ made (Heap.get?_push_of_some _ (Heap.get?_push_size _ B.free)) fun b u x => Heap.get?_push_of_some _ (Heap.get?_push_of_some _ x)⟩
end
theorem apart_it {h : Heap} {a it : Addr} {items : Array Value} {i : Nat} (p : IsTup h a items) (q : h.IsTupleIter it a i) : a ≠ it := by
  rintro rfl
  obtain ⟨o1, h1, c1, _⟩ := p
  obtain ⟨o2, h2, c2, _⟩ := q
  rw [h1] at h2
  cases h2
  rw [c1] at c2
  exact absurd (Value.type.inj c2) (by decide)
theorem enum_done {prog : Program} {w : World} {A : Around} {E : Value → Shared → Prop} {s : Shared} {e it a : Addr} {i : Nat} {n : Int} {old : Value} {items : Array Value} {Q : Option Value → Shared → Prop} (hh : A.handled = none) (he : IsEnum s.heap e it n old) (hit : s.heap.IsTupleIter it a i)
    (ht : s.heap.IsTuple a items) (hi : items.size ≤ i) (hQ : ∀ h', Heap.ExtBut it s.heap h' → Q none { s with heap := h' }) : wpAny (model prog w) A (pyNext (.ref e)) Q E s := by
  have kind : s.TypeIs (.ref e) "enumerate" := ⟨_, he, rfl⟩
  unfold pyNext
  refine wpAny_bind (wpAny_attempt (wpAny_callSpecial?_slot (name := Str.ofString "__next__") kind F.slot_enumerate_next (wpAny_call_entry F.slot_enumerate_next kind F.entry_enumerate_next ?_ (F.args_enumerate_next_1 _))))
  show wpAny _ _ (field (.ref e) 2 >>= _) _ _ _
  refine wpAny_bind (wpAny_field he rfl (x := .ref it) rfl (wpAny_bind ?_))
  refine wpAny_nextOf_tuple_end (A := A.in1) hh hit ht (Array.getElem?_eq_none hi) fun h' x ext stop => ?_
  obtain ⟨ob, ho, hc⟩ := stop
  exact wpAny_bind (wpAny_isInstance (T := "StopIteration") (b := true) ⟨ob, ho, hc⟩ isSubtype_stop (wpAny_pure (hQ _ ext)))
def ItE (K : PySem.W.Frag) (a : Addr) : It :=
  ⟨fun i H => ∃ (xs : List V) (x : V), SqT K H a xs ∧ xs[i]? = some x, fun i H v H' => ∃ T x, v = .ref T ∧ H T = none ∧ H' = upd H T (.tup [.int (i : Nat), x]) ∧ ∀ xs, SqT K H a xs → xs[i]? = some x, fun i H => ∃ xs : List V, SqT K H a xs ∧ xs.length ≤ i⟩
theorem turn_enumT {P : Program} {w : World} {K : PySem.W.Frag} {elts : List Expr} {kk : Nat} {tpos : Pos} (a e it : Addr) :
    Turn P w K (.Tuple elts kk tpos) (ItE K a) [e, it] e (fun i h => (∃ old, IsEnum h e it ((i : Nat) : Int) old) ∧ h.IsTupleIter it a i ∧ e ≠ it) where
  mem := by simp
  obj := fun i h st b hb => by
    obtain ⟨⟨old, he⟩, ⟨o, ho, hc, hd⟩, _⟩ := st
    rcases (show b = e ∨ b = it by simpa using hb) with rfl | rfl
    · exact ⟨_, he, fun v q => nomatch q⟩
    · exact ⟨o, ho, fun v q => by rw [hd] at q; cases q⟩
  keep := fun i h h' st k => let ⟨⟨old, he⟩, hi, hne⟩ := st; ⟨⟨old, k e (by simp) _ he⟩, hi.at fun o q => k it (by simp) o q, hne⟩
  item := by
    intro X hP hw hK hc i pins s σ H E I hf st hg
    subst hP hw hK
    obtain ⟨⟨old, he⟩, hit, hne⟩ := st
    obtain ⟨xs, x, hq, hx⟩ := hg
    obtain ⟨its, rv, p, hz⟩ := I.tuple hq
    obtain ⟨u, hu, ru⟩ := rv.get hx
    have elt_ : e < s.heap.objs.size := Heap.lt_size he
    have ilt : it < s.heap.objs.size := by obtain ⟨_, q, _⟩ := hit; exact Heap.lt_size q
    have apart : a ≠ it := apart_it p hit
    have D := Draws.tuple (prog := X.prog) (w := X.w) (A := X.A.in1) (I.ok.hd hc) it a apart its.toArray
    have ea : e ∉ ([it, a] : List Addr) := by
      intro z
      rcases (show e = it ∨ e = a by simpa using z) with z | z
      · exact hne z
      · subst z
        obtain ⟨o1, h1, c1, _⟩ := p
        have h2 := he
        unfold IsEnum at h2
        rw [h1] at h2
        cases h2
        exact absurd (Value.type.inj c1) (by decide)
    have small : i < its.toArray.size := by
      rw [List.size_toArray, ← rv.length]
      exact (List.getElem?_eq_some_iff.mp hx).1
    refine wpAny_pyNext_enum_itemD D he ⟨hit, p⟩ small hne ea fun y h' tk hy ho st' hT hsz hk => ?_
    have ey : y = u := by
      have hy2 : its.toArray[i]? = some y := hy
      have hu2 : its.toArray[i]? = some u := by simpa using hu
      rw [hu2] at hy2
      exact (Option.some.inj hy2).symm
    subst ey
    refine ⟨_, rfl, wpAny_letOwnedTupleGo_enum (s := { s with heap := h', toks := tk + 1 }) ho fun h'' he' sb => ?_⟩
    have hT2 : h''.get? s.heap.objs.size = some { cls := .type "tuple", data := .seq #[.int i tk, y] } := (sb.2 _ (Nat.ne_of_gt elt_)).trans hT
    have new : ObjOk X.prog X.w (upd H s.heap.objs.size (.tup [.int (i : Nat), x])) h'' s.heap.objs.size (.tup [.int (i : Nat), x]) :=
      ⟨by show 2 ≤ sizeLine; decide, [.int i tk, y], .cons ⟨_, rfl⟩ (.cons ru .nil), ⟨_, hT2, rfl, _, rfl⟩⟩
    have I1 : Inv X pins σ (upd H s.heap.objs.size (.tup [.int (i : Nat), x])) { s with heap := h'', toks := tk + 1 } :=
      I.turnedNew (ch := [e, it]) (fun b ob hb q => (sb.2 b (fun z => hb (by simp [z]))).trans (hk b ob (fun z => hb (by simp [z])) (fun z => hb (by simp [z])) q)) hf (Nat.le_refl _) new
    refine ⟨.ref s.heap.objs.size, _, I1, rfl, ⟨_, x, rfl, I.hok.fresh (Nat.le_refl _), rfl, fun ys hy => by rw [I.tuple_inj hy hq]; exact hx⟩, ⟨⟨y, ?_⟩, st'.1.at fun o q => (sb.2 it (Ne.symm hne)).trans q, hne⟩, fun b hb => ?_⟩
    · have cast : ((i + 1 : Nat) : Int) = (i : Int) + 1 := by omega
      rw [cast]
      exact he'
    · have below : b < s.heap.objs.size := by
        rcases (show b = e ∨ b = it by simpa using hb) with rfl | rfl
        · exact elt_
        · exact ilt
      rw [upd_ne (Nat.ne_of_lt below)]
      exact (hf b hb).1
  done := by
    intro X hP hw hK hc i pins s σ H E I hf st hg
    subst hP hw hK
    obtain ⟨⟨old, he⟩, hit, hne⟩ := st
    obtain ⟨xs, hq, hx⟩ := hg
    obtain ⟨its, rv, p, hz⟩ := I.tuple hq
    obtain ⟨f0, f1, f2, f3, f4, f5⟩ := hf it (by simp)
    have hl := rv.length
    exact enum_done (I.ok.hd hc) he hit p (by rw [List.size_toArray]; omega) fun h' eb => ⟨rfl, I.turned (t' := s.toks) (fun b o hb q => eb b o hb q) f0 f1 f3 f4 f5⟩
  self := fun A i s Q E st h => let ⟨⟨_, he⟩, _⟩ := st; wpAny_pyIter_enum he h
section
variable {G : Sg} {X : Cx} {W : WX} {k : Nat} {w : Wd}
theorem pi_enumT {e : Expr} {te : TE} {p pos tpos : Pos} {elts : List Expr} {kk : Nat} (hg : Gl X "enumerate") (hm : X.mg "enumerate" = none) (he : PE X e te) (hs : notStar e = true) :
    PI X (.Tuple elts kk tpos) (.Call (.Name "enumerate" p) [e] [] pos) (fun σ H R => te σ H fun v H1 => ∃ a xs, v = .ref a ∧ SqT X.K H1 a xs ∧ R (ItE X.K a) H1) := by
  have ha := pa_cons he pa_nil (starEach_cons hs)
  refine ⟨fun pins s σ H R I h => ?_⟩
  refine Call_ (ld_blt I hg hm boot_enumerate (PyProof.Rows.callWith_type1 (thn (ha.run pos pins s σ H (fun vs H1 => match vs with | [v] => ∃ a xs, v = .ref a ∧ SqT X.K H1 a xs ∧ R (ItE X.K a) H1 | _ => False) I ?_) fun us s1 got => ?_) (starEach_cons hs) rfl))
  · exact h
  · obtain ⟨vs, H1, I1, r1, got⟩ := got
    rcases vs with _ | ⟨v, _ | ⟨v2, vs⟩⟩
    · exact got.elim
    rotate_left
    · exact got.elim
    obtain ⟨a, xs, rfl, hq, q⟩ := got
    obtain ⟨u, rfl, ru⟩ := r1.one
    cases (show u = Value.ref a from ru)
    obtain ⟨its, rv, tp, hz⟩ := I1.tuple hq
    refine call_enum1 (begins_tuple a its.toArray) tp fun h' he' hit keep => wpAny_pyIter_enum he' ?_
    have I2 : Inv X pins σ H1 { s1 with heap := h' } := I1.kept (t' := s1.toks) keep
    have ti : h'.IsTupleIter s1.heap.objs.size a 0 := ⟨_, hit, rfl, rfl⟩
    refine ⟨s1.heap.objs.size + 1, [s1.heap.objs.size + 1, s1.heap.objs.size], _, _, H1, rfl, I2, turn_enumT a (s1.heap.objs.size + 1) s1.heap.objs.size, ⟨⟨.none, he'⟩, ti, Nat.succ_ne_self _⟩, fun b hb => ?_, q⟩
    have above : s1.heap.objs.size ≤ b := by
      rcases (show b = s1.heap.objs.size + 1 ∨ b = s1.heap.objs.size by simpa using hb) with z | z
      · rw [z]; exact Nat.le_add_right _ _
      · rw [z]; exact Nat.le_refl _
    exact I1.fpOk above (I1.hok.fresh above)
def numbered : Nat → List D → List D
  | _, [] => []
  | n, d :: ds => .tup [.int n, d] :: numbered (n + 1) ds
theorem numbered_len : ∀ (n : Nat) (ds : List D), (numbered n ds).length = ds.length
  | _, [] => rfl
  | n, d :: ds => by rw [numbered, List.length_cons, List.length_cons, numbered_len (n + 1) ds]
theorem numbered_get : ∀ (n i : Nat) (ds : List D) (z : D), (numbered n ds)[i]? = some z → ∃ d, ds[i]? = some d ∧ z = .tup [.int ((n + i : Nat) : Int), d]
  | _, _, [], _, h => by simp [numbered] at h
  | n, 0, d :: ds, z, h => by
    simp [numbered] at h
    exact ⟨d, rfl, h.symm⟩
  | n, i + 1, d :: ds, z, h => by
    obtain ⟨d', h1, h2⟩ := numbered_get (n + 1) i ds z (by simpa [numbered] using h)
    exact ⟨d', by simpa using h1, by rw [h2]; congr 4; omega⟩
def enumD : D → M (List D)
  | .tup ds => M.pure (numbered 0 ds)
  | _ => M.stuck
theorem yld_enum (cK : G.K = X.K) {ds : List D} {vs : List V} {a : Addr} (h : RdF w a (.tup vs) ∨ KTup G.K a vs) (r : RepVs G w ds vs) : Yld G w (numbered 0 ds) (ItE X.K a) := by
  have sq : ∀ w', Stay w w' → SqT X.K w'.H a vs := fun w' s => sqT_of cK (h.imp (fun z => z.stay s) id)
  refine ⟨fun w' i s hi => ⟨vs, sq w' s, by rw [← r.length, ← numbered_len 0]; exact hi⟩, fun w' i s hi => ?_, fun w' i d x H' S s st hd hy => ?_⟩
  · obtain ⟨v, e⟩ := r.get_len (by rw [← numbered_len 0]; exact hi)
    exact ⟨vs, v, sq w' s, e⟩
  · obtain ⟨T, y, rfl, free, rfl, hx⟩ := hy
    obtain ⟨d', h1, rfl⟩ := numbered_get 0 i ds d hd
    obtain ⟨v, ev, rv⟩ := r.get h1
    have z := hx vs (sq w' s)
    rw [ev] at z
    cases z
    refine ⟨w'.frz T (.tup [.int (i : Nat), y]), rfl, Ext.frz free, st.frz free, T, _, rfl, .inl ⟨.inr rfl, .inl upd_same⟩, _, _, rfl, by rw [Nat.zero_add]; rfl, _, _, rfl, ?_, rfl⟩
    exact RepV.stay (s.trans ((Ext.frz free).stay st.dj)) _ _ rv
theorem i_enum {e : Expr} {f : List SV → M D} {p pos tpos : Pos} {elts : List Expr} {kk : Nat} (c : Ctx G X W k) (hg : Gl X "enumerate") (hm : X.mg "enumerate" = none) (he : PV G X W e f) (hs : notStar e = true) :
    PIV G X W (.Tuple elts kk tpos) (.Call (.Name "enumerate" p) [e] [] pos) (fun sd => M.bind (f sd) enumD) := by
  refine PI.imp (pi_enumT hg hm he hs) fun σ H Q q => ?_
  obtain ⟨w0, w, sd, S, e, r, q⟩ := q
  refine ⟨w0, w, sd, S, e, r, fin_step q fun w1 S1 d v e1 s1 rv q1 => ?_⟩
  cases d with
  | tup ds =>
    obtain ⟨a, vs, ev, ha, rs⟩ := rv
    exact ⟨a, vs, ev, sqT_of c.cK ha, q1 w1 _ (Ext.refl _) s1 (yld_enum c.cK ha rs)⟩
  | _ => exact q1.elim
def charsOf : D → M (List D)
  | .str x => M.pure (x.cps.toList.map fun c => .str ⟨#[c]⟩)
  | _ => M.stuck
theorem yld_str {x : Str} : Yld G w (x.cps.toList.map fun c => D.str ⟨#[c]⟩) (Its x) := by
  have hl : (x.cps.toList.map fun c => D.str ⟨#[c]⟩).length = x.cps.size := by simp
  refine ⟨fun w' i s hi => by rw [hl] at hi; exact hi, fun w' i s hi => by rw [hl] at hi; exact hi, fun w' i d y H' S s st hd hy => ?_⟩
  obtain ⟨e, c, hc, rfl⟩ := hy
  refine ⟨w', e.symm, Ext.refl _, st, ?_⟩
  rw [List.getElem?_map, Array.getElem?_toList, hc] at hd
  cases hd
  rfl
theorem i_str {tg e : Expr} {f : List SV → M D} (he : PV G X W e f) : PIV G X W tg e (fun sd => M.bind (f sd) charsOf) := by
  refine PI.imp (pi_str he) fun σ H Q q => ?_
  obtain ⟨w0, w, sd, S, e, r, q⟩ := q
  refine ⟨w0, w, sd, S, e, r, fin_step q fun w1 S1 d v e1 s1 rv q1 => ?_⟩
  cases d with
  | str x => exact ⟨x, rv, q1 w1 _ (Ext.refl _) s1 yld_str⟩
  | _ => exact q1.elim
variable {s : Shared} {H : Hp} {scope : Scope} {env : Env} {fp : List Addr}
theorem blkV {e : Expr} {f : List SV → M D} (c : Ctx G X W k) (h : Ctx G (X.blk s H scope env fp) NoW k → PV G (X.blk s H scope env fp) NoW e f) : PV G (X.blk s H scope env fp) NoW e f := h (c.blk s H scope env fp)
theorem blkT {e : List Expr} {f : List SV → M Bool} (c : Ctx G X W k) (h : Ctx G (X.blk s H scope env fp) NoW k → PTsV G (X.blk s H scope env fp) NoW e f) : PTsV G (X.blk s H scope env fp) NoW e f := h (c.blk s H scope env fp)
theorem blkP {e : Expr} {ts : List Nat} {f : TgP} (c : Ctx G X W k) (h : Ctx G (X.blk s H scope env fp) NoW k → PGP G (X.blk s H scope env fp) ts e f) : PGP G (X.blk s H scope env fp) ts e f := h (c.blk s H scope env fp)
end
end Ev
set_option maxRecDepth 100000
set_option maxHeartbeats 2000000
namespace Ev
open PySem PySem.Spec PyProof.Rows L2
section
variable {P : Program} {w : World} {K : PySem.W.Frag} {mg mb : Str → Option Value} {G : Sg} {k : Nat} {fa a : Addr} {sem : List D → M D} {s₁ : Shared} {vs : List Value} {ns : List Int}
theorem end_core (H : Hp) (KX : K.In s₁.heap) (hns : s₁.heap.Ns mainGlobals mg) (hb : s₁.heap.Ns builtinsNs mb) (hbb : ∀ x : Str, x ≠ "__name__" → mb x = bootBuiltins x) (hlim : s₁.heap.NoLimit) (hg : s₁.gens = #[])
    (ha : s₁.heap.get? a = some { cls := .type "list", data := .seq vs.toArray }) (hr : Room k callerA) (cK : G.K = K)
    (F : ∀ base : Heap, K.In base → base.Ns mainGlobals mg → FnA P w K mg base G k fa sem) (hsem : ∃ S, sem [.scr (ns.map D.int)] [] = some (.ok (.bl true), S))
    (told : ∀ b u, H b = some u → b = a ∧ ∃ o xs, u = .frz o (.lst xs)) (unK : H a ≠ none → K.lookup a = none) (hok : HOk P w H s₁.heap) (hS : SqL K H a (ns.map V.int)) :
    codeAny (model P w) callerA (.call (.ref fa) ⟨[.ref a], []⟩) (fun r s' => r = .ok (.ret (.bool true)) ∧ OldK s₁.heap s'.heap ∧ s'.os = s₁.os ∧ AllBare s'.gens) s₁ := by
  have same : ∀ {b : Addr} {o : Obj}, s₁.heap.get? b = some o → b ≠ a → (hidT s₁.heap H).get? b = some o := fun {b o} e ne => by
    refine hidT_get e ?_
    rcases q : H b with _ | u
    · rfl
    · exact absurd (told b u q).1 ne
  have asNs : ∀ {b : Addr} {m : Str → Option Value}, s₁.heap.Ns b m → (hidT s₁.heap H).Ns b m := by
    rintro b m ⟨o, es, ep, e, d, r⟩
    refine ⟨o, es, ep, same e ?_, d, r⟩
    rintro rfl
    rw [ha] at e
    cases e
    exact Data.noConfusion d
  have inK : K.In (hidT s₁.heap H) := fun b o e => by
    have there := KX b o e
    rcases q : H b with _ | u
    · exact hidT_get there q
    · obtain ⟨rfl, _⟩ := told b u q
      rw [unK (by rw [q]; exact fun z => nomatch z)] at e
      cases e
  have md : Mod K mg (hidT s₁.heap H) := by
    obtain ⟨mc, l1, l2⟩ := hlim
    exact ⟨inK, asNs hns, ⟨mb, asNs hb, hbb⟩, ⟨mc, asNs l1, l2⟩⟩
  have e0 : Env0 P w K mg (hidT s₁.heap H) callerA [] s₁ H := ⟨rfl, md, fun b o e => of_hidT e, Nat.le_of_eq (hidT_size _ _), trivial, fun b z => absurd (show b ∈ ([] : List Addr) from z) (by simp), hok, .of_eq hg⟩
  obtain ⟨S, hsem⟩ := hsem
  have numsR : ∀ (wd : Wd) (l : List Int), RepVs G wd (l.map D.int) (l.map V.int) := fun wd l => by
    induction l with
    | nil => rfl
    | cons z l ih => exact ⟨_, _, rfl, rfl, ih⟩
  have start : spV G sem [.ref a] H (fun v _ => v = .bl true) fun _ _ _ => False := by
    refine ⟨⟨[], fun b => H b ≠ none, H, none⟩, [.scr (ns.map D.int)], [], rfl, ⟨rfl, List.nodup_nil, fun _ _ => by simp, fun _ z => z, fun n b o z => by simp at z⟩, ⟨.ref a, [], rfl, ⟨a, _, rfl, ?_, numsR _ ns⟩, rfl⟩, ?_⟩
    · rcases hS with z | z
      · refine .inl ⟨?_, z⟩
        show H a ≠ none
        rcases z with z | ⟨o, z⟩
        · rw [z]; exact fun q => nomatch q
        · rw [z]; exact fun q => nomatch q
      · rw [← cK] at z
        exact .inr z
    · rw [hsem]
      exact fun w' v _ _ rv => rv
  have vals : Vals [V.ref a] [Value.ref a] := .cons rfl .nil
  refine codeAny_mono ((F _ inK (asNs hns)).run callerA [] s₁ H [.ref a] [.ref a] _ _ ⟨hr, fun _ => rfl⟩ e0 vals start) ?_
  rintro (er | fl) s' got
  · obtain ⟨_, _, _, _, _, _, _, _, _, _, _, _, z⟩ := got
    exact z.elim
  · cases fl with
    | next => exact got.elim
    | brk => exact got.elim
    | cont => exact got.elim
    | ret u =>
      obtain ⟨v, H', os, bare, un, hok', rv, rfl⟩ := got
      obtain rfl : u = Value.bool true := rv
      refine ⟨rfl, OldK.of_keep fun b o e => ?_, os, bare⟩
      rcases q : H b with _ | u
      · exact un.keep b o e q (fun z => absurd (show b ∈ ([] : List Addr) from z) (by simp)) (by simp)
      · obtain ⟨rfl, ob, xs, rfl⟩ := told b u q
        have kept := un.frzs b ob _ q
        obtain ⟨e1, _⟩ := hok b _ q
        obtain ⟨e2, _⟩ := hok' b _ kept
        rw [e] at e1
        cases e1
        exact e2
theorem end_call (KX : K.In s₁.heap) (hns : s₁.heap.Ns mainGlobals mg) (hb : s₁.heap.Ns builtinsNs mb) (hbb : ∀ x : Str, x ≠ "__name__" → mb x = bootBuiltins x) (hlim : s₁.heap.NoLimit) (hg : s₁.gens = #[])
    (ha : s₁.heap.get? a = some { cls := .type "list", data := .seq vs.toArray }) (hi : IntsAre vs ns) (hl : ns.length ≤ sizeLine) (hr : Room k callerA) (cK : G.K = K)
    (F : ∀ base : Heap, K.In base → base.Ns mainGlobals mg → FnA P w K mg base G k fa sem) (hsem : ∃ S, sem [.scr (ns.map D.int)] [] = some (.ok (.bl true), S)) :
    codeAny (model P w) callerA (.call (.ref fa) ⟨[.ref a], []⟩) (fun r s' => r = .ok (.ret (.bool true)) ∧ OldK s₁.heap s'.heap ∧ s'.os = s₁.os ∧ AllBare s'.gens) s₁ := by
  have rv := vals_ints hi
  have size : vs.length ≤ sizeLine := by rw [hi.length]; exact hl
  rcases hk : K.lookup a with _ | o
  · refine end_core (fun b => if b = a then some (.frz { cls := .type "list", data := .seq vs.toArray } (.lst (ns.map V.int))) else none) KX hns hb hbb hlim hg ha hr cK F hsem (fun b u z => ?_) (fun _ => hk) (fun b u z => ?_) (.inl (.inr ⟨_, if_pos rfl⟩))
    · by_cases e : b = a
      · exact ⟨e, _, _, (Option.some.inj ((if_pos e).symm.trans z)).symm⟩
      · cases (if_neg e).symm.trans z
    · by_cases e : b = a
      · cases (if_pos e).symm.trans z
        subst e
        exact ⟨ha, by rw [List.length_map]; exact hl, vs, _, rv, ha⟩
      · cases (if_neg e).symm.trans z
  · have there := KX a o hk
    rw [ha] at there
    cases there
    exact end_core (fun _ => none) KX hns hb hbb hlim hg ha hr cK F hsem (fun b u z => nomatch z) (fun z => absurd rfl z) (fun b u z => nomatch z) (.inr ⟨_, vs.toArray, _, hk, rfl, rfl, rfl, by rw [List.size_toArray]; exact size, by simpa using rv⟩)
end
theorem end_walk {l : PySem.W.OpenLaw} {n k : Nat} {q : Program} {loose : List Str} {XP : (Str → Option Value) → Heap → Prop} {YP : World → Heap → Prop} {d : DefRec} {K : Params → PySem.W.Frag} {sem : List D → M D}
    (hn : l.most = some n) (hn2 : n ≤ sizeLine) (hdf : d.params.defaults = []) (hr : Room k callerA) (hY : ∀ (w : World) (h : Heap), YP w h → (K w.params).In h)
    (F : ∀ (w : World) (mg : Str → Option Value) (fa : Addr) (h : Heap), (K w.params).In h → h.Ns mainGlobals mg → mg d.name = some (.ref fa) → ∃ G : Sg, G.K = K w.params ∧ ∀ base : Heap, (K w.params).In base → base.Ns mainGlobals mg → FnA l.prog w (K w.params) mg base G k fa sem)
    (hsem : ∀ ns : List Int, ns.length ≤ n → (∀ z ∈ ns, Builtin.Int.intBits z ≤ 1048576) → ∃ S, sem [.scr (ns.map D.int)] [] = some (.ok (.bl true), S)) :
    PySem.W.WalkO q loose XP YP l.row.toRowW d [] (fun f vs => PySem.call f vs) := by
  refine Att.attach_callB hn hdf fun w s₀ s₁ mg mb fa o pm cd doc a vs ns Gr Y ho hd hcd hmg hobj hints hlen hbits hg => ?_
  have KX := hY w _ Y
  obtain ⟨G, cK, hF⟩ := F w mg fa _ KX Gr.T.g hmg
  exact end_call KX Gr.T.g Gr.T.b Gr.T.builtins Gr.T.nolimit hg hobj hints (Nat.le_trans hlen hn2) hr cK hF (hsem ns hlen hbits)
theorem kit_cc {K : PySem.W.Frag} {t : Value} {C : Addr} {b : Bool} (h1 : PySem.W.isClsIn K C = true) (h2 : PySem.W.typeIn K (.ref C) = some (.type "type")) (h3 : PySem.W.subIn K t (.ref C) = some b) (h4 : PySem.W.subIn K (.ref C) (.ref C) = some true) : PySem.W.kitOne K t (.ref C) = some b := by
  unfold PySem.W.kitOne
  by_cases e : (t == Value.ref C) = true
  · rw [if_pos e]
    have e2 : t = Value.ref C := eq_of_beq e
    rw [e2, h4] at h3
    exact h3
  · rw [if_neg e]
    unfold PySem.W.kitCls
    have h1' : (PySem.W.clsIn K C).isSome = true := h1
    simp only [h1', h2, h3]
    rfl
theorem kit_ct {K : PySem.W.Frag} {C : Addr} {T : String} {b : Bool} (h1 : PySem.W.kitMeta T = true) (h3 : PySem.W.subIn K (.ref C) (.type T) = some b) : PySem.W.kitOne K (.ref C) (.type T) = some b := by
  unfold PySem.W.kitOne
  by_cases e : (Value.ref C == Value.type T) = true
  · cases eq_of_beq e
  rw [if_neg e]
  unfold PySem.W.kitCls
  simp only [h1, h3]
  rfl
end Ev
set_option maxRecDepth 100000
set_option maxHeartbeats 2000000
namespace Ev
open PySem L2
def Run {α : Type} (f : M α) (S : List Ob) (P : α → List Ob → Prop) : Prop := match f S with
  | some (.ok a, S') => P a S'
  | _ => False
def RunS (f : MS) (sd : List SV) (S : List Ob) (N : List SV → List Ob → Prop) (R : D → List Ob → Prop) (B C : List SV → List Ob → Prop) : Prop := match f sd S with
  | some (.next sd', S') => N sd' S'
  | some (.ret d, S') => R d S'
  | some (.brk sd', S') => B sd' S'
  | some (.cont sd', S') => C sd' S'
  | _ => False
section
variable {α β : Type} {f : M α} {S : List Ob} {P P' : α → List Ob → Prop}
theorem run_pure {a : α} : Run (M.pure a) S P ↔ P a S := Iff.rfl
theorem run_stuck : Run (M.stuck : M α) S P ↔ False := Iff.rfl
theorem run_bind {k : α → M β} {Q : β → List Ob → Prop} : Run (M.bind f k) S Q ↔ Run f S fun a S' => Run (k a) S' Q := by
  unfold Run M.bind
  rcases f S with _ | ⟨_ | a, S'⟩
  · exact Iff.rfl
  · exact Iff.rfl
  · exact Iff.rfl
theorem run_ite {c : Prop} [Decidable c] {g : M α} : Run (if c then f else g) S P ↔ if c then Run f S P else Run g S P := by split <;> exact Iff.rfl
theorem run_noErr : Run (noErr f) S P ↔ Run f S P := by
  unfold Run noErr
  rcases f S with _ | ⟨_ | a, S'⟩ <;> exact Iff.rfl
theorem Run.mono (h : Run f S P) (i : ∀ a S', P a S' → P' a S') : Run f S P' := by
  unfold Run at h ⊢
  rcases e : f S with _ | ⟨_ | a, S'⟩
  · rw [e] at h; exact h
  · rw [e] at h; exact h
  · rw [e] at h; exact i a S' h
theorem Run.ex (h : Run f S P) : ∃ a S', f S = some (.ok a, S') ∧ P a S' := by
  unfold Run at h
  rcases e : f S with _ | ⟨_ | a, S'⟩
  · rw [e] at h; exact h.elim
  · rw [e] at h; exact h.elim
  · rw [e] at h; exact ⟨a, S', rfl, h⟩
theorem pure_of {r : α} (h : ∀ S, Run f S fun d S' => d = r ∧ S' = S) : f = M.pure r := by
  funext S
  obtain ⟨a, S', e, rfl, rfl⟩ := (h S).ex
  rw [e]
  rfl
variable {sd : List SV} {N N' : List SV → List Ob → Prop} {R R' : D → List Ob → Prop} {B B' C C' : List SV → List Ob → Prop} {m1 m2 : MS}
theorem runS_next : RunS nextS sd S N R B C ↔ N sd S := Iff.rfl
theorem runS_stuck : RunS stuckS sd S N R B C ↔ False := Iff.rfl
theorem runS_seq : RunS (seqS m1 m2) sd S N R B C ↔ RunS m1 sd S (fun sd' S' => RunS m2 sd' S' N R B C) R B C := by
  unfold RunS seqS
  rcases m1 sd S with _ | ⟨_ | _ | _ | _ | _, S'⟩ <;> exact Iff.rfl
theorem runS_ex {g : List SV → M α} {k : α → MS} : RunS (exS g k) sd S N R B C ↔ Run (g sd) S fun d S' => RunS (k d) sd S' N R B C := by
  unfold RunS exS Run
  rcases g sd S with _ | ⟨_ | a, S'⟩ <;> exact Iff.rfl
theorem runS_ret {g : List SV → M D} : RunS (retS g) sd S N R B C ↔ Run (g sd) S R := by
  unfold retS
  rw [runS_ex]
  exact Iff.rfl
theorem runS_asg {g : List SV → M D} {i : Nat} : RunS (asgS g (setT i)) sd S N R B C ↔ Run (g sd) S fun d S' => N (sd.set i (.val d)) S' := by
  unfold asgS
  rw [runS_ex]
  exact Iff.rfl
theorem runS_par {g : List SV → M (List D)} {i j : Nat} : RunS (parS i j g) sd S N R B C ↔ Run (g sd) S fun ds S' => match ds with | [a, b] => N ((sd.set i (.val a)).set j (.val b)) S' | _ => False := by
  unfold parS
  rw [runS_ex]
  unfold Run
  rcases g sd S with _ | ⟨_ | ds, S'⟩
  · exact Iff.rfl
  · exact Iff.rfl
  · rcases ds with _ | ⟨a, _ | ⟨b, _ | ⟨c, ds⟩⟩⟩ <;> exact Iff.rfl
theorem runS_if {g : List SV → M Bool} : RunS (exS g fun k => if k = true then m1 else m2) sd S N R B C ↔ Run (g sd) S fun k S' => if k = true then RunS m1 sd S' N R B C else RunS m2 sd S' N R B C := by
  rw [runS_ex]
  have e : (fun (d : Bool) S' => RunS (if d = true then m1 else m2) sd S' N R B C) = fun k S' => if k = true then RunS m1 sd S' N R B C else RunS m2 sd S' N R B C := by
    funext d S'
    cases d <;> rfl
  rw [e]
theorem runS_own {g : List SV → M (List D)} {i : Nat} : RunS (ownS i g) sd S N R B C ↔ Run (g sd) S fun ds S' => N (sd.set i (.own (.lst ds))) S' := by
  unfold ownS
  rw [runS_ex]
  exact Iff.rfl
theorem runS_tgt {g : List SV → M D} {t : Tgt} : RunS (asgS g t) sd S N R B C ↔ Run (g sd) S fun d S' => match t d sd S' with | some (sd2, S2) => N sd2 S2 | none => False := by
  unfold asgS
  rw [runS_ex]
  unfold Run
  rcases g sd S with _ | ⟨_ | d, S'⟩
  · exact Iff.rfl
  · exact Iff.rfl
  · unfold RunS
    simp only
    rcases t d sd S' with _ | ⟨sd2, S2⟩
    · exact Iff.rfl
    · exact Iff.rfl
theorem RunS.mono (h : RunS m1 sd S N R B C) (hN : ∀ sd S, N sd S → N' sd S) (hR : ∀ d S, R d S → R' d S) (hB : ∀ sd S, B sd S → B' sd S) (hC : ∀ sd S, C sd S → C' sd S) : RunS m1 sd S N' R' B' C' := by
  unfold RunS at h ⊢
  rcases e : m1 sd S with _ | ⟨_ | _ | _ | _ | _, S'⟩
  · rw [e] at h; exact h
  · rw [e] at h; exact hN _ _ h
  · rw [e] at h; exact hR _ _ h
  · rw [e] at h; exact hB _ _ h
  · rw [e] at h; exact hC _ _ h
  · rw [e] at h; exact h
theorem loop_rule {t : Tgt} {body : MS} (J : List D → List SV → List Ob → Prop) (step : ∀ d ds sd S, J (d :: ds) sd S → ∃ sd1 S1, t d sd S = some (sd1, S1) ∧ RunS body sd1 S1 (fun sd2 S2 => J ds sd2 S2) R (fun sd2 S2 => N sd2 S2) (fun sd2 S2 => J ds sd2 S2))
    (fin : ∀ sd S, J [] sd S → N sd S) : ∀ ds sd S, J ds sd S → RunS (loopS t body ds) sd S N R B C
  | [], sd, S, h => fin sd S h
  | d :: ds, sd, S, h => by
    obtain ⟨sd1, S1, e, hb⟩ := step d ds sd S h
    have ih := loop_rule J step fin ds
    unfold RunS at hb ⊢
    unfold loopS
    rw [e]
    simp only
    rcases hm : body sd1 S1 with _ | ⟨_ | _ | _ | _ | _, S'⟩
    · rw [hm] at hb; exact hb
    · rw [hm] at hb; exact ih _ _ hb
    · rw [hm] at hb; exact hb
    · rw [hm] at hb; exact hb
    · rw [hm] at hb; exact ih _ _ hb
    · rw [hm] at hb; exact hb
theorem runS_for {g : List SV → M (List D)} {t : Tgt} {body : MS} : RunS (forS g t body) sd S N R B C ↔ Run (g sd) S fun ds S' => RunS (loopS t body ds) sd S' N R B C := by
  unfold forS
  rw [runS_ex]
theorem iter_rule {c : List SV → M Bool} {body : MS} (J : Nat → List SV → List Ob → Prop) (step : ∀ n sd S, J n sd S → Run (c sd) S fun b S1 => if b = true then RunS body sd S1 (fun sd2 S2 => ∃ n', n' < n ∧ J n' sd2 S2) R N (fun sd2 S2 => ∃ n', n' < n ∧ J n' sd2 S2) else N sd S1) :
    ∀ fuel n sd S, n < fuel → J n sd S → RunS (iterS c body fuel) sd S N R B C
  | 0, n, sd, S, l, _ => absurd l (Nat.not_lt_zero n)
  | fuel + 1, n, sd, S, l, h => by
    unfold iterS
    rw [runS_ex]
    refine (step n sd S h).mono fun b S1 hb => ?_
    cases b with
    | false => exact hb
    | true =>
      simp only [if_true] at hb ⊢
      unfold RunS at hb ⊢
      dsimp only at hb ⊢
      rcases hm : body sd S1 with _ | ⟨_ | _ | _ | _ | _, S'⟩
      · simp only [hm] at hb ⊢
      · simp only [hm] at hb ⊢
        obtain ⟨n', l', h'⟩ := hb
        exact iter_rule J step fuel n' _ _ (by omega) h'
      · simp only [hm] at hb ⊢; exact hb
      · simp only [hm] at hb ⊢; exact hb
      · simp only [hm] at hb ⊢
        obtain ⟨n', l', h'⟩ := hb
        exact iter_rule J step fuel n' _ _ (by omega) h'
      · simp only [hm] at hb ⊢
theorem run_fn {m n : Nat} {ms : MS} {ds : List D} {Q : D → List Ob → Prop} : Run (runFn m n ms ds) S Q ↔ ds.length = m ∧ RunS ms (slots n (ds.map .val)) S (fun _ S' => Q .non S') Q (fun _ _ => False) (fun _ _ => False) := by
  unfold Run runFn RunS
  by_cases h : ds.length = m
  · simp only [h, if_true, true_and]
    rcases ms (slots n (ds.map .val)) S with _ | ⟨_ | _ | _ | _ | _, S'⟩ <;> exact Iff.rfl
  · simp only [h, if_false, false_and]
end
theorem getv_val {i : Nat} {sd : List SV} {d : D} (h : sd[i]? = some (.val d)) : getv i sd = M.pure d := by
  unfold getv
  rw [h]
theorem toB_bl (b : Bool) : toB (.bl b) = M.pure b := rfl
theorem add_int (i j : Int) : dAdd (.int i) (.int j) = M.pure (.int (i + j)) := rfl
theorem sub_int (i j : Int) : dSub (.int i) (.int j) = M.pure (.int (i - j)) := rfl
theorem mul_int {i j : Int} (h : mulOk i j = true) : dMul (.int i) (.int j) = M.pure (.int (i * j)) := by
  show (if mulOk i j = true then M.pure (D.int (i * j)) else M.stuck) = _
  rw [if_pos h]
theorem mod_int {i j : Int} (h : 0 < j) : dMod (.int i) (.int j) = M.pure (.int (i % j)) := by
  show (if 0 < j then M.pure (D.int (i % j)) else M.stuck) = _
  rw [if_pos h]
theorem fdiv_int {i j : Int} (h : divOk j = true) : dFdiv (.int i) (.int j) = M.pure (.int (i / j)) := by
  show (if divOk j = true then M.pure (D.int (i / j)) else M.stuck) = _
  rw [if_pos h]
theorem cmp_int (p : Int → Int → Bool) (i j : Int) : dCmpI p (.int i) (.int j) = M.pure (.bl (p i j)) := rfl
theorem int_int (i : Int) : dInt (.int i) = M.pure (.int i) := rfl
theorem ix_tup {ds : List D} {i : Int} {d : D} (h : atI ds i = some d) : dIx (.tup ds) (.int i) = M.pure d := by
  funext S
  show (match atI ds i with | some x => (some (Except.ok x, S) : Option (Except Exn D × List Ob)) | none => none) = _
  rw [h]
  rfl
theorem ix_lst {ds : List D} {i : Int} {d : D} (h : atI ds i = some d) : dIx (.lst ds) (.int i) = M.pure d := by
  funext S
  show (match atI ds i with | some x => (some (Except.ok x, S) : Option (Except Exn D × List Ob)) | none => none) = _
  rw [h]
  rfl
end Ev
set_option maxRecDepth 100000
set_option maxHeartbeats 2000000
namespace PySem.W
open PySem PyProof.Rows
section
variable {prog : Program} {w : World} {A : Around} {E : Value → Shared → Prop} {s : Shared} {K : Frag} {x y C : Addr} {h₀ : Heap} {ox oy : Obj} {od : Option Obj} {f : Addr}
theorem evx_ifB {M : Model} {name : Str} {id : String} {args : List Value} {Q : Option Value → Shared → Prop} (X : K.In s.heap) (I : InstAt s.heap x ox C od) (hs : findIn K (.ref C) name = some (some (.builtin id)))
    (hb : ∀ self, bindSpecial (.builtin id) self = pure (.builtin id, [self])) (h : wpAny M A (call (.builtin id) (.ref x :: args)) (fun v => Q (some v)) E s) : wpAny M A (callSpecialIfBound? (.ref x) name args) Q E s := by
  simp only [callSpecialIfBound?, bindSpecialIfBound?]
  refine wpAny_holding (wpAny_bind (wpAny_bind (wpAny_bind (I.type.here ((looks_findIn X hs).here ?_)))))
  refine wpAny_bind (wpAny_askSetting (wpAny_ite ?_))
  have fin : wpAny M A (call (.builtin id) ([.ref x] ++ args) >>= fun v => pure (some v)) Q E s := wpAny_bind (wpAny_mono h (fun v s' h' => wpAny_pure h') fun _ _ h' => h')
  split
  · exact wpAny_bind ((Looks.of_pure (hb _)).here (wpAny_pure (by exact fin)))
  · exact wpAny_tryCatch (wpAny_bind ((Looks.of_pure (hb _)).here (wpAny_pure (by exact fin))))
theorem evx_eq {Q : Value → Shared → Prop} (hu : A.units < cLine) (X : K.In s.heap) (I : InstAt s.heap x ox C od) (hy : s.heap.get? y = some oy) (hyc : oy.cls = .ref C)
    (hs : findIn K (.ref C) "__eq__" = some (some (.ref f))) (hf : isFn K (.ref f) = true)
    (h : wpAny (model prog w) A (call (.ref f) [.ref x, .ref y]) (fun v s' => ∃ b, v = .bool b ∧ Q (.bool b) s') E s) : wpAny (model prog w) A (compareOp .Eq (.ref x) (.ref y)) Q E s := by
  refine cmp_ofEq ?_
  unfold richCompare
  simp only [oneThing_ref]
  refine wpAny_holding (wpAny_bind (wpAny_cRoomFor hu ?_))
  refine wpAny_bind (I.type.here (wpAny_bind (wpAny_typeOf_ref hy ?_)))
  rw [hyc]
  rw [show (Value.ref C != Value.ref C) = false from by simp]
  simp only [Bool.false_eq_true, if_false]
  refine wpAny_bind (wpAny_pure ?_)
  simp only [Bool.false_eq_true, if_false]
  unfold tryCompare
  refine wpAny_bind (wpAny_bind (ifBound_K X I hs hf (wpAny_mono h (fun v s' hv => ?_) fun _ _ e => e)))
  obtain ⟨b, rfl, hq⟩ := hv
  exact wpAny_pure (wpAny_pure hq)
open Builtin in
theorem evx_ne {Q : Value → Shared → Prop} (hu : A.units < cLine) (hu1 : A.in1.units < cLine) (X : K.In s.heap) (I : InstAt s.heap x ox C od) (hy : s.heap.get? y = some oy) (hyc : oy.cls = .ref C)
    (hs : findIn K (.ref C) "__eq__" = some (some (.ref f))) (hf : isFn K (.ref f) = true) (hn : findIn K (.ref C) "__ne__" = some (some (.builtin "object.__ne__"))) (hm : mroIn K C (.type "object") = some true)
    (h : wpAny (model prog w) A.in1 (call (.ref f) [.ref x, .ref y]) (fun v s' => ∃ b, v = .bool b ∧ Q (.bool (!b)) s') E s) : wpAny (model prog w) A (compareOp .NotEq (.ref x) (.ref y)) Q E s := by
  refine cmp_ofNotEq ?_
  unfold richCompare
  simp only [oneThing_ref]
  refine wpAny_holding (wpAny_bind (wpAny_cRoomFor hu ?_))
  rw [cmpInfo_NotEq]
  dsimp only
  refine wpAny_bind (I.type.here (wpAny_bind (wpAny_typeOf_ref hy ?_)))
  rw [hyc]
  rw [show (Value.ref C != Value.ref C) = false from by simp]
  simp only [Bool.false_eq_true, if_false]
  refine wpAny_bind (wpAny_pure ?_)
  simp only [Bool.false_eq_true, if_false]
  unfold tryCompare
  have body : wpAny (model prog w) A.in1 (Builtin.«object.__ne__» ⟨[.ref x, .ref y], []⟩) (fun r s' => ∃ b, r = .done (.ret (.bool (!b))) ∧ Q (.bool (!b)) s') E s := by
    unfold Builtin.«object.__ne__»
    repeat (first
      | with_reducible refine wpAny_cRoomFor hu1 ?_
      | (refine wpAny_bind (m := callSpecialIfBound? (.ref x) (Str.ofString "__eq__") [.ref y])
          (ifBound_K X I hs hf (wpAny_mono h (fun r s' hr => by
            obtain ⟨b, rfl, hq⟩ := hr
            have hq : ∃ b', Fin.done (Flow.ret (.bool (!b))) = .done (.ret (.bool (!b'))) ∧ Q (.bool (!b')) s' := ⟨b, rfl, hq⟩
            repeat (first | exact hq | exact wpAny_pure hq | exact wpAny_truthy_bool hq | (refine wpAny_bind (m := truthy (.bool _)) (wpAny_truthy_bool ?_)) | wp_step)) fun _ _ e => e)))
      | wp_step)
  refine wpAny_bind (wpAny_bind (evx_ifB X I hn F.slot_object_ne.bind (wpAny_call (codeAny_call_builtin F.slot_object_ne.plain F.entry_object_ne (check_slot (i := "object.__ne__") (owner := "object") (n := "__ne__") (by decide +kernel) (by decide +kernel) (I.type.andThen (looks_mroIn X hm)) (F.cmpArgs_ne _ _) ?_)))))
  refine wpAny_mono body (fun r s' hr => ?_) fun _ _ e => e
  obtain ⟨b, rfl, hq⟩ := hr
  exact wpAny_pure (wpAny_pure hq)
end
end PySem.W
namespace Ev
open PySem PySem.Spec PyProof.Rows L2
section
variable {G : Sg} {X : Cx} {W : WX} {k n m j : Nat} {f C : Addr} {sem : List D → M D} {x y mm : Str} {p pos apos kpos : Pos} {e o fe : Expr} {es : List Expr} {kws : List Keyword} {ks : List Str} {fa fk : List SV → M (List D)} {ff g : List SV → M D} {σ : L2.St}
theorem run_in1 {pins : List (Addr × Obj)} {H : Hp} {s : Shared} {Q : VK} {E' : Value → Shared → Prop} {us : List Value} {vs : List V} (hr : Rm G.gd (k + 1) X.A) (F : FnX X G k f sem) (I : Inv X pins σ H s) (r : Vals vs us)
    (h : spV G sem vs H Q (fun _ _ _ => False)) : wpAny (model X.prog X.w) X.A.in1 (call (.ref f) us) (EP X pins σ Q) E' s := by
  have body := F.run X.A.in1 X.stack s H us vs Q (fun _ _ _ => False) hr.in1 I.env0.in1 r h
  refine wpAny_call (codeAny_mono body ?_)
  intro res s' hq
  rcases res with er | fl
  · obtain ⟨_, _, _, _, _, _, _, _, _, _, _, _, z⟩ := hq
    exact z.elim
  · cases fl with
    | ret u => exact I.after hq
    | next => exact hq.elim
    | brk => exact hq.elim
    | cont => exact hq.elim
structure EqT (X : Cx) (G : Sg) (k : Nat) (tbl : Nat → Option (List D → M D)) : Prop where
  at_ : ∀ c g, tbl c = some g → ∃ f, PySem.W.findIn X.K (.ref (G.ca c)) "__eq__" = some (some (.ref f)) ∧ PySem.W.isFn X.K (.ref f) = true ∧ PySem.W.findIn X.K (.ref (G.ca c)) "__ne__" = some (some (.builtin "object.__ne__")) ∧
    PySem.W.mroIn X.K (G.ca c) (.type "object") = some true ∧ FnX X G k f g
def ownEq (neg : Bool) (tbl : Nat → Option (List D → M D)) (d e : D) : M D := M.bind (pick tbl d) fun g => M.bind (clsOf d) fun c => M.bind (clsOf e) fun c' => if c = c' then M.bind (noErr (g [d, e])) fun r => M.bind (toB r) fun b => M.pure (.bl (neg != b)) else M.stuck
theorem EP.mono {pins : List (Addr × Obj)} {Q Q' : VK} {v : Value} {s : Shared} (h : EP X pins σ Q v s) (i : ∀ z H, Q z H → Q' z H) : EP X pins σ Q' v s := by
  obtain ⟨z, H, I, r, q⟩ := h
  exact ⟨z, H, I, r, i z H q⟩
theorem eq_both {op : CmpOp} {neg : Bool} {tbl : Nat → Option (List D → M D)} {pins : List (Addr × Obj)} {s : Shared} {Q : VK} (c : Ctx G X W k) (T : EqT X G k tbl) (hop : (op = .Eq ∧ neg = false) ∨ (op = .NotEq ∧ neg = true)) {u v : Value} {d d2 : D} {v1 v2 : V} {w2 : Wd} {S2 : List Ob} {Wx : Value → Option Addr → Hp → Prop}
    (I2 : Inv X pins σ w2.H s) (rv : RelV v1 v) (ru : RelV v2 u) (s2' : RepS G w2 S2) (rd : RepV G w2 d v1) (rd2 : RepV G w2 d2 v2) (q2 : FinG G (RepV G) Wx w2 Q (ownEq neg tbl d d2 S2)) :
    wpAny (model X.prog X.w) X.A (compareOp op v u) (EP X pins σ Q) X.xe s := by
  unfold ownEq at q2
  obtain ⟨cc, g, tg, q3, hc1, a1, dx1, fs1, rfl, hb1⟩ := pick_fin s2' rd q2
  obtain ⟨c1, q4, hc2, a2, dx2, fs2, e2, hb2⟩ := clsOf_fin s2' rd q3
  cases e2
  obtain ⟨c2, q5, hc3, a3, dx3, fs3, rfl, hb3⟩ := clsOf_fin s2' rd2 q4
  obtain ⟨ec, q6⟩ := FinG.ite q5
  subst ec
  have e12 : c1 = cc := by
    rw [hc1] at hc2
    cases hc2
    rfl
  subst e12
  obtain ⟨f, fi, isf, fn, hm, F⟩ := T.at_ c1 g tg
  cases (show v = Value.ref a1 from rv)
  cases (show u = Value.ref a3 from ru)
  obtain ⟨m1, O1, _⟩ := ins_get I2.hok hb1
  obtain ⟨od1, J1, _⟩ := O1.look
  obtain ⟨m3, O3, _⟩ := ins_get I2.hok hb3
  obtain ⟨od3, J3, _⟩ := O3.look
  have want : spV G g [.ref a1, .ref a3] w2.H (fun z H' => ∃ b, z = .bl b ∧ Q (.bl (neg != b)) H') (fun _ _ _ => False) := by
    refine ⟨w2, [d, d2], S2, rfl, s2', ⟨_, _, rfl, rd, _, _, rfl, rd2, rfl⟩, ?_⟩
    unfold M.bind noErr at q6
    rcases hg : g [d, d2] S2 with _ | ⟨_ | r, S3⟩
    · rw [hg] at q6; exact q6.elim
    · rw [hg] at q6; exact q6.elim
    · rw [hg] at q6
      intro w' z e s3 rz
      cases r with
      | bl b =>
        cases (show z = .bl b from rz)
        exact ⟨b, rfl, q6 w' _ e s3 rfl⟩
      | _ => exact q6.elim
  have hu := c.rm.room.units0
  rcases hop with ⟨rfl, rfl⟩ | ⟨rfl, rfl⟩
  · refine PySem.W.evx_eq hu I2.kIn J1 J3.at_ J3.cls fi isf ?_
    have lift : Rm G.gd k X.A := c.rm0
    have body := F.run X.A X.stack s w2.H [.ref a1, .ref a3] [.ref a1, .ref a3] _ (fun _ _ _ => False) lift I2.env0 (.cons rfl (.cons rfl .nil)) want
    refine wpAny_call (codeAny_mono body ?_)
    intro res s' hq
    rcases res with er | fl
    · obtain ⟨_, _, _, _, _, _, _, _, _, _, _, _, z⟩ := hq
      exact z.elim
    · cases fl with
      | ret u =>
        obtain ⟨z, H', I3, rz, b, rfl, hQ⟩ := I2.after hq
        cases (show u = Value.bool b from rz)
        refine ⟨b, rfl, .bl b, H', I3, rfl, ?_⟩
        simpa using hQ
      | next => exact hq.elim
      | brk => exact hq.elim
      | cont => exact hq.elim
  · have hu1 : X.A.in1.units < cLine := (c.rm.in1).room.units0
    refine PySem.W.evx_ne hu hu1 I2.kIn J1 J3.at_ J3.cls fi isf fn hm (wpAny_mono (run_in1 (us := [.ref a1, .ref a3]) (vs := [.ref a1, .ref a3]) c.rm F I2 (.cons rfl (.cons rfl .nil)) want) (fun u s' z => ?_) fun _ _ z => z)
    obtain ⟨z', H', I3, rz, b, rfl, hQ⟩ := z
    cases (show u = Value.bool b from rz)
    refine ⟨b, rfl, .bl (!b), H', I3, rfl, ?_⟩
    simpa using hQ
theorem o_ownEq {op : CmpOp} {neg : Bool} {tbl : Nat → Option (List D → M D)} (c : Ctx G X W k) (T : EqT X G k tbl) (hop : (op = .Eq ∧ neg = false) ∨ (op = .NotEq ∧ neg = true)) : OpR X (compareOp op) (rD2 G (ownEq neg tbl)) := by
  intro pins s σ H v1 v2 v u Q I rv ru ⟨Wx, w2, S2, d, d2, eH, s2, rd, rd2, q⟩
  subst eH
  exact eq_both c T hop I rv ru s2 rd rd2 q
def eqX (neg : Bool) (tbl : Nat → Option (List D → M D)) (d e : D) : M D := if isObj d = true then ownEq neg tbl d e else dEq neg d e
theorem o_eqX {tbl : Nat → Option (List D → M D)} (c : Ctx G X W k) (T : EqT X G k tbl) : OpR X (compareOp .Eq) (rD2 G (eqX false tbl)) := by
  refine OpR.imp ((o_ownEq c T (.inl ⟨rfl, rfl⟩)).or (o_eq c.cK c.rm)) fun v u H Q q => ?_
  obtain ⟨Wx, w2, S2, d, d2, eH, s2, rd, rd2, q⟩ := q
  unfold eqX at q
  by_cases h : isObj d = true
  · rw [if_pos h] at q
    exact .inl ⟨Wx, w2, S2, d, d2, eH, s2, rd, rd2, q⟩
  · rw [if_neg h] at q
    exact .inr ⟨Wx, w2, S2, d, d2, eH, s2, rd, rd2, q⟩
theorem o_neX {tbl : Nat → Option (List D → M D)} (c : Ctx G X W k) (T : EqT X G k tbl) : OpR X (compareOp .NotEq) (rD2 G (eqX true tbl)) := by
  refine OpR.imp ((o_ownEq c T (.inr ⟨rfl, rfl⟩)).or (o_ne c.cK c.rm)) fun v u H Q q => ?_
  obtain ⟨Wx, w2, S2, d, d2, eH, s2, rd, rd2, q⟩ := q
  unfold eqX at q
  by_cases h : isObj d = true
  · rw [if_pos h] at q
    exact .inl ⟨Wx, w2, S2, d, d2, eH, s2, rd, rd2, q⟩
  · rw [if_neg h] at q
    exact .inr ⟨Wx, w2, S2, d, d2, eH, s2, rd, rd2, q⟩
end
end Ev
set_option maxRecDepth 100000
set_option maxHeartbeats 2000000
namespace Ev
open PySem PySem.Spec PyProof.Rows L2
structure ClK (P : Program) (w : World) (K : PySem.W.Frag) (mg : Str → Option Value) (base : Heap) (G : Sg) (k c m : Nat) (ks : List Str) (sem : List D → M D) : Prop where
  ex : ∃ f, Mk K (G.ca c) f ∧ ∀ (A : Around) (fr : List Env) (s : Shared) (H : Hp) (us ws : List Value) (vs zs : List V) (Q : VK) (E : XK), Rm G.gd k A → Env0 P w K mg base A fr s H → Vals vs us → Vals zs ws → vs.length = m + 1 → zs.length = ks.length →
    spN G c sem (vs ++ zs) H Q E → codeAny (model P w) A (.call (.ref f) ⟨us, ks.zip ws⟩) (CR (L2.CX P w) fr P w H s Q E) s
theorem ClK.mono {P : Program} {w : World} {K : PySem.W.Frag} {mg : Str → Option Value} {base : Heap} {G : Sg} {j k c m : Nat} {ks : List Str} {sem : List D → M D} (F : ClK P w K mg base G j c m ks sem) (h : j ≤ k) : ClK P w K mg base G k c m ks sem :=
  ⟨let ⟨f, M, g⟩ := F.ex; ⟨f, M, fun A fr s H us ws vs zs Q E hr => g A fr s H us ws vs zs Q E (hr.mono h)⟩⟩
section
variable {P : Program} {w : World} {K : PySem.W.Frag} {mg : Str → Option Value} {base : Heap} {G : Sg} {k c m : Nat} {f : Addr} {x qual : Str} {st : Stmt} {fd : FuncData} {N ps ks : List Str} {ms : MS} {ix : List Nat}
theorem perm_self {α : Type} (a : α) (l : List α) (ix : List Nat) : perm (0 :: ix.map (· + 1)) (a :: l) = a :: perm ix l := by
  unfold perm
  rw [List.filterMap_cons]
  simp only [List.getElem?_cons_zero, List.filterMap_map]
  congr 1
theorem clk_rule (F : Fun K x qual st f fd) (SC : FnScope N ps (defScope st)) (hb : KwBinds st x qual ps ks (m + 1) (0 :: ix.map (· + 1))) (cK : G.K = K) (B : Body P w K mg base G k f N qual st ms) (M : Mk K (G.ca c) f) {a n : Nat} (em : ps.length = a) (en : N.length = n) (hmn : a ≤ n) :
    ClK P w K mg base G (k + 2) c m ks (fun ds => mkFn c a n ms (perm ix ds)) := by
  refine ⟨f, M, fun A fr s H us ws vs zs Q E hr e0 r r2 l1 l2 h => fnk_run F SC hb cK B hr e0 r r2 l1 l2 ?_⟩
  obtain ⟨b, dx, vs', H, Q, e, rfl, ha, hdx, ne, rfl, wd, ds, S, eH, rs, rv, q⟩ := h
  subst em en eH
  rw [e, perm_self]
  obtain ⟨w1, e1, ex, s1, nF, nm⟩ := made (C := G.ca c) rs ha hdx ne
  have rp := reps_perm rv ix
  have q : FinG G (RepV G) E wd Q (mkFn c ps.length N.length ms (perm ix ds) S) := q
  unfold mkFn at q
  split at q
  · next el =>
    refine ⟨by rw [List.length_cons, ← rp.length]; exact el, ?_⟩
    rw [← e1]
    exact fin_mk ex s1 (RepVs.mono ex rs.dj _ _ rp) (by omega) (by rw [e1, upd_same]) nF nm ha q
  · exact q.elim
end
section
variable {G : Sg} {X : Cx} {W : WX} {k n m j c : Nat} {f C : Addr} {sem : List D → M D} {x y mm : Str} {p pos apos kpos : Pos} {e o fe : Expr} {es : List Expr} {kws : List Keyword} {ks : List Str} {fa fk : List SV → M (List D)} {ff g : List SV → M D} {σ : L2.St}
theorem ClK.call (cx : Ctx G X W k) (F : ClK X.prog X.w X.K X.mg X.base G k c m ks sem) : CallK G X W (G.ca c) m ks sem := by
  obtain ⟨f, M, g⟩ := F.ex
  refine ⟨M.kp, fun pins σ H s Q us ws vs zs I r r2 l1 l2 h => ?_⟩
  have J := Inv.made (C := G.ca c) I
  have body := g _ X.stack _ _ (Value.ref (s.heap.objs.size + 1) :: us) ws (V.ref (s.heap.objs.size + 1) :: vs) zs _ _ (cx.rm.make (G.ca c) us (ks.zip ws)) (J.env0.make (G.ca c) us (ks.zip ws)) (.cons rfl r) r2 (by rw [List.length_cons, l1]) l2
    ⟨_, _, vs ++ zs, H, Q, rfl, rfl, I.hok.fresh (Nat.le_succ _), I.hok.fresh (Nat.le_refl _), Nat.ne_of_lt (Nat.lt_succ_self s.heap.objs.size), rfl, h⟩
  refine wpAny_call (make_map (f := f) I.kIn M.makes M.init (beq_iff_eq.mp M.fn) (codeAny_mono body ?_))
  rintro (er | fl) s' got
  · exact cx.px σ pins _ _ er s' J got
  · cases fl with
    | ret u =>
      obtain ⟨v, H', J2, rv, rfl, q3⟩ := J.after got
      exact ⟨rv, V.ref (s.heap.objs.size + 1), H', J2, rfl, q3⟩
    | next => exact got.elim
    | brk => exact got.elim
    | cont => exact got.elim
structure MethKT (X : Cx) (G : Sg) (k : Nat) (mm : Str) (m : Nat) (ks : List Str) (tbl : Nat → Option (List D → M D)) : Prop where
  at_ : ∀ c g, tbl c = some g → ∃ f, Cls X.K (G.ca c) ∧ Meth X.K (G.ca c) mm f ∧ FnKX X G k f (m + 1) ks g ∧ mm ∉ G.fn c
theorem methk_tree {env : Env} {m : Str} {args : List Expr} (hb : plainBase o = true) (hs : args.all notStar = true) (hall : (backToKw pos (keywordEach kws env)).all (·.1.isSome) = true) (hl : args.length + kws.length + 1 < 30) (hp : (apos.endLine == pos.line) = true) :
    eval (.Call (.Attribute o m apos) args kws pos) env = (do
      let ov ← eval o env
      standAt apos.atName
      let (f, first) ← holding [ov] (getMethod ov m (do return (← importBound o env).getD true))
      callWith pos f first (backTo pos (starEach args env)) (backToKw pos (keywordEach kws env))) := by
  have e1 : eval (.Call (.Attribute o m apos) args kws pos) env = (do
      let ov ← attributeBase o m env (eval o env)
      standAt apos.atName
      methodCall o m apos pos env ov (args.length + kws.length) (backTo pos (starEach args env)) (backToKw pos (keywordEach kws env))) := rfl
  have few : methodCallForm (args.length + kws.length) (backTo pos (starEach args env)) (backToKw pos (keywordEach kws env)) = true := by
    unfold methodCallForm
    rw [star_form hs, hall]
    show (true && true && decide (args.length + kws.length + (if (backToKw pos (keywordEach kws env)).isEmpty then 0 else 1) < 30)) = true
    rw [decide_eq_true (by split <;> omega)]
    rfl
  rw [e1, attr_base hb]
  unfold methodCall
  rw [few]
  have mp : methodCallPos true o env apos pos = (pure pos : Sem Pos) := by
    unfold methodCallPos
    rw [hp]
    rfl
  rw [mp]
  rfl
theorem v_methK0 {tbl : Nat → Option (List D → M D)} {fo : List SV → M D} (c : Ctx G X W k) (T : MethKT X G k mm 0 ks tbl) (ho : PV G X W o fo) (hk : PKn G X W j kws fk) (hj : j = ks.length) (hb : plainBase o = true) (hl : kws.length + 1 < 30) (hp : (apos.endLine == pos.line) = true)
    (hall : (backToKw pos (keywordEach kws X.env)).all (·.1.isSome) = true) (hks : (backToKw pos (keywordEach kws X.env)).filterMap (·.1) = ks) :
    PV G X W (.Call (.Attribute o mm apos) [] kws pos) (fun sd => M.bind (fo sd) fun d => M.bind (pick tbl d) fun g => M.bind (fk sd) fun ds => g (d :: ds)) := by
  constructor
  intro pins s σ H Q I ⟨w0, w, sd, S, eH, r, q⟩
  refine PySem.W.methodCall_KW (thn (ho.run pins s σ H (fun v H1 => ∃ w1 S1 d c g a dx vs, w1.H = H1 ∧ R G w0 w1 sd S1 σ ∧ RepV G w1 d v ∧ tbl c = some g ∧ v = .ref a ∧ w1.H a = some (.ins (G.ca c) dx ((G.fn c).zip vs)) ∧
      FinG G (RepV G) (fun c x H => W c x σ H) w1 Q (M.bind (fk sd) (fun ds => g (d :: ds)) S1)) I ?_) ?_) (methk_tree hb rfl hall (by simpa using hl) hp)
  · refine ⟨w0, w, sd, S, eH, r, fin_step q fun w1 S1 d v e1 s1 rv q1 => ?_⟩
    obtain ⟨c', g, ht, q2, _, a, dx, vs, ev, hv⟩ := pick_fin s1 rv q1
    exact ⟨w1, S1, d, c', g, a, dx, vs, rfl, r.step e1 s1, rv, ht, ev, hv, q2⟩
  · rintro u s1 ⟨v, H1, I1, rv, w1, S1, d, c', g, a, dx, vs, eH1, r1, rd, ht, ev, hv, q1⟩
    subst eH1 ev
    obtain rfl : u = Value.ref a := rv
    obtain ⟨f, cl, hm, F, nf⟩ := T.at_ c' g ht
    refine getmeth_ok I1 hv cl hm (lookup_zip_none nf) ?_
    refine PySem.W.callWith_KW0 (first := [.ref a]) (h₀ := X.base) I.ok.mod.kin hm.kp hall (thn (hk.run pos pins s1 σ w1.H (fun zs H2 => zs.length = ks.length ∧ spV G g ([V.ref a] ++ zs) H2 Q (WE W σ)) I1 ?_) ?_) (by rw [kw_names hall]; rfl)
    · refine ⟨w0, w1, sd, S1, rfl, r1, fin_step q1 fun w2 S2 ds xs e2 s2 rx q2 => ?_⟩
      exact ⟨rx.2.trans hj, w2, d :: ds, S2, rfl, s2, ⟨_, _, rfl, RepV.mono e2 r1.st.dj _ _ rd, rx.1⟩, q2⟩
    · rintro ws s2 ⟨zs, H2, I2, rz, lz, q2⟩
      refine ⟨I2.kIn, ?_⟩
      rw [hks]
      exact after_call (a := ⟨[.ref a], ks.zip ws⟩) c I2 (F.run X.A X.stack s2 H2 [.ref a] ws [.ref a] zs Q (WE W σ) c.rm0 I2.env0 (.cons rfl .nil) rz rfl lz q2)
theorem v_methK {tbl : Nat → Option (List D → M D)} {fo : List SV → M D} (c : Ctx G X W k) (T : MethKT X G k mm n ks tbl) (ho : PV G X W o fo) (ha : PLn G X W n (e :: es) fa) (hk : PKn G X W j kws fk) (hj : j = ks.length) (hs : (e :: es).all notStar = true) (hb : plainBase o = true) (hl : (e :: es).length + kws.length + 1 < 30) (hp : (apos.endLine == pos.line) = true)
    (hall : (backToKw pos (keywordEach kws X.env)).all (·.1.isSome) = true) (hks : (backToKw pos (keywordEach kws X.env)).filterMap (·.1) = ks) :
    PV G X W (.Call (.Attribute o mm apos) (e :: es) kws pos) (fun sd => M.bind (fo sd) fun d => M.bind (pick tbl d) fun g => M.bind (both fa fk sd) fun ds => g (d :: ds)) := by
  constructor
  intro pins s σ H Q I ⟨w0, w, sd, S, eH, r, q⟩
  have hs2 : notStar e = true ∧ es.all notStar = true := by simpa using hs
  refine PySem.W.methodCall_KW (thn (ho.run pins s σ H (fun v H1 => ∃ w1 S1 d c g a dx vs, w1.H = H1 ∧ R G w0 w1 sd S1 σ ∧ RepV G w1 d v ∧ tbl c = some g ∧ v = .ref a ∧ w1.H a = some (.ins (G.ca c) dx ((G.fn c).zip vs)) ∧
      FinG G (RepV G) (fun c x H => W c x σ H) w1 Q (M.bind (M.bind (fa sd) fun ds => M.bind (fk sd) fun es => M.pure (ds ++ es)) (fun ds => g (d :: ds)) S1)) I ?_) ?_) (methk_tree hb hs hall hl hp)
  · refine ⟨w0, w, sd, S, eH, r, fin_step q fun w1 S1 d v e1 s1 rv q1 => ?_⟩
    obtain ⟨c', g, ht, q2, _, a, dx, vs, ev, hv⟩ := pick_fin s1 rv q1
    exact ⟨w1, S1, d, c', g, a, dx, vs, rfl, r.step e1 s1, rv, ht, ev, hv, q2⟩
  · rintro u s1 ⟨v, H1, I1, rv, w1, S1, d, c', g, a, dx, vs, eH1, r1, rd, ht, ev, hv, q1⟩
    subst eH1 ev
    rw [M.bind_assoc] at q1
    obtain rfl : u = Value.ref a := rv
    obtain ⟨f, cl, hm, F, nf⟩ := T.at_ c' g ht
    refine getmeth_ok I1 hv cl hm (lookup_zip_none nf) ?_
    refine PySem.W.callWith_KW (first := [.ref a]) (h₀ := X.base) I.ok.mod.kin hm.kp hall (thn (ha.run pos pins s1 σ w1.H (fun xs H2 => xs.length = n ∧ ∃ w2 S2 ds, w2.H = H2 ∧ R G w0 w2 sd S2 σ ∧ RepV G w2 d (.ref a) ∧ RepVs G w2 ds xs ∧
        FinG G (RepV G) (fun c x H => W c x σ H) w2 Q (M.bind (M.bind (fk sd) fun es => M.pure (ds ++ es)) (fun ds => g (d :: ds)) S2)) I1 ?_) ?_) (by rw [starEach_all hs pos, kw_names hall]; rfl) (starEach_cons hs2.1)
    · exact ⟨w0, w1, sd, S1, rfl, r1, fin_step q1 fun w2 S2 ds xs e2 s2 rx q2 => ⟨rx.2, w2, S2, ds, rfl, r1.step e2 s2, RepV.mono e2 r1.st.dj _ _ rd, rx.1, q2⟩⟩
    · rintro us s2 ⟨xs, H2, I2, rx, lx, w2, S2, ds, rfl, r2, rd2, rds, q2⟩
      rw [M.bind_assoc] at q2
      refine thn (hk.run pos pins s2 σ w2.H (fun zs H3 => zs.length = ks.length ∧ spV G g ((V.ref a :: xs) ++ zs) H3 Q (WE W σ)) I2 ?_) ?_
      · refine ⟨w0, w2, sd, S2, rfl, r2, fin_step q2 fun w3 S3 es zs e3 s3 rz q3 => ?_⟩
        exact ⟨rz.2.trans hj, w3, d :: (ds ++ es), S3, rfl, s3, ⟨_, _, rfl, RepV.mono e3 r2.st.dj _ _ rd2, RepVs.append (RepVs.mono e3 r2.st.dj _ _ rds) rz.1⟩, q3⟩
      · rintro ws s3 ⟨zs, H3, I3, rz, lz, q3⟩
        refine ⟨I3.kIn, ?_⟩
        rw [hks]
        exact after_call (a := ⟨.ref a :: us, ks.zip ws⟩) c I3 (F.run X.A X.stack s3 H3 (.ref a :: us) ws (.ref a :: xs) zs Q (WE W σ) c.rm0 I3.env0 (.cons rfl rx) rz (by rw [List.length_cons, lx]) lz q3)
end
end Ev
set_option maxRecDepth 100000
set_option maxHeartbeats 2000000
namespace Ev
open PySem PySem.Spec PyProof.Rows L2
section
variable {G : Sg} {X : Cx} {W : WX} {k j : Nat} {f : Addr} {sem : List D → M D} {σ : L2.St}
theorem run_text {A : Around} {pins : List (Addr × Obj)} {H : Hp} {s : Shared} {Q : VK} {E' : Value → Shared → Prop} {us : List Value} {vs : List V} (hr : Rm G.gd j A) (e0 : Env0 X.prog X.w X.K X.mg X.base A X.stack s H) (F : FnX X G j f sem) (I : Inv X pins σ H s) (r : Vals vs us)
    (h : spV G sem vs H (fun z H' => (∃ y, z = .str y) ∧ Q z H') (fun _ _ _ => False)) : wpAny (model X.prog X.w) A (call (.ref f) us) (PySem.W.StrBack (EP X pins σ Q)) E' s := by
  have body := F.run A X.stack s H us vs _ (fun _ _ _ => False) hr e0 r h
  refine wpAny_call (codeAny_mono body ?_)
  intro res s' hq
  rcases res with er | fl
  · obtain ⟨_, _, _, _, _, _, _, _, _, _, _, _, z⟩ := hq
    exact z.elim
  · cases fl with
    | ret u =>
      obtain ⟨z, H', I3, rz, ⟨y, rfl⟩, hQ⟩ := I.after hq
      obtain ⟨t, rfl⟩ := (show ∃ t, u = Value.str y t from rz)
      exact ⟨.str y, H', I3, ⟨t, rfl⟩, hQ⟩
    | next => exact hq.elim
    | brk => exact hq.elim
    | cont => exact hq.elim
structure TxT (X : Cx) (G : Sg) (j : Nat) (nm : Str) (tbl : Nat → Option (List D → M D)) : Prop where
  at_ : ∀ c g, tbl c = some g → ∃ f, PySem.W.findIn X.K (.ref (G.ca c)) nm = some (some (.ref f)) ∧ PySem.W.isFn X.K (.ref f) = true ∧ PySem.W.findIn X.K (.ref (G.ca c)) "__format__" = some (some (.builtin "object.__format__")) ∧
    PySem.W.mroIn X.K (G.ca c) (.type "object") = some true ∧ FnX X G j f g
def ownTx (tbl : Nat → Option (List D → M D)) (d : D) : M D := M.bind (pick tbl d) fun g => M.bind (noErr (g [d])) fun r => M.bind (isStr r) fun y => M.pure (.str y)
theorem ownTx_sp {nm : Str} {tbl : Nat → Option (List D → M D)} {w : Wd} {S : List Ob} {d : D} {v : V} {Q : VK} {Wx : Value → Option Addr → Hp → Prop} (T : TxT X G j nm tbl) (st : RepS G w S) (rd : RepV G w d v) (q : FinG G (RepV G) Wx w Q (ownTx tbl d S)) :
    ∃ c a dx fs f g, v = .ref a ∧ w.H a = some (.ins (G.ca c) dx fs) ∧ PySem.W.findIn X.K (.ref (G.ca c)) nm = some (some (.ref f)) ∧ PySem.W.isFn X.K (.ref f) = true ∧ PySem.W.findIn X.K (.ref (G.ca c)) "__format__" = some (some (.builtin "object.__format__")) ∧
      PySem.W.mroIn X.K (G.ca c) (.type "object") = some true ∧ FnX X G j f g ∧ spV G g [.ref a] w.H (fun z H' => (∃ y, z = .str y) ∧ Q z H') (fun _ _ _ => False) := by
  unfold ownTx at q
  obtain ⟨cc, g, tg, q3, hc1, a1, dx1, fs1, rfl, hb1⟩ := pick_fin st rd q
  obtain ⟨f, h1, h2, h3, h4, F⟩ := T.at_ cc g tg
  refine ⟨cc, a1, dx1, _, f, g, rfl, hb1, h1, h2, h3, h4, F, w, [d], S, rfl, st, ⟨_, _, rfl, rd, rfl⟩, ?_⟩
  unfold M.bind noErr at q3
  rcases hg : g [d] S with _ | ⟨_ | r, S3⟩
  · rw [hg] at q3; exact q3.elim
  · rw [hg] at q3; exact q3.elim
  · rw [hg] at q3
    intro w' z e s3 rz
    cases r with
    | str y =>
      cases (show z = .str y from rz)
      exact ⟨⟨y, rfl⟩, q3 w' _ e s3 rfl⟩
    | _ => exact q3.elim
def strX (tbl : Nat → Option (List D → M D)) (d : D) : M D := if isObj d = true then ownTx tbl d else dStr d
theorem c_strX {tbl : Nat → Option (List D → M D)} (c : Ctx G X W k) (hj : j + 1 ≤ k) (T : TxT X G j "__str__" tbl) : CallR X (.type "str") (rDs G (on1 (strX tbl))) := by
  intro pins s σ H xs us Q I rx h
  obtain ⟨Wx, w, S, d, v, rfl, st, rfl, r, q⟩ := on1_of h
  unfold strX at q
  by_cases ho : isObj d = true
  · rw [if_pos ho] at q
    obtain ⟨cc, a, dx, fs, f, g, rfl, ha, h1, h2, _, _, F, sp⟩ := ownTx_sp T st r q
    obtain ⟨u, rfl, ru⟩ := rx.one
    cases (show u = Value.ref a from ru)
    obtain ⟨m1, O1, _⟩ := ins_get I.hok ha
    obtain ⟨od1, J1, _⟩ := O1.look
    have r2 : Rm G.gd j X.A.in1.in1 := ((c.rm.mono (show j + 2 ≤ k + 1 by omega)).in1).in1
    exact PySem.W.kso_call r2.room.units0 I.kIn J1 h1 h2 (run_text (us := [.ref a]) (vs := [.ref a]) r2 I.env0.in1.in1 F I (.cons rfl .nil) sp)
  · rw [if_neg ho] at q
    exact c_str pins s σ w.H _ us Q I rx ⟨Wx, w, S, [d], rfl, st, ⟨_, _, rfl, r, rfl⟩, q⟩
def reprX (tbl : Nat → Option (List D → M D)) (d : D) : M D := if isObj d = true then ownTx tbl d else dRepr d
theorem c_reprX {tbl : Nat → Option (List D → M D)} (c : Ctx G X W k) (T : TxT X G k "__repr__" tbl) (hg : G.gd = true := by rfl) : CallR X (.builtin "repr") (rDs G (on1 (reprX tbl))) := by
  intro pins s σ H xs us Q I rx h
  obtain ⟨Wx, w, S, d, v, rfl, st, rfl, r, q⟩ := on1_of h
  unfold reprX at q
  by_cases ho : isObj d = true
  · rw [if_pos ho] at q
    obtain ⟨cc, a, dx, fs, f, g, rfl, ha, h1, h2, _, _, F, sp⟩ := ownTx_sp T st r q
    obtain ⟨u, rfl, ru⟩ := rx.one
    cases (show u = Value.ref a from ru)
    obtain ⟨m1, O1, _⟩ := ins_get I.hok ha
    obtain ⟨od1, J1, _⟩ := O1.look
    obtain ⟨m, hF⟩ := I.fr
    exact PySem.W.repr_K (c.rm.in1).room.units0 hF I.ok.mod.kin J1 h1 h2 (run_text (us := [.ref a]) (vs := [.ref a]) c.rm.in1 I.env0.in1 F I (.cons rfl .nil) sp)
  · rw [if_neg ho] at q
    exact c_repr c.cK c.rm hg pins s σ w.H _ us Q I rx ⟨Wx, w, S, [d], rfl, st, ⟨_, _, rfl, r, rfl⟩, q⟩
def fmtX (tbl : Nat → Option (List D → M D)) (d : D) : M D := if isObj d = true then ownTx tbl d else dFmt d
theorem v_fmtX {e : Expr} {fe : List SV → M D} {pos : Pos} {tbl : Nat → Option (List D → M D)} (c : Ctx G X W k) (T : TxT X G k "__str__" tbl) (he : PV G X W e fe) : PV G X W (.FormattedValue e (-1) none pos) (fun sd => M.bind (fe sd) (fmtX tbl)) := by
  constructor
  intro pins s σ H Q I ⟨w0, w, sd, S, eH, r, q⟩
  refine wpAny_FormattedValue_plain (thn (he.run pins s σ H (fun v H1 => ∃ w1 S1 d, w1.H = H1 ∧ RepS G w1 S1 ∧ RepV G w1 d v ∧ FinG G (RepV G) (fun c x H => W c x σ H) w1 Q (fmtX tbl d S1)) I ?_) ?_)
  · exact ⟨w0, w, sd, S, eH, r, fin_step q fun w1 S1 d v e1 s1 rv q1 => ⟨w1, S1, d, rfl, s1, rv, q1⟩⟩
  · rintro u s1 ⟨v, H1, I1, rv, w1, S1, d, rfl, st, rd, q1⟩
    unfold fmtX at q1
    by_cases ho : isObj d = true
    · rw [if_pos ho] at q1
      obtain ⟨cc, a, dx, fs, f, g, rfl, ha, h1, h2, h3, h4, F, sp⟩ := ownTx_sp T st rd q1
      cases (show u = Value.ref a from rv)
      obtain ⟨m1, O1, _⟩ := ins_get I1.hok ha
      obtain ⟨od1, J1, _⟩ := O1.look
      have I2 := I1.tok (s1.toks + 1)
      exact PySem.W.kfo_fieldS (c.rm.in1).room.units0 I1.kIn J1 h3 h4 h1 h2 (run_text (us := [.ref a]) (vs := [.ref a]) c.rm.in1 I2.env0.in1 F I2 (.cons rfl .nil) sp)
    · rw [if_neg ho] at q1
      cases d with
      | str x =>
        obtain ⟨cc, q2⟩ := FinG.ite q1
        cases (show v = .str x from rd)
        obtain ⟨t, rfl⟩ := (show ∃ t, u = Value.str x t from rv)
        have hQ : Q (.str x) w1.H := fin_pure q2 st rfl
        exact wpAny_formatField_str ⟨.str x, w1.H, I1, ⟨t, rfl⟩, hQ⟩ ⟨.str x, w1.H, I1.tok _, ⟨_, rfl⟩, hQ⟩ (by rw [← lim_eq]; exact cc)
      | int i =>
        obtain ⟨cc, q2⟩ := FinG.ite q1
        cases (show v = .int i from rd)
        obtain ⟨t, rfl⟩ := (show ∃ t, u = Value.int i t from rv)
        have hQ : Q (.str (toString i)) w1.H := fin_pure q2 st rfl
        exact wpAny_formatField_int (of_decide_eq_true cc) ⟨.str (toString i), w1.H, I1.tok _, ⟨_, rfl⟩, hQ⟩
      | _ => exact q1.elim
end
end Ev
set_option maxRecDepth 100000
set_option maxHeartbeats 2000000
namespace Ev
open PySem PySem.Spec PyProof.Rows L2 PySem.W NdefX
structure PSsA (X : Cx) (c : Code) (st : List Stmt) (t : TS) : Prop where
  run : ∀ (pins : List (Addr × Obj)) (s : Shared) (σ : L2.St) (H : Hp) (D : Ends), Inv X pins σ H s → t D σ H → _root_.PySem.wpAt (model X.prog X.w) X.A c (execs st X.env) (SP X pins D) X.xe s
structure PSA (X : Cx) (c : Code) (st : Stmt) (t : TS) : Prop where
  run : ∀ (pins : List (Addr × Obj)) (s : Shared) (σ : L2.St) (H : Hp) (D : Ends), Inv X pins σ H s → t D σ H → _root_.PySem.wpAt (model X.prog X.w) X.A c (exec st X.env) (SP X pins D) X.xe s
abbrev PSsAV (G : Sg) (X : Cx) (W : WX) (c : Code) (st : List Stmt) (f : MS) : Prop := PSsA X c st (tsV G W f)
abbrev PSAV (G : Sg) (X : Cx) (W : WX) (c : Code) (st : Stmt) (f : MS) : Prop := PSA X c st (tsV G W f)
section
variable {G : Sg} {X : Cx} {W : WX} {k : Nat} {c : Code} {st : Stmt} {rest sts : List Stmt} {f g : MS}
theorem sa_of (h : PSsV G X W sts f) : PSsAV G X W c sts f := ⟨fun pins s σ H D I q => wpAt_of_wpAny (h.run pins s σ H D I q)⟩
theorem sa_st (h : PSV G X W st f) : PSAV G X W c st f := ⟨fun pins s σ H D I q => wpAt_of_wpAny (h.run pins s σ H D I q)⟩
theorem sa_seq {t u : TS} (h1 : PSA X c st t) (h2 : PSsA X c rest u) : PSsA X c (st :: rest) (tSeq t u) := by
  refine ⟨fun pins s σ H D I h => ?_⟩
  refine ks_wpAt_execs_cons (ks_wpAt_mono (h1.run pins s σ H { D with nx := u D } I h) (fun fl s1 q => ?_) fun _ _ x => x)
  cases fl with
  | next =>
    obtain ⟨σ', H', I', q⟩ := q
    exact h2.run pins s1 σ' H' D I' q
  | ret v => exact q
  | brk => exact q
  | cont => exact q
theorem sa_cons (h1 : PSAV G X W c st f) (h2 : PSsAV G X W c rest g) : PSsAV G X W c (st :: rest) (seqS f g) := by
  refine ⟨fun pins s σ H D I h => (sa_seq h1 h2).run pins s σ H D I ?_⟩
  obtain ⟨w0, w, sd, S, e, r, q⟩ := h
  refine ⟨w0, w, sd, S, e, r, ?_⟩
  unfold seqS at q
  rcases hf : f sd S with _ | ⟨_ | _ | _ | _ | _, S1⟩
  · rw [hf] at q; exact q
  · rw [hf] at q
    exact fun w' σ' s r' => ⟨w0, w', _, S1, rfl, r', FinS.stay s q⟩
  · rw [hf] at q; exact q
  · rw [hf] at q; exact q
  · rw [hf] at q; exact q
  · rw [hf] at q; exact q
end
theorem FnS.mono {P : Program} {w : World} {K : Frag} {mg : Str → Option Value} {base : Heap} {b : Bool} {j k : Nat} {f : Addr} {sp : Sp} (F : FnS P w K mg base b j f sp) (h : j ≤ k) : FnS P w K mg base b k f sp := fun A fr s H us vs Q E hr => F A fr s H us vs Q E (hr.mono h)
structure Sup (P : Program) (K : PySem.W.Frag) (name qual : Str) (st : Stmt) (f cc cda Dc C f2 : Addr) : Prop where
  fu : ∃ (oc : Value) (od : Option Addr) (kV doc pm : Value) (an : Option Addr) (ct : Value) (osl : Array (Option Value)), K.lookup f = some ⟨oc, od, .func (fnX name qual (defArgs st) (defBody st) (defScope st) [("__class__", cc)] .none kV doc pm an (.ref cda) ct), osl⟩
  cd : codeIn K (.ref cda) qual = true
  kp : keepIn K (.ref f) = true
  cell : ∃ (cl : Value) (cld : Option Addr) (csl : Array (Option Value)), K.lookup cc = some ⟨cl, cld, .cell (some (.ref Dc)), csl⟩
  code : ∃ (ccl : Value) (cdd : Option Addr) (vs : Array Value) (ccs : Array (Option Value)) (file : Str) (tf : Tok), K.lookup cda = some ⟨ccl, cdd, .fields vs, ccs⟩ ∧ vs[2]? = some (.str file tf) ∧ ((P.main.file : Str) == file) = true
  cls : ∃ cdD, clsIn K Dc = some cdD
  sub : mroIn K C (.ref Dc) = some true
  sup : ks_superIn K C Dc "__init__" = some (some (.ref f2))
  ty : typeIn K (.ref f2) = some (.type "function")
  fi : fnIn K f2 = true
  op : nsIn K cStatics "thirdparty.any" = some none
  top : (P.main.scope.names.lookup ("super" : Str)).isSome = false
def notOwn : SV → Bool
  | .own _ => false
  | _ => true
def supS (c0 m2 n2 : Nat) (ms2 : MS) (fa : List SV → M (List D)) : Ev.MS := fun (sd : List Ev.SV) (S : List Ev.Ob) => match (sd[0]? : Option Ev.SV) with
  | some (Ev.SV.own (Ev.Ob.ins c es)) => if c = c0 ∧ (sd.drop 1).all notOwn = true then exS fa (fun ds sd S => if ds.length + 1 = m2 then match ms2 (slots n2 (.own (.ins c es) :: ds.map .val)) S with
      | some (.next sd', S') => match (sd'[0]? : Option Ev.SV) with
        | some (Ev.SV.own o') => some (.next (sd.set 0 (.own o')), S')
        | _ => none
      | _ => none
    else none) sd S else none
  | _ => none
theorem no_own {sd : List Ev.SV} {i : Nat} {o : Ev.Ob} (h : (sd.drop 1).all notOwn = true) (hi : i ≠ 0) : sd[i]? ≠ some (Ev.SV.own o) := fun z => by
  obtain ⟨j, rfl⟩ : ∃ j, i = j + 1 := ⟨i - 1, by omega⟩
  have m : Ev.SV.own o ∈ sd.drop 1 := by
    refine List.mem_of_getElem? (i := j) ?_
    rw [List.getElem?_drop, Nat.add_comm]
    exact z
  have := List.all_eq_true.mp h _ m
  cases this
theorem R.enterO {G : Sg} {wd w1 : Wd} {N : List Str} {ds : List D} {vs : List V} {S : List Ob} {a : Addr} {o : Ob} (e : Ext wd w1) (s : RepS G w1 S) (r : RepVs G w1 ds vs) (h : ds.length + 1 ≤ N.length) (ha : RepO G w1 a o) (nF : ¬ w1.F a) (nm : a ∉ w1.m) (n0 : wd.H a = none) :
    R G { wd with x := some a } w1 (slots N.length (.own o :: ds.map .val)) S (L2.start N (V.ref a :: vs)) := by
  have hd : ∀ {i : Nat} {y : SV}, (slots N.length (SV.own o :: ds.map .val))[i]? = some y → (i = 0 ∧ y = .own o) ∨ (∃ j, i = j + 1 ∧ (slots (N.length - 1) (ds.map SV.val))[j]? = some y) := fun {i y} z => by
    cases i with
    | zero =>
      refine .inl ⟨rfl, ?_⟩
      unfold slots at z
      simp at z
      exact z.symm
    | succ j =>
      refine .inr ⟨j, rfl, ?_⟩
      unfold slots at z ⊢
      have e1 : N.length - (SV.own o :: ds.map SV.val).length = N.length - 1 - (ds.map SV.val).length := by
        rw [List.length_cons]
        omega
      rw [e1, List.cons_append, List.getElem?_cons_succ] at z
      exact z
  have s0 : (L2.start N (V.ref a :: vs))[0]? = some (some (V.ref a)) := start_get rfl
  refine ⟨⟨e.m, e.F, e.H, e.nm, e.nF, e.al⟩, s, ?_, fun i d z => ?_, fun i o z => ?_, fun i j o o' b z1 z2 _ _ => ?_, fun b o eb z => ?_⟩
  · have l : vs.length = ds.length := r.length.symm
    rw [start_len (by rw [List.length_cons, l]; exact h), slots_len (by rw [List.length_cons, List.length_map]; exact h)]
  · rcases hd z with ⟨_, e2⟩ | ⟨j, rfl, z2⟩
    · cases e2
    · obtain ⟨v, h1, h2⟩ := r.get (slots_val z2)
      exact ⟨v, start_get (by rw [List.getElem?_cons_succ]; exact h1), h2⟩
  · rcases hd z with ⟨rfl, e2⟩ | ⟨j, rfl, z2⟩
    · cases e2
      exact ⟨a, s0, ha, nF, nm, n0⟩
    · exact (slots_own z2).elim
  · rcases hd z1 with ⟨e1, _⟩ | ⟨j1, _, z1⟩
    · rcases hd z2 with ⟨e2, _⟩ | ⟨j2, _, z2⟩
      · rw [e1, e2]
      · exact (slots_own z2).elim
    · exact (slots_own z1).elim
  · cases eb
    exact s0
abbrev nfOf (name qual : Str) (st : Stmt) (cc cda : Addr) : NF := ⟨name, qual, defArgs st, defBody st, defScope st, [("__class__", cc)], cda⟩
section
variable {G : Sg} {X : Cx} {W : WX} {k n : Nat} {body : List Stmt} {name qual self : Str} {st : Stmt} {f cc cda Dc C f2 : Addr} {p0 p1 apos pos pos2 : Pos} {e : Expr} {es : List Expr} {fa : List SV → M (List D)}
theorem s_super {c0 m2 n2 : Nat} {N2 ps2 : List Str} {ms2 : MS} {L : Addr} {ar : Arg} {ars : List Arg} (c : Ctx G X W k) (U : Sup X.prog X.K name qual st f cc cda Dc (G.ca c0) f2) (he : X.env = envF (nfOf name qual st cc cda) f L)
    (B2 : FnS X.prog X.w X.K X.mg X.base G.gd k f2 (fun vs H Q E => vs.length = ps2.length ∧ spT G N2 ms2 vs H Q E)) (e2 : ps2.length = m2) (en : N2.length = n2) (hmn : m2 ≤ n2)
    (hm : X.mg "super" = none) (hks : (defScope st).names.lookup ("super" : Str) = some .globalImplicit) (hkc : (defScope st).names.lookup ("__class__" : Str) = some .free) (hp : (defArgs st).posonlyargs ++ (defArgs st).args = ar :: ars) (hka : (defScope st).names.lookup ar.arg = some .local) (h0 : X.N[0]? = some ar.arg)
    (ha : PLn G X W n (e :: es) fa) (hs : (e :: es).all notStar = true)
    (hi : interactive X.env = false) (hsw : swapsWith (.Call (.Attribute (.Call (.Name "super" p0) [] [] p1) "__init__" apos) (e :: es) [] pos) none pos2.line X.env = pure false)
    (htree : eval (.Call (.Attribute (.Call (.Name "super" p0) [] [] p1) "__init__" apos) (e :: es) [] pos) X.env = (do
      let ov ← attributeBase (.Call (.Name "super" p0) [] [] p1) "__init__" X.env (eval (.Call (.Name "super" p0) [] [] p1) X.env)
      standAt apos.atName
      let (f, first) ← holding [ov] (getMethod ov "__init__" (do return (← importBound (.Call (.Name "super" p0) [] [] p1) X.env).getD true))
      callWith pos f first (backTo pos (starEach (e :: es) X.env)) [])) :
    PSAV G X W (.func body X.env) (.Expr (.Call (.Attribute (.Call (.Name "super" p0) [] [] p1) "__init__" apos) (e :: es) [] pos) pos2) (supS c0 m2 n2 ms2 fa) := by
  have hs2 : notStar e = true ∧ es.all notStar = true := by simpa using hs
  obtain ⟨oc, od, kV, doc, pm, an, ct, osl, hf⟩ := U.fu
  obtain ⟨cl, cld, csl, hcell⟩ := U.cell
  obtain ⟨ccl, cdd, vsC, ccs, file, tf, hcode, hvs, hfile⟩ := U.code
  obtain ⟨cdD, hD⟩ := U.cls
  constructor
  intro pins s σ H En I ⟨w0, w, sd, S, eH, r, q⟩
  subst eH
  unfold supS at q
  rcases hsd : sd[0]? with _ | _ | _ | ⟨_ | _ | ⟨c', es'⟩⟩
  · rw [hsd] at q; exact q.elim
  · rw [hsd] at q; exact q.elim
  · rw [hsd] at q; exact q.elim
  · rw [hsd] at q; exact q.elim
  · rw [hsd] at q; exact q.elim
  rw [hsd] at q
  simp only at q
  split at q
  case isFalse => exact q.elim
  case isTrue hc =>
  obtain ⟨rfl, hno⟩ := hc
  obtain ⟨a, hσ, ho, nF, nm, n0⟩ := r.ow 0 _ hsd
  obtain ⟨dx, vs0, hb, _, _⟩ := id ho
  obtain ⟨m1, O1, _⟩ := ins_get I.hok hb
  obtain ⟨od1, J1, _⟩ := O1.look
  have X1 := I.kIn
  have hk := I.ok.kind
  have kof : ∀ x, X.env.kindOf x = (defScope st).names.lookup x := fun x => by rw [he]; rfl
  obtain ⟨oD, hD1, hD2⟩ : ∃ oD, s.heap.get? Dc = some oD ∧ oD.data = .cls cdD := by
    unfold clsIn at hD
    split at hD
    · rename_i c d cd' sl ho
      cases hD
      exact ⟨_, X1 _ _ ho, rfl⟩
    · cases hD
  refine ks_wpAt_Expr_any (ks_wpAt_MethodCall (pl := (do return (← importBound (.Call (.Name "super" p0) [] [] p1) X.env).getD true)) ?_ htree) hi hsw
  obtain ⟨hh, g, d, t, os⟩ := s
  refine ks_wpAt_super_base (env := X.env) ((kof _).trans hks) ((kof _).trans hkc) rfl (by rw [he]) (X1 _ _ hf) rfl (ar := ar) (by show ((defArgs st).posonlyargs ++ (defArgs st).args).head? = _; rw [hp]; rfl) (by rw [he]) (X1 _ _ hcode) rfl hvs hfile U.top ?_
  obtain ⟨mb, hb1, hb2⟩ := I.mod.blt
  refine ks_loadName_global hk ((kof _).trans hks) (Calls.loadGlobal_builtin (by rw [I.ok.glob]; exact I.mod.glob.keeps I.bk) hm (by rw [I.ok.blt]; exact hb1.keeps I.bk) ((hb2 "super" (by decide)).trans (show bootBuiltins "super" = some (.type "super") by decide +kernel)) ⟨rfl, ?_⟩)
  refine wpAny_loadName_free hk ((kof _).trans hkc) (by rw [he]; rfl) ⟨_, X1 _ _ hcell, rfl⟩ ?_
  obtain ⟨m, hns, hlook⟩ := I.loc
  obtain ⟨u0, ru0, lk0⟩ := hlook 0 ar.arg (.ref a) h0 hσ (.inl ((show X.env.scope.names.lookup ar.arg = (defScope st).names.lookup ar.arg by rw [he]).trans hka))
  cases (show u0 = Value.ref a from ru0)
  have hself : m ar.arg = some (.ref a) := by
    rcases lk0 with ⟨_, z⟩ | ⟨z, _⟩
    · exact z
    · have e1 : X.env.scope.names.lookup ar.arg = some .local := (show X.env.scope.names.lookup ar.arg = (defScope st).names.lookup ar.arg by rw [he]).trans hka
      rcases z with z | z <;> (rw [show X.env.kindOf ar.arg = X.env.scope.names.lookup ar.arg from rfl, e1] at z; cases z)
  refine wpAny_loadName_local hk ((kof _).trans hka) hns hself ?_
  refine ks_wpAny_isType_cls hD1 hD2 ⟨rfl, ?_⟩
  refine ks_wpAny_call_super hD1 hD2 J1.at_ J1.cls (fun c e => ?_) (looks_mroIn X1 U.sub) (fun h' eso k1 => ?_)
  · have := J1.no
    unfold notCls at this
    rw [e] at this
    exact Bool.noConfusion this
  have hsz : hh.objs.size < h'.objs.size := Heap.lt_size eso
  have nq : w.H h'.objs.size = none := I.hok.fresh (Nat.le_of_lt hsz)
  have X2 : X.K.In h' := fun b o z => k1 b o (X1 b o z)
  obtain ⟨cdC, hcC⟩ : ∃ cdC, clsIn X.K (G.ca c') = some cdC := by
    have z := U.sup
    unfold ks_superIn at z
    cases hz : clsIn X.K (G.ca c') with
    | none => rw [hz] at z; cases z
    | some cd => exact ⟨cd, rfl⟩
  have halong : alongIn X.K "__init__" ((cdC.mro.dropWhile (· != .ref Dc)).drop 1) = some (some (.ref f2)) := by
    have z := U.sup
    unfold ks_superIn at z
    rw [hcC] at z
    exact z
  obtain ⟨of, hof, hofc⟩ : ∃ of, h'.get? f2 = some of ∧ of.cls = .type "function" := by
    have ht' : (X.K.lookup f2).map (·.cls) = some (.type "function") := U.ty
    cases z : X.K.lookup f2 with
    | none => rw [z] at ht'; cases ht'
    | some of => rw [z] at ht'; exact ⟨of, X2 _ _ z, Option.some.inj ht'⟩
  refine ks_wpAny_getMethod_super eso (looks_opaque X2 U.op) (l₀ := cdC.mro) (fun A Q E s k q => wpAny_bind ((looks_clsIn X2 hcC) A _ E s k (wpAny_pure q))) rfl X2 halong hof hofc (ks_ne X1 J1 hcC) rfl ?_
  have I1 := I.laid (h' := h'.push (methodObj (.ref f2) (.ref a))) (t' := t + 1) (a := h'.objs.size) (o := .met f2 a) (fun b u z => Heap.get?_push_of_some _ (k1 b u z)) (Nat.le_of_lt hsz)
    (show (h'.push (methodObj (.ref f2) (.ref a))).get? h'.objs.size = some (methodObj (.ref f2) (.ref a)) from Heap.get?_push_size h' rfl)
  have eF := Ext.frz (w := w) (p := h'.objs.size) (o := .met f2 a) nq
  have r1 := r.step eF (r.st.frz nq)
  have hmet : (w.frz h'.objs.size (.met f2 a)).H h'.objs.size = some (.met f2 a) := upd_same
  have nmq : h'.objs.size ∉ (w.frz h'.objs.size (.met f2 a)).m := fun z => r.st.there z nq
  have q1 := FinS.stay (eF.stay r.st.dj) q
  have eargs : starEach (e :: es) X.env = (false, eval e X.env) :: starEach es X.env := starEach_cons hs2.1
  have run := ha.run pos pins _ σ (w.frz h'.objs.size (.met f2 a)).H (fun vs H2 => vs.length = n ∧ ∃ w2 S2 ds, w2.H = H2 ∧ R G w0 w2 sd S2 σ ∧ RepVs G w2 ds vs ∧ w2.H h'.objs.size = some (.met f2 a) ∧
      FinS G W w0 w2 En ((fun ds sd S => if ds.length + 1 = m2 then match ms2 (slots n2 (.own (.ins c' es') :: ds.map .val)) S with
      | some (.next sd', S') => match (sd'[0]? : Option Ev.SV) with
        | some (Ev.SV.own o') => some (.next (sd.set 0 (.own o')), S')
        | _ => none
      | _ => none
    else none : List D → Ev.MS) ds sd S2)) I1 ⟨w0, _, sd, S, rfl, r1, exS_step q1 r1 fun w2 S2 ds vs e2 r2 rv q2 => ⟨rv.2, w2, S2, ds, rfl, r2, rv.1, e2.H _ _ nmq hmet, q2⟩⟩
  rw [eargs] at run ⊢
  refine PySem.W.callWith_of (P := PySem.W.MethP X.K h'.objs.size f2 (.ref a)) (by show ((false || (backTo pos (starEach es X.env)).any (·.1)) || false) = false; rw [starEach_all hs2.2 pos]; rfl) (PySem.W.keeps_M U.fi) (Calls.evalArgs_plain (thn run fun us s2 => ?_))
  rintro ⟨vs, H2, I2, rv, lv, w2, S2, ds, rfl, r2, rds, hmet2, q2⟩
  refine ⟨met_P I2 hmet2, ?_⟩
  dsimp only at q2
  split at q2
  case isFalse => exact q2.elim
  case isTrue hl =>
  obtain ⟨a2, hσ2, ho2, nF2, nm2, _⟩ := r2.ow 0 _ hsd
  rw [hσ] at hσ2
  cases hσ2
  have hlen : ds.length + 1 ≤ N2.length := by rw [en, hl]; exact hmn
  have start := R.enterO (N := N2) r2.ex r2.st rds hlen ho2 nF2 nm2 n0
  rw [en] at start
  rcases hms : ms2 (slots n2 (.own (.ins c' es') :: ds.map .val)) S2 with _ | ⟨sd' | _ | _ | _ | _, S3⟩
  · rw [hms] at q2; exact q2.elim
  · rw [hms] at q2
    simp only at q2
    rcases hsd' : sd'[0]? with _ | _ | _ | o'
    · rw [hsd'] at q2; exact q2.elim
    · rw [hsd'] at q2; exact q2.elim
    · rw [hsd'] at q2; exact q2.elim
    rw [hsd'] at q2
    simp only at q2
    have want : (V.ref a :: vs).length = ps2.length ∧ spT G N2 ms2 (V.ref a :: vs) w2.H (fun v H3 => v = .non ∧ ∃ w3, w3.H = H3 ∧ Stay w2 w3 ∧ RepS G w3 S3 ∧ Ext w0 w3 ∧ RepO G w3 a o' ∧ ¬ w3.F a ∧ a ∉ w3.m) (WE W σ) := by
      refine ⟨by rw [List.length_cons, ← rds.length, hl, e2], { w0 with x := some a }, w2, _, S2, rfl, start, ?_⟩
      rw [hms]
      intro w' σ' st3 r3
      obtain ⟨b, hb', ho3, nF3, nm3, _⟩ := r3.ow 0 _ hsd'
      have hb2' := r3.sf a _ rfl hsd'
      rw [hb'] at hb2'
      cases hb2'
      exact ⟨rfl, w', rfl, st3, r3.st, ⟨r3.ex.m, r3.ex.F, r3.ex.H, r3.ex.nm, r3.ex.nF, r3.ex.al⟩, ho3, nF3, nm3⟩
    have bd := B2 X.A X.stack s2 w2.H (.ref a :: us) (V.ref a :: vs) _ _ c.rm0 I2.env0 (.cons rfl rv) want
    refine wpAny_call (PySem.W.method_call (met_P I2 hmet2).1 (codeAny_mono bd ?_))
    rintro (er | fl) s' got
    · exact c.px σ pins _ _ er s' I2 got
    · cases fl with
      | ret u =>
        obtain ⟨v, H', I3, rv3, rfl, w3, rfl, st3, rs3, ex3, ho3, nF3, nm3⟩ := I2.after got
        refine ⟨σ, w3.H, I3, q2 w3 σ st3 ⟨ex3, rs3, by rw [List.length_set]; exact r2.ln, fun i d z => ?_, fun i o z => ?_, fun i j o o2 b z1 z2 _ _ => ?_, fun b o eb z => ?_⟩⟩
        · by_cases hi0 : i = 0
          · subst hi0
            rw [List.getElem?_set_self (List.getElem?_eq_some_iff.mp hsd).1] at z
            cases z
          · rw [List.getElem?_set_ne (fun z => hi0 z.symm)] at z
            obtain ⟨v, z1, z2⟩ := r2.vl i d z
            exact ⟨v, z1, RepV.stay st3 d v z2⟩
        · by_cases hi0 : i = 0
          · subst hi0
            rw [List.getElem?_set_self (List.getElem?_eq_some_iff.mp hsd).1] at z
            cases z
            exact ⟨a, hσ, ho3, nF3, nm3, n0⟩
          · rw [List.getElem?_set_ne (fun z => hi0 z.symm)] at z
            exact absurd z (no_own hno hi0)
        · have e1 : i = 0 := by
            by_cases hi0 : i = 0
            · exact hi0
            · rw [List.getElem?_set_ne (fun z => hi0 z.symm)] at z1
              exact absurd z1 (no_own hno hi0)
          have e2 : j = 0 := by
            by_cases hi0 : j = 0
            · exact hi0
            · rw [List.getElem?_set_ne (fun z => hi0 z.symm)] at z2
              exact absurd z2 (no_own hno hi0)
          rw [e1, e2]
        · exact r2.sf b _ eb hsd
      | next => exact got.elim
      | brk => exact got.elim
      | cont => exact got.elim
  · rw [hms] at q2; exact q2.elim
  · rw [hms] at q2; exact q2.elim
  · rw [hms] at q2; exact q2.elim
  · rw [hms] at q2; exact q2.elim
end
abbrev XS (P : Program) (w : World) (K : PySem.W.Frag) (mg : Str → Option Value) (base : Heap) (N : List Str) (name qual : Str) (st : Stmt) (cc cda f : Addr) (A : Around) (fr : List Env) (s : Shared) (H : Hp) (E : XK) : Cx :=
  ncx (L2.CX P w) P w K mg base N (nfOf name qual st cc cda) f A fr s H E
def BodyS (P : Program) (w : World) (K : PySem.W.Frag) (mg : Str → Option Value) (base : Heap) (G : Sg) (k : Nat) (f cc cda : Addr) (N : List Str) (name qual : Str) (st : Stmt) (ms : Ev.MS) : Prop :=
  ∀ (A : Around) (fr : List Env) (s : Shared) (H : Hp) (E : XK), Ctx G (XS P w K mg base N name qual st cc cda f A fr s H E) (WF E) k →
    PSsAV G (XS P w K mg base N name qual st cc cda f A fr s H E) (WF E) (.func (defBody st) (XS P w K mg base N name qual st cc cda f A fr s H E).env) (defBody st) ms
section
variable {P : Program} {w : World} {K : PySem.W.Frag} {mg : Str → Option Value} {base : Heap} {G : Sg} {k : Nat} {f cc cda Dc C f2 : Addr} {name qual : Str} {st : Stmt} {N ps : List Str} {ms : Ev.MS}
theorem ctxS (cK : G.K = K) (SC : NScope N ps ["__class__"] (defScope st)) {A : Around} {fr : List Env} {s : Shared} {H : Hp} {E : XK} (hr : Rm G.gd (k + 1) (A.deeper (envF (nfOf name qual st cc cda) f s.heap.objs.size))) :
    Ctx G (XS P w K mg base N name qual st cc cda f A fr s H E) (WF E) k := ⟨cK, rfl, hr, SC.nd, fun σ => L2.passAt (L2.takes_of rfl rfl rfl rfl) σ, L2.passes_of rfl⟩
theorem startF_eq {vs : List V} (h : vs.length + 1 ≤ N.length) : startF N vs [none] = L2.start N vs := by
  unfold startF L2.start
  congr 1
  have e : N.length - vs.length = (N.length - vs.length - 1) + 1 := by omega
  rw [e, List.replicate_succ]
  rfl
theorem fns_super (U : Sup P K name qual st f cc cda Dc C f2) (SC : NScope N ps ["__class__"] (defScope st)) (cK : G.K = K) (B : BodyS P w K mg base G k f cc cda N name qual st ms)
    {A : Around} {fr : List Env} {s : Shared} {H : Hp} {args : Args} {us : List Value} {vs : List V} {Q : VK} {E : XK}
    (hb : ∀ (kV doc pm : Value) (an : Option Addr) (ct : Value), bindArgs (fnX name qual (defArgs st) (defBody st) (defScope st) [("__class__", cc)] .none kV doc pm an (.ref cda) ct) args = pure (ps.zip us))
    (hr : Rm G.gd (k + 2) A) (e0 : Env0 P w K mg base A fr s H) (r : Vals vs us) (h : vs.length = ps.length ∧ spT G N ms vs H Q E) : codeAny (model P w) A (.call (.ref f) args) (CR (L2.CX P w) fr P w H s Q E) s := by
  obtain ⟨oc, od, kV, doc, pm, an, ct, osl, hf⟩ := U.fu
  obtain ⟨cl, cld, csl, hcell⟩ := U.cell
  obtain ⟨hl, hsp⟩ := h
  have inK : K.In s.heap := e0.mod.kin.keeps fun b o e => (e0.bs b o e).1
  have lim : s.heap.NoLimit := e0.mod.nolimit.keeps fun b o e => (e0.bs b o e).1
  have hnl : ps.length + 1 ≤ N.length := by
    have q := congrArg List.length SC.pre
    rw [List.length_take, List.length_append] at q
    have : (["__class__"] : List Str).length = 1 := rfl
    omega
  have Cc : CellsAt [(("__class__" : Str), cc)] ["__class__"] [none] s.heap H := by
    refine ⟨rfl, fun y c z => ?_, fun x y c z1 z2 => ?_, fun i y z => ?_⟩
    · have : c = cc := by
        simp only [List.lookup] at z
        split at z
        · cases z; rfl
        · cases z
      subst this
      exact ⟨(e0.bs _ _ (e0.mod.kin _ _ hcell)).2, _, _, inK _ _ hcell, rfl⟩
    · have one : ∀ {x : Str} {c : Addr}, ([(("__class__" : Str), cc)] : List (Str × Addr)).lookup x = some c → x = "__class__" := fun {x c} z => by
        simp only [List.lookup] at z
        split at z
        · next h => exact beq_iff_eq.mp h
        · cases z
      rw [one z1, one z2]
    · refine ⟨cc, ?_, fun v z2 => ?_⟩
      · cases i with
        | zero => simp at z; subst z; rfl
        | succ i => simp at z
      · cases i with
        | zero => simp at z2
        | succ i => simp at z2
  refine ks_codeAny_call_defAt (fd := fnX name qual (defArgs st) (defBody st) (defScope st) [("__class__", cc)] .none kV doc pm an (.ref cda) ct) (body := defBody st) (binds := ps.zip us) hr.room.depth (inK _ _ hf) rfl lim (codeRec_of inK U.cd) rfl (.of_eq (hb kV doc pm an ct)) SC.nocell
    (fun ⟨n, _⟩ hy => SC.par n (List.of_mem_zip hy).1) (fun h₁ hns kp => ?_) SC.co SC.gen SC.kind
  have I : Inv (XS P w K mg base N name qual st cc cda f A fr s H E) [] (startF N vs [none]) H { s with heap := h₁, toks := s.toks + (ps.zip us).length } := inv_startN SC hr.room.hd e0 hl r Cc hns kp
  rw [startF_eq (by omega)] at I
  have run := (B A fr s H E (ctxS cK SC (hr.deeper _))).run [] _ (L2.start N vs) H { nx := fun _ H' => Q .non H', rt := Q } I hsp
  refine ks_wpAt_mono run (fun fl s' hs => ?_) fun e s' hs => hs
  have fin : ∀ {σ' : L2.St} {H' : Hp} {v : V} {u : Value}, Inv (XS P w K mg base N name qual st cc cda f A fr s H E) [] σ' H' s' → L2.RelV v u → Q v H' → CE fr P w H s Q u s' :=
    fun {σ' H' v u} J rv q => ⟨v, H', J.os, J.bare, J.base, J.hok, rv, q⟩
  cases fl with
  | ret u =>
    obtain ⟨v, σ', H', J, rv, q⟩ := hs
    exact fin J rv q
  | next =>
    obtain ⟨σ', H', J, q⟩ := hs
    exact fin (v := V.non) (u := Value.none) J rfl q
  | brk =>
    obtain ⟨_, _, _, q⟩ := hs
    exact False.elim q
  | cont =>
    obtain ⟨_, _, _, q⟩ := hs
    exact False.elim q
theorem cla_super {c : Nat} (U : Sup P K name qual st f cc cda Dc (G.ca c) f2) (SC : NScope N ps ["__class__"] (defScope st)) (cK : G.K = K) (B : BodyS P w K mg base G k f cc cda N name qual st ms)
    (hb : ∀ (kV doc pm : Value) (an : Option Addr) (ct : Value) (us : List Value), us.length = ps.length → bindArgs (fnX name qual (defArgs st) (defBody st) (defScope st) [("__class__", cc)] .none kV doc pm an (.ref cda) ct) ⟨us, []⟩ = pure (ps.zip us))
    (M : Mk K (G.ca c) f) {m n : Nat} (em : ps.length = m) (en : N.length = n) (hmn : m ≤ n) : ClA P w K mg base G (k + 2) c (mkFn c m n ms) := by
  refine ⟨f, M, fun A fr s H us vs Q E hr e0 r h => ?_⟩
  obtain ⟨a, dx, vs, H, Q, rfl, rfl, ha, hdx, ne, rfl, wd, ds, S, eH, rs, rv, q⟩ := h
  subst em en eH
  obtain ⟨w1, e1, ex, s1, nF, nm⟩ := made (C := G.ca c) rs ha hdx ne
  unfold mkFn at q
  split at q
  · next e =>
    have hl : (V.ref a :: vs).length = ps.length := by rw [List.length_cons, ← rv.length]; exact e
    refine fns_super U SC cK B (us := us) (fun kV doc pm an ct => hb kV doc pm an ct us (r.length.symm.trans hl)) hr e0 r ⟨hl, ?_⟩
    rw [← e1]
    exact fin_mk ex s1 (RepVs.mono ex rs.dj _ _ rv) (by omega) (by rw [e1, upd_same]) nF nm ha q
  · exact q.elim
theorem clk_super {c m : Nat} {ks : List Str} {ix : List Nat} (U : Sup P K name qual st f cc cda Dc (G.ca c) f2) (SC : NScope N ps ["__class__"] (defScope st)) (cK : G.K = K) (B : BodyS P w K mg base G k f cc cda N name qual st ms)
    (hb : ∀ (kV doc pm : Value) (an : Option Addr) (ct : Value) (us ws : List Value), us.length = m + 1 → ws.length = ks.length → bindArgs (fnX name qual (defArgs st) (defBody st) (defScope st) [("__class__", cc)] .none kV doc pm an (.ref cda) ct) ⟨us, ks.zip ws⟩ = pure (ps.zip (perm (0 :: ix.map (· + 1)) (us ++ ws))))
    (M : Mk K (G.ca c) f) {a n : Nat} (em : ps.length = a) (en : N.length = n) (hmn : a ≤ n) : ClK P w K mg base G (k + 2) c m ks (fun ds => mkFn c a n ms (perm ix ds)) := by
  refine ⟨f, M, fun A fr s H us ws vs zs Q E hr e0 r r2 l1 l2 h => ?_⟩
  obtain ⟨b, dx, vs', H, Q, e, rfl, ha, hdx, ne, rfl, wd, ds, S, eH, rs, rv, q⟩ := h
  subst em en eH
  have key : perm (0 :: ix.map (· + 1)) (vs ++ zs) = V.ref b :: perm ix vs' := by rw [e, perm_self]
  obtain ⟨w1, e1, ex, s1, nF, nm⟩ := made (C := G.ca c) rs ha hdx ne
  have rp := reps_perm rv ix
  have q : FinG G (RepV G) E wd Q (mkFn c ps.length N.length ms (perm ix ds) S) := q
  unfold mkFn at q
  split at q
  · next el =>
    refine fns_super U SC cK B (us := perm (0 :: ix.map (· + 1)) (us ++ ws)) (fun kV doc pm an ct => hb kV doc pm an ct us ws (r.length.symm.trans l1) (r2.length.symm.trans l2)) hr e0 (vals_perm (r.append r2) _) ⟨?_, ?_⟩
    · rw [key, List.length_cons, ← rp.length]
      exact el
    · rw [key, ← e1]
      exact fin_mk ex s1 (RepVs.mono ex rs.dj _ _ rp) (by omega) (by rw [e1, upd_same]) nF nm ha q
  · exact q.elim
end
end Ev
set_option maxRecDepth 100000
set_option maxHeartbeats 2000000
namespace Ev
open PySem L2
@[irreducible] def Bd (k : Nat) (x : Int) : Prop := x.natAbs < 2 ^ k
theorem Bd.nat {k : Nat} {x : Int} (h : Bd k x) : x.natAbs < 2 ^ k := by
  unfold Bd at h
  exact h
theorem Bd.mk {k : Nat} {x : Int} (h : x.natAbs < 2 ^ k) : Bd k x := by
  unfold Bd
  exact h
theorem Bd.mono {j k : Nat} {x : Int} (h : Bd j x) (l : j ≤ k) : Bd k x := .mk (Nat.lt_of_lt_of_le h.nat (Nat.pow_le_pow_right (by decide) l))
theorem Bd.mul {j k : Nat} {x y : Int} (h : Bd j x) (l : Bd k y) : Bd (j + k) (x * y) := by
  unfold Bd at *
  rw [Int.natAbs_mul, Nat.pow_add]
  have p : 0 < 2 ^ k := Nat.pow_pos (by decide)
  calc x.natAbs * y.natAbs ≤ x.natAbs * 2 ^ k := Nat.mul_le_mul_left _ (Nat.le_of_lt l)
    _ < 2 ^ j * 2 ^ k := Nat.mul_lt_mul_of_pos_right h p
theorem Bd.add {j k : Nat} {x y : Int} (h : Bd j x) (l : Bd k y) : Bd (j + k + 1) (x + y) := by
  have a := Bd.mono h (show j ≤ j + k by omega)
  have b := Bd.mono l (show k ≤ j + k by omega)
  unfold Bd at *
  rw [Nat.pow_succ]
  omega
theorem Bd.sub {j k : Nat} {x y : Int} (h : Bd j x) (l : Bd k y) : Bd (j + k + 1) (x - y) := by
  have a := Bd.mono h (show j ≤ j + k by omega)
  have b := Bd.mono l (show k ≤ j + k by omega)
  unfold Bd at *
  rw [Nat.pow_succ]
  omega
theorem Bd.neg {j : Nat} {x : Int} (h : Bd j x) : Bd j (-x) := by
  unfold Bd at *
  omega
theorem Bd.of64 {x : Int} (h : -18446744073709551616 < x) (l : x < 18446744073709551616) : Bd 64 x := by
  unfold Bd
  omega
theorem Bd.of128 {x : Int} (h : -340282366920938463463374607431768211456 < x) (l : x < 340282366920938463463374607431768211456) : Bd 128 x := by
  unfold Bd
  omega
theorem Bd.ediv {j : Nat} {x y : Int} (h : Bd j x) : Bd j (x / y) := by
  unfold Bd at *
  have := Int.natAbs_ediv_le_natAbs x y
  omega
theorem Bd.emod {j : Nat} {x y : Int} (h : Bd j y) (p : 0 < y) : Bd j (x % y) := by
  unfold Bd at *
  have a := Int.emod_nonneg x (show y ≠ 0 by omega)
  have b := Int.emod_lt_of_pos x p
  omega
theorem Bd.of_le {j : Nat} {x y : Int} (h : Bd j y) (p : 0 ≤ x) (l : x ≤ y) : Bd j x := by
  unfold Bd at *
  omega
theorem Bd.abs {j : Nat} {x : Int} (h : Bd j x) : Bd j (x.natAbs : Int) := by
  unfold Bd at *
  omega
theorem bd_bits {k : Nat} {x : Int} (h : PySem.Builtin.Int.intBits x ≤ k) : Bd k x := by
  unfold Bd
  unfold PySem.Builtin.Int.intBits at h
  by_cases z : x = 0
  · subst z
    exact Nat.pow_pos (by decide)
  · have e : (x == 0) = false := by simpa using z
    rw [e] at h
    simp only [Bool.false_eq_true, if_false] at h
    exact (Nat.log2_lt (by omega)).mp (by omega)
theorem mulOk_bd {j k : Nat} {x y : Int} (h : Bd j x) (l : Bd k y) (c : j + k ≤ 134217728) : mulOk x y = true := mulOk_by h.nat l.nat c
theorem divOk_bd {j : Nat} {x : Int} (p : 0 < x) (h : Bd j x) (c : j ≤ 9000) : divOk x = true := by
  unfold divOk
  rw [Bool.and_eq_true]
  refine ⟨decide_eq_true p, decide_eq_true ?_⟩
  have := (Nat.log2_lt (by omega)).mpr h.nat
  omega
@[irreducible] def Wp {α : Type} (f : M α) (S : List Ob) (P : α → List Ob → Prop) : Prop := Run f S P
@[irreducible] def Ws (f : MS) (sd : List SV) (S : List Ob) (N : List SV → List Ob → Prop) (R : D → List Ob → Prop) (B C : List SV → List Ob → Prop) : Prop := RunS f sd S N R B C
theorem wp_run {α : Type} {f : M α} {S : List Ob} {P : α → List Ob → Prop} : Wp f S P ↔ Run f S P := by unfold Wp; exact Iff.rfl
theorem ws_run {f : MS} {sd : List SV} {S : List Ob} {N : List SV → List Ob → Prop} {R : D → List Ob → Prop} {B C : List SV → List Ob → Prop} : Ws f sd S N R B C ↔ RunS f sd S N R B C := by unfold Ws; exact Iff.rfl
theorem Wp.run {α : Type} {f : M α} {S : List Ob} {P : α → List Ob → Prop} (h : Wp f S P) : Run f S P := wp_run.mp h
theorem Run.wp {α : Type} {f : M α} {S : List Ob} {P : α → List Ob → Prop} (h : Run f S P) : Wp f S P := wp_run.mpr h
theorem Ws.run {f : MS} {sd : List SV} {S : List Ob} {N : List SV → List Ob → Prop} {R : D → List Ob → Prop} {B C : List SV → List Ob → Prop} (h : Ws f sd S N R B C) : RunS f sd S N R B C := ws_run.mp h
theorem RunS.ws {f : MS} {sd : List SV} {S : List Ob} {N : List SV → List Ob → Prop} {R : D → List Ob → Prop} {B C : List SV → List Ob → Prop} (h : RunS f sd S N R B C) : Ws f sd S N R B C := ws_run.mpr h
theorem Wp.mono {α : Type} {f : M α} {S : List Ob} {P P' : α → List Ob → Prop} (h : Wp f S P) (i : ∀ a S', P a S' → P' a S') : Wp f S P' := (h.run.mono i).wp
theorem Ws.mono {m : MS} {sd : List SV} {S : List Ob} {N N' : List SV → List Ob → Prop} {R R' : D → List Ob → Prop} {B B' C C' : List SV → List Ob → Prop} (h : Ws m sd S N R B C) (hN : ∀ sd S, N sd S → N' sd S) (hR : ∀ d S, R d S → R' d S) (hB : ∀ sd S, B sd S → B' sd S) (hC : ∀ sd S, C sd S → C' sd S) : Ws m sd S N' R' B' C' := (h.run.mono hN hR hB hC).ws
theorem Wp.ex {α : Type} {f : M α} {S : List Ob} {P : α → List Ob → Prop} (h : Wp f S P) : ∃ a S', f S = some (.ok a, S') ∧ P a S' := h.run.ex
theorem pure_wp {α : Type} {f : M α} {r : α} (h : ∀ S, Wp f S fun d S' => d = r ∧ S' = S) : f = M.pure r := pure_of fun S => (h S).run
section
variable {α β : Type} {f : M α} {S : List Ob} {P : α → List Ob → Prop} {PD : D → List Ob → Prop} {sd : List SV} {N : List SV → List Ob → Prop} {R : D → List Ob → Prop} {B C : List SV → List Ob → Prop} {m1 m2 : MS}
theorem go_bind {k : α → M β} {Q : β → List Ob → Prop} (h : Wp f S fun a S' => Wp (k a) S' Q) : Wp (M.bind f k) S Q := wp_run.mpr (run_bind.mpr (h.run.mono fun _ _ h => h.run))
theorem go_pure {a : α} (h : P a S) : Wp (M.pure a) S P := wp_run.mpr h
theorem go_get {i : Nat} {d : D} (e : sd[i]? = some (.val d)) (h : PD d S) : Wp (getv i sd) S PD := by rw [getv_val e]; exact wp_run.mpr h
theorem go_ite {c : Prop} [Decidable c] {g : M α} (h : if c then Wp f S P else Wp g S P) : Wp (if c then f else g) S P := by split <;> rename_i c' <;> simpa only [c', if_true, if_false] using h
theorem go_noErr (h : Wp f S P) : Wp (noErr f) S P := wp_run.mpr (run_noErr.mpr h.run)
theorem go_eq {g : M α} (e : f = g) (h : Wp g S P) : Wp f S P := e ▸ h
theorem go_val {r : α} (e : f = M.pure r) (h : P r S) : Wp f S P := by subst e; exact wp_run.mpr h
theorem go_use {P' : α → List Ob → Prop} (h : Wp f S P') (i : ∀ a S', P' a S' → P a S') : Wp f S P := h.mono i
theorem gs_next (h : N sd S) : Ws nextS sd S N R B C := ws_run.mpr h
theorem gs_seq (h : Ws m1 sd S (fun sd' S' => Ws m2 sd' S' N R B C) R B C) : Ws (seqS m1 m2) sd S N R B C := ws_run.mpr (runS_seq.mpr (h.run.mono (fun _ _ h => h.run) (fun _ _ h => h) (fun _ _ h => h) (fun _ _ h => h)))
theorem gs_ret {g : List SV → M D} (h : Wp (g sd) S R) : Ws (retS g) sd S N R B C := ws_run.mpr (runS_ret.mpr h.run)
theorem gs_retN (h : R .non S) : Ws (fun _ S => some (.ret .non, S)) sd S N R B C := ws_run.mpr h
theorem gs_brk (h : B sd S) : Ws (fun sd S => some (.brk sd, S)) sd S N R B C := ws_run.mpr h
theorem gs_cont (h : C sd S) : Ws (fun sd S => some (.cont sd, S)) sd S N R B C := ws_run.mpr h
theorem gs_asg {g : List SV → M D} {i : Nat} (h : Wp (g sd) S fun d S' => N (sd.set i (.val d)) S') : Ws (asgS g (setT i)) sd S N R B C := ws_run.mpr (runS_asg.mpr h.run)
theorem gs_tgt {g : List SV → M D} {t : Tgt} (h : Wp (g sd) S fun d S' => match t d sd S' with | some (sd2, S2) => N sd2 S2 | none => False) : Ws (asgS g t) sd S N R B C := ws_run.mpr (runS_tgt.mpr h.run)
theorem gs_par {g : List SV → M (List D)} {i j : Nat} (h : Wp (g sd) S fun ds S' => match ds with | [a, b] => N ((sd.set i (.val a)).set j (.val b)) S' | _ => False) : Ws (parS i j g) sd S N R B C := ws_run.mpr (runS_par.mpr h.run)
theorem gs_if {g : List SV → M Bool} (h : Wp (g sd) S fun k S' => if k = true then Ws m1 sd S' N R B C else Ws m2 sd S' N R B C) : Ws (exS g fun k => if k = true then m1 else m2) sd S N R B C := ws_run.mpr (runS_if.mpr (h.run.mono fun k _ h => by cases k <;> exact Ws.run h))
theorem gs_own {g : List SV → M (List D)} {i : Nat} (h : Wp (g sd) S fun ds S' => N (sd.set i (.own (.lst ds))) S') : Ws (ownS i g) sd S N R B C := ws_run.mpr (runS_own.mpr h.run)
theorem gs_for {g : List SV → M (List D)} {t : Tgt} {body : MS} (h : Wp (g sd) S fun ds S' => Ws (loopS t body ds) sd S' N R B C) : Ws (forS g t body) sd S N R B C := ws_run.mpr (runS_for.mpr (h.run.mono fun _ _ h => h.run))
theorem gs_expr {g : List SV → M α} (h : Wp (g sd) S fun _ S' => N sd S') : Ws (exS g fun _ => nextS) sd S N R B C := by
  refine ws_run.mpr ?_
  rw [runS_ex]
  exact h.run
theorem gs_app {g : List SV → M D} {i : Nat} {ds : List D} (e : sd[i]? = some (.own (.lst ds))) (l : ds.length < lim) (h : Wp (g sd) S fun d S' => N (sd.set i (.own (.lst (ds ++ [d])))) S') : Ws (appS i g) sd S N R B C := by
  have z : appS i g sd S = exS g (fun d sd S => some (.next (sd.set i (.own (.lst (ds ++ [d])))), S)) sd S := by
    unfold appS
    rw [e]
    simp only [l, if_true]
  refine ws_run.mpr ?_
  unfold RunS
  rw [z]
  exact (runS_ex (k := fun d sd S => some (.next (sd.set i (.own (.lst (ds ++ [d])))), S))).mpr h.run
theorem gs_frz {i : Nat} {o : Ob} (e : sd[i]? = some (.own o)) (h : N (sd.set i (.val (frzO o))) S) : Ws (frzS i) sd S N R B C := by
  refine ws_run.mpr ?_
  unfold RunS frzS
  rw [e]
  exact h
theorem go_fn {m n : Nat} {ms : MS} {ds : List D} (l : ds.length = m) (h : Ws ms (slots n (ds.map .val)) S (fun _ S' => PD .non S') PD (fun _ _ => False) (fun _ _ => False)) : Wp (runFn m n ms ds) S PD := wp_run.mpr (run_fn.mpr ⟨l, h.run⟩)
theorem gs_loop {t : Tgt} {body : MS} (J : List D → List SV → List Ob → Prop) (step : ∀ d ds sd S, J (d :: ds) sd S → ∃ sd1 S1, t d sd S = some (sd1, S1) ∧ Ws body sd1 S1 (fun sd2 S2 => J ds sd2 S2) R (fun sd2 S2 => N sd2 S2) (fun sd2 S2 => J ds sd2 S2))
    (fin : ∀ sd S, J [] sd S → N sd S) (ds : List D) (sd : List SV) (S : List Ob) (h : J ds sd S) : Ws (loopS t body ds) sd S N R B C :=
  ws_run.mpr (loop_rule J (fun d ds sd S h => let ⟨a, b, c, e⟩ := step d ds sd S h; ⟨a, b, c, e.run⟩) fin ds sd S h)
theorem gs_iter {c : List SV → M Bool} {body : MS} (J : Nat → List SV → List Ob → Prop) (step : ∀ n sd S, J n sd S → Wp (c sd) S fun b S1 => if b = true then Ws body sd S1 (fun sd2 S2 => ∃ n', n' < n ∧ J n' sd2 S2) R N (fun sd2 S2 => ∃ n', n' < n ∧ J n' sd2 S2) else N sd S1)
    (n : Nat) (sd : List SV) (S : List Ob) (l : n < bigW) (h : J n sd S) : Ws (whileS c body) sd S N R B C :=
  ws_run.mpr (iter_rule J (fun n sd S h => (step n sd S h).run.mono fun b _ h => by cases b <;> first | exact h | exact Ws.run h) bigW n sd S l h)
theorem ite_d {p : Prop} [Decidable p] {X Y : Prop} (h : p → X) (l : ¬p → Y) : if decide p = true then X else Y := by
  by_cases c : p
  · rw [if_pos (decide_eq_true c)]; exact h c
  · rw [if_neg (by simpa using c)]; exact l c
theorem ite_dt {p : Prop} [Decidable p] {X Y : Prop} (c : p) (h : X) : if decide p = true then X else Y := by
  rw [if_pos (decide_eq_true c)]; exact h
theorem ite_df {p : Prop} [Decidable p] {X Y : Prop} (c : ¬p) (h : Y) : if decide p = true then X else Y := by
  rw [if_neg (by simpa using c)]; exact h
theorem ite_b {b : Bool} {X Y : Prop} (h : b = true → X) (l : b = false → Y) : if b = true then X else Y := by
  cases b with
  | true => exact h rfl
  | false => exact l rfl
theorem ite_t {X Y : Prop} (h : X) : if true = true then X else Y := h
theorem ite_f {X Y : Prop} (h : Y) : if false = true then X else Y := h
theorem ite_n {b : Bool} {X Y : Prop} (h : if b = true then Y else X) : if (!b) = true then X else Y := by
  cases b <;> exact h
theorem p_toB {b : Bool} {P : Bool → List Ob → Prop} (h : P b S) : Wp (toB (.bl b)) S P := wp_run.mpr h
theorem p_toI {i : Int} {P : Option Int → List Ob → Prop} (h : P (some i) S) : Wp (toI (.int i)) S P := wp_run.mpr h
theorem p_on1 {g : D → M D} {d : D} (h : Wp (g d) S PD) : Wp (on1 g [d]) S PD := h
theorem p_on2 {g : D → D → M D} {d e : D} (h : Wp (g d e) S PD) : Wp (on2 g [d, e]) S PD := h
theorem p_add {i j : Int} (h : PD (.int (i + j)) S) : Wp (dAdd (.int i) (.int j)) S PD := wp_run.mpr h
theorem p_sub {i j : Int} (h : PD (.int (i - j)) S) : Wp (dSub (.int i) (.int j)) S PD := wp_run.mpr h
theorem p_neg {i : Int} (h : PD (.int (-i)) S) : Wp (dNeg (.int i)) S PD := wp_run.mpr h
theorem p_abs {i : Int} (h : PD (.int (i.natAbs : Int)) S) : Wp (dAbs (.int i)) S PD := by
  have e : (if i < 0 then -i else i) = (i.natAbs : Int) := by split <;> omega
  refine wp_run.mpr ?_
  show PD (.int (if i < 0 then -i else i)) S
  rw [e]
  exact h
theorem p_mul {j k : Nat} {x y : Int} (hx : Bd j x) (hy : Bd k y) (c : j + k ≤ 134217728) (h : PD (.int (x * y)) S) : Wp (dMul (.int x) (.int y)) S PD := by
  rw [mul_int (mulOk_bd hx hy c)]
  exact wp_run.mpr h
theorem p_div {k : Nat} {x y : Int} (p : 0 < y) (hy : Bd k y) (c : k ≤ 9000) (h : PD (.int (x / y)) S) : Wp (dFdiv (.int x) (.int y)) S PD := by
  rw [fdiv_int (divOk_bd p hy c)]
  exact wp_run.mpr h
theorem p_mod {x y : Int} (p : 0 < y) (h : PD (.int (x % y)) S) : Wp (dMod (.int x) (.int y)) S PD := by
  rw [mod_int p]
  exact wp_run.mpr h
theorem p_cmp {p : Int → Int → Bool} {i j : Int} (h : PD (.bl (p i j)) S) : Wp (dCmpI p (.int i) (.int j)) S PD := wp_run.mpr h
theorem p_int {i : Int} (h : PD (.int i) S) : Wp (dInt (.int i)) S PD := wp_run.mpr h
theorem p_bool {b : Bool} (h : PD (.bl b) S) : Wp (M.pure (.bl b)) S PD := wp_run.mpr h
theorem p_ixT {ds : List D} {i : Int} {d : D} (e : L2.atI ds i = some d) (h : PD d S) : Wp (dIx (.tup ds) (.int i)) S PD := by
  rw [ix_tup e]
  exact wp_run.mpr h
theorem p_ixL {ds : List D} {i : Int} {d : D} (e : L2.atI ds i = some d) (h : PD d S) : Wp (dIx (.lst ds) (.int i)) S PD := by
  rw [ix_lst e]
  exact wp_run.mpr h
theorem p_lenT {ds : List D} (h : PD (.int ds.length) S) : Wp (dLen (.tup ds)) S PD := wp_run.mpr h
theorem p_lenL {ds : List D} (h : PD (.int ds.length) S) : Wp (dLen (.lst ds)) S PD := wp_run.mpr h
theorem p_lenS {ds : List D} (h : PD (.int ds.length) S) : Wp (dLen (.scr ds)) S PD := wp_run.mpr h
theorem p_isN (h : PD (.bl true) S) : Wp (dIs false .non .non) S PD := wp_run.mpr h
theorem p_isntN (h : PD (.bl false) S) : Wp (dIs true .non .non) S PD := wp_run.mpr h
theorem p_eqI {i j : Int} (h : PD (.bl (decide (i = j))) S) : Wp (dEq false (.int i) (.int j)) S PD := wp_run.mpr h
theorem p_neI {i j : Int} (h : PD (.bl (!decide (i = j))) S) : Wp (dEq true (.int i) (.int j)) S PD := wp_run.mpr h
theorem p_eqS {x y : Str} (h : PD (.bl (decide (x = y))) S) : Wp (dEq false (.str x) (.str y)) S PD := wp_run.mpr h
theorem p_neS {x y : Str} (h : PD (.bl (!decide (x = y))) S) : Wp (dEq true (.str x) (.str y)) S PD := wp_run.mpr h
theorem p_seqT {ds : List D} {P : List D → List Ob → Prop} (h : P ds S) : Wp (seqOf (.tup ds)) S P := wp_run.mpr h
theorem p_seqL {ds : List D} {P : List D → List Ob → Prop} (h : P ds S) : Wp (seqOf (.lst ds)) S P := wp_run.mpr h
theorem p_ref {o : Ob} (h : PD (.ref S.length) (S ++ [o])) : Wp (newRef o) S PD := wp_run.mpr h
end
section
variable {S : List Ob} {PD : D → List Ob → Prop} {PL : List D → List Ob → Prop}
theorem p_min {i j : Int} (h : PD (.int (if j < i then j else i)) S) : Wp (dMin (.int i) (.int j)) S PD := wp_run.mpr h
theorem p_max {i j : Int} (h : PD (.int (if j > i then j else i)) S) : Wp (dMax (.int i) (.int j)) S PD := wp_run.mpr h
theorem p_rng1 {i : Int} (l : -4611686018427387904 ≤ i) (u : i < 4611686018427387904) (h : PL (rngD 0 i.toNat) S) : Wp (rng1 [.int i]) S PL := by
  refine wp_run.mpr ?_
  show Run (if -(2 ^ 62) ≤ i ∧ i < 2 ^ 62 then M.pure (rngD 0 i.toNat) else M.stuck) S PL
  rw [if_pos ⟨by omega, by omega⟩]
  exact h
theorem p_rng2 {i j : Int} (l : -4611686018427387904 ≤ i) (u : i < 4611686018427387904) (l2 : -4611686018427387904 ≤ j) (u2 : j < 4611686018427387904) (h : PL (rngD i (j - i).toNat) S) : Wp (rng2 [.int i, .int j]) S PL := by
  refine wp_run.mpr ?_
  show Run (if (-(2 ^ 62) ≤ i ∧ i < 2 ^ 62) ∧ -(2 ^ 62) ≤ j ∧ j < 2 ^ 62 then M.pure (rngD i (j - i).toNat) else M.stuck) S PL
  rw [if_pos ⟨⟨by omega, by omega⟩, by omega, by omega⟩]
  exact h
theorem rng_mem {lo : Int} {n : Nat} {d : D} (h : d ∈ rngD lo n) : ∃ i : Int, d = .int i ∧ lo ≤ i ∧ i < lo + n := by
  obtain ⟨m, hm, rfl⟩ := List.mem_map.mp h
  have := List.mem_range.mp hm
  exact ⟨_, rfl, by omega, by omega⟩
theorem rng_len {lo : Int} {n : Nat} : (rngD lo n).length = n := by
  unfold rngD
  rw [List.length_map, List.length_range]
theorem rng_cons {lo : Int} {n : Nat} : rngD lo (n + 1) = .int lo :: rngD (lo + 1) n := by
  unfold rngD
  rw [List.range_succ_eq_map, List.map_cons, List.map_map]
  congr 1
  · simp
  · refine List.map_congr_left fun i _ => ?_
    show D.int (lo + ((i + 1 : Nat) : Int)) = _
    congr 1
    omega
end
theorem go_lc {fi : List SV → M (List D)} {vs : List Nat} {t : TgP} {tt : List SV → M Bool} {fe : List SV → M D} {sd : List SV} {S : List Ob} {P : D → List Ob → Prop}
    (h : Wp (fi sd) S fun ds S' => Wp (compS t tt fe (wipeD sd vs) ds []) S' fun acc S2 => P (.lst acc) S2) : Wp (lcS fi vs t tt fe sd) S P :=
  go_bind (h.mono fun _ _ h => go_bind (h.mono fun _ _ h => go_pure h))
theorem go_comp {t : TgP} {tt : List SV → M Bool} {fe : List SV → M D} {sdw : List SV} {P : List D → List Ob → Prop} (J : List D → List D → List Ob → Prop)
    (step : ∀ d ds acc S, J (d :: ds) acc S → ∃ sd1, t d sdw = some sd1 ∧ acc.length < lim ∧ Wp (tt sd1) S fun b S1 => if b = true then Wp (fe sd1) S1 fun y S2 => J ds (acc ++ [y]) S2 else J ds acc S1)
    (fin : ∀ acc S, J [] acc S → P acc S) : ∀ ds acc S, J ds acc S → Wp (compS t tt fe sdw ds acc) S P
  | [], acc, S, h => go_pure (fin acc S h)
  | d :: ds, acc, S, h => by
    obtain ⟨sd1, e, l, hb⟩ := step d ds acc S h
    unfold compS
    rw [e]
    refine go_bind (go_noErr (hb.mono fun b S1 hc => ?_))
    cases b with
    | false => exact go_comp J step fin ds acc S1 hc
    | true =>
      refine go_bind (go_noErr (Wp.mono hc fun y S2 hy => ?_))
      rw [if_pos l]
      exact go_comp J step fin ds _ S2 hy
theorem all_true {acc : List D} (h : ∀ a ∈ acc, a = .bl true) : dAll (.lst acc) = M.pure (.bl true) := by
  have : ∀ acc : List D, (∀ a ∈ acc, a = .bl true) → ∃ bs, bls acc = some bs ∧ bs.all id = true := by
    intro acc
    induction acc with
    | nil => exact fun _ => ⟨[], rfl, rfl⟩
    | cons a acc ih =>
      intro h
      obtain ⟨bs, e1, e2⟩ := ih fun x hx => h x (List.mem_cons_of_mem _ hx)
      have ea := h a List.mem_cons_self
      subst ea
      refine ⟨true :: bs, ?_, ?_⟩
      · unfold bls
        rw [e1]
        rfl
      · rw [List.all_cons, e2]
        rfl
  obtain ⟨bs, e1, e2⟩ := this acc h
  unfold dAll
  simp only [e1, e2]
theorem all_spots {t : TgP} {fe : List SV → M D} {sdw : List SV} {n : Nat} (hn : n ≤ 100) (S : List Ob)
    (step : ∀ i : Int, 0 ≤ i → i < 100 → ∀ S, ∃ sd1, t (.int i) sdw = some sd1 ∧ Wp (fe sd1) S fun y _ => y = .bl true) :
    Wp (compS t (fun _ => M.pure true) fe sdw (rngD 0 n) []) S fun acc _ => dAll (.lst acc) = M.pure (.bl true) := by
  refine go_comp (J := fun ds acc _ => (∀ d ∈ ds, ∃ i : Int, d = .int i ∧ 0 ≤ i ∧ i < 100) ∧ (∀ a ∈ acc, a = .bl true) ∧ acc.length + ds.length ≤ 100) ?_ ?_ _ _ _ ?_
  · rintro d ds acc S ⟨hd, ha, hl⟩
    obtain ⟨i, rfl, h0, h1⟩ := hd d List.mem_cons_self
    obtain ⟨sd1, e, hw⟩ := step i h0 h1 S
    rw [List.length_cons] at hl
    refine ⟨sd1, e, by unfold lim; omega, go_pure (ite_t (hw.mono fun y S2 hy => ⟨fun d hd' => hd d (List.mem_cons_of_mem _ hd'), fun a ha' => ?_, ?_⟩))⟩
    · rcases List.mem_append.mp ha' with h | h
      · exact ha a h
      · rw [List.mem_singleton.mp h, hy]
    · rw [List.length_append, List.length_singleton]; omega
  · rintro acc S ⟨_, ha, _⟩
    exact all_true ha
  · refine ⟨fun d hd => ?_, fun a ha => absurd ha List.not_mem_nil, ?_⟩
    · obtain ⟨i, e, h0, h1⟩ := rng_mem hd
      exact ⟨i, e, h0, by omega⟩
    · rw [rng_len, List.length_nil]; omega
end Ev
local macro_rules | `(tactic| regstrif_fact) => `(tactic| first
  | assumption
  | ((with_reducible show Ev.Bd _ (_ * _)); refine Ev.Bd.mul (by regstrif_fact) (by regstrif_fact))
  | ((with_reducible show Ev.Bd _ (_ + _)); refine Ev.Bd.add (by regstrif_fact) (by regstrif_fact))
  | ((with_reducible show Ev.Bd _ (_ - _)); refine Ev.Bd.sub (by regstrif_fact) (by regstrif_fact))
  | ((with_reducible show Ev.Bd _ (-_)); refine Ev.Bd.neg (by regstrif_fact))
  | ((with_reducible show Ev.Bd _ (Int.natAbs _ : Int)); refine Ev.Bd.abs (by regstrif_fact))
  | ((with_reducible show Ev.Bd _ (_ % _)); refine Ev.Bd.emod (by regstrif_fact) (by first | assumption | omega))
  | ((with_reducible show Ev.Bd _ (_ / _)); refine Ev.Bd.ediv (by regstrif_fact))
  | exact Ev.Bd.of64 (by omega) (by omega)
  | exact Ev.Bd.of128 (by omega) (by omega))
local macro_rules | `(tactic| regstrif_gather) => `(tactic| first
  | with_reducible refine Ev.go_bind ?_
  | with_reducible refine Ev.go_pure ?_
  | ((with_reducible show Ev.Wp (Ev.getv _ _) _ _); refine Ev.go_get (by exact rfl) ?_)
  | with_reducible (first
    | refine Ev.gs_seq ?_ | refine Ev.gs_next ?_ | refine Ev.gs_asg ?_ | refine Ev.gs_if ?_ | refine Ev.gs_ret ?_ | refine Ev.gs_for ?_ | refine Ev.gs_par ?_ | refine Ev.gs_own ?_ | refine Ev.gs_expr ?_
    | refine Ev.p_toB ?_ | refine Ev.p_on1 ?_ | refine Ev.p_on2 ?_ | refine Ev.p_cmp ?_ | refine Ev.p_add ?_ | refine Ev.p_sub ?_
    | refine Ev.go_lc ?_ | refine Ev.go_ite ?_ | refine Ev.go_noErr ?_ | refine Ev.ite_t ?_ | refine Ev.ite_f ?_ | refine Ev.ite_n ?_
    | refine Ev.p_eqI ?_ | refine Ev.p_neI ?_ | refine Ev.p_eqS ?_ | refine Ev.p_neS ?_
    | refine Ev.p_neg ?_ | refine Ev.p_abs ?_ | refine Ev.p_int ?_ | refine Ev.p_toI ?_
    | refine Ev.p_lenT ?_ | refine Ev.p_lenL ?_ | refine Ev.p_lenS ?_ | refine Ev.p_isN ?_ | refine Ev.p_isntN ?_ | refine Ev.p_seqT ?_ | refine Ev.p_seqL ?_
    | refine Ev.p_min ?_ | refine Ev.p_max ?_ | refine Ev.p_ref ?_ | refine Ev.gs_retN ?_ | refine Ev.gs_brk ?_ | refine Ev.gs_cont ?_)
  | ((with_reducible refine Ev.p_mod ?_ ?_); (· first | assumption | omega))
  | ((with_reducible show Ev.Wp (Ev.dMul (.int _) (.int _)) _ _); refine Ev.p_mul (by regstrif_fact) (by regstrif_fact) (by first | decide | omega) ?_)
  | ((with_reducible show Ev.Wp (Ev.dFdiv (.int _) (.int _)) _ _); refine Ev.p_div (by first | assumption | omega) (by regstrif_fact) (by first | decide | omega) ?_)
  | ((with_reducible show Ev.Wp (Ev.dIx (.tup _) (.int _)) _ _); refine Ev.p_ixT (by exact rfl) ?_)
  | ((with_reducible show Ev.Wp (Ev.dIx (.lst _) (.int _)) _ _); refine Ev.p_ixL (by exact rfl) ?_)
  | ((with_reducible show Ev.Ws (Ev.appS _ _) _ _ _ _ _ _); refine Ev.gs_app (by exact rfl) (by first | decide | omega) ?_)
  | ((with_reducible show Ev.Ws (Ev.frzS _) _ _ _ _ _ _); refine Ev.gs_frz (by exact rfl) ?_)
  | ((with_reducible refine Ev.p_rng1 ?_ ?_ ?_); (· omega); (· omega))
  | ((with_reducible refine Ev.p_rng2 ?_ ?_ ?_ ?_ ?_); (· omega); (· omega); (· omega); (· omega))
  | ((with_reducible refine Ev.ite_dt ?_ ?_); (· first | assumption | omega))
  | ((with_reducible refine Ev.ite_df ?_ ?_); (· first | assumption | omega))
  | regstrif_slice
  | with_reducible refine Ev.gs_tgt ?_)
local macro_rules | `(tactic| regstrif_slice) => `(tactic| fail "no step is ev_known")
set_option maxRecDepth 100000
set_option maxHeartbeats 2000000
namespace Ev
open PySem L2
@[irreducible] def Shw (k n : Nat) (d : D) : Prop := ∃ p, toP d = some p ∧ p.showable = true ∧ p.canLay0 = true ∧ p.depth ≤ k ∧ p.shown.length ≤ n
@[irreducible] def ShwL (k n : Nat) (ds : List D) : Prop := ∃ ps, toPs ds = some ps ∧ PyData.showableAll ps = true ∧ PyData.canLayAll0 ps = true ∧ PyData.depthAll ps ≤ k ∧ ((PyData.shownAll ps).map (·.length)).sum + 2 * ps.length ≤ n
theorem Shw.mono {k n k' n' : Nat} {d : D} (h : Shw k n d) (hk : k ≤ k') (hn : n ≤ n') : Shw k' n' d := by
  unfold Shw at *
  obtain ⟨p, a, b, c, e, f⟩ := h
  exact ⟨p, a, b, c, by omega, by omega⟩
theorem shw_non : Shw 0 5 .non := by
  unfold Shw
  exact ⟨_, rfl, rfl, rfl, Nat.le_refl _, by decide⟩
theorem shw_bl (b : Bool) : Shw 0 5 (.bl b) := by
  unfold Shw
  exact ⟨_, rfl, rfl, rfl, Nat.le_refl _, by cases b <;> decide⟩
theorem shw_int {j : Nat} {i : Int} (h : Bd j i) (l : j ≤ 1920) : Shw 0 1921 (.int i) := by
  have a := (h.mono l).nat
  have b : i.natAbs.log2 < 1920 := by
    by_cases z : i.natAbs = 0
    · rw [z]
      decide +kernel
    · exact (Nat.log2_lt z).mpr a
  have c := PyProof.Rows.int_text_len_1921 b
  unfold Shw
  refine ⟨_, rfl, decide_eq_true b, rfl, Nat.le_refl _, ?_⟩
  show (Str.ofString (toString i)).length ≤ 1921
  omega
theorem shl_nil : ShwL 0 0 [] := by
  unfold ShwL
  exact ⟨[], rfl, rfl, rfl, Nat.le_refl _, Nat.le_refl _⟩
theorem shl_cons {k n k' n' : Nat} {d : D} {ds : List D} (h : Shw k n d) (l : ShwL k' n' ds) : ShwL (k + k') (n + 2 + n') (d :: ds) := by
  unfold Shw at h
  unfold ShwL at *
  obtain ⟨p, a, b, c, e, f⟩ := h
  obtain ⟨ps, a', b', c', e', f'⟩ := l
  refine ⟨p :: ps, ?_, ?_, ?_, ?_, ?_⟩
  · unfold toPs
    rw [a, a']
  · unfold PyData.showableAll
    rw [b, b']
    rfl
  · unfold PyData.canLayAll0
    rw [c, c']
    rfl
  · unfold PyData.depthAll
    omega
  · unfold PyData.shownAll
    simp only [List.map_cons, List.sum_cons, List.length_cons]
    omega
theorem shl_all {k n : Nat} : ∀ {ds : List D}, (∀ d ∈ ds, Shw k n d) → ShwL k (ds.length * (n + 2)) ds
  | [], _ => by
    have h := shl_nil
    unfold ShwL at *
    obtain ⟨ps, a', b', c', e', f'⟩ := h
    exact ⟨ps, a', b', c', by omega, by omega⟩
  | d :: ds, h => by
    have h1 := h d List.mem_cons_self
    have h2 := shl_all fun x hx => h x (List.mem_cons_of_mem _ hx)
    unfold Shw at h1
    unfold ShwL at *
    obtain ⟨p, a, b, c, e, f⟩ := h1
    obtain ⟨ps, a', b', c', e', f'⟩ := h2
    refine ⟨p :: ps, ?_, ?_, ?_, ?_, ?_⟩
    · unfold toPs
      rw [a, a']
    · unfold PyData.showableAll
      rw [b, b']
      rfl
    · unfold PyData.canLayAll0
      rw [c, c']
      rfl
    · unfold PyData.depthAll
      omega
    · unfold PyData.shownAll
      simp only [List.map_cons, List.sum_cons, List.length_cons, Nat.succ_mul]
      omega
theorem len_shownAll : ∀ ps : List PyData, (PyData.shownAll ps).length = ps.length
  | [] => rfl
  | p :: ps => by
    unfold PyData.shownAll
    rw [List.length_cons, List.length_cons, len_shownAll ps]
theorem shw_tup {k n : Nat} {ds : List D} (h : ShwL k n ds) : Shw (k + 1) (n + 3) (.tup ds) := by
  unfold ShwL at h
  unfold Shw
  obtain ⟨ps, a, b, c, e, f⟩ := h
  refine ⟨.tuple ps, by unfold toP; rw [a]; rfl, by unfold PyData.showable; exact b, by unfold PyData.canLay0; exact c, by unfold PyData.depth; omega, ?_⟩
  have := tupleText_len_le (PyData.shownAll ps)
  rw [len_shownAll] at this
  show (tupleText (PyData.shownAll ps)).length ≤ _
  omega
theorem shw_lst {k n : Nat} {ds : List D} (h : ShwL k n ds) : Shw (k + 1) (n + 3) (.lst ds) := by
  unfold ShwL at h
  unfold Shw
  obtain ⟨ps, a, b, c, e, f⟩ := h
  refine ⟨.list ps, by unfold toP; rw [a]; rfl, by unfold PyData.showable; exact b, by unfold PyData.canLay0; exact c, by unfold PyData.depth; omega, ?_⟩
  have := listText_len_le (PyData.shownAll ps)
  rw [len_shownAll] at this
  show (listText (PyData.shownAll ps)).length ≤ _
  omega
@[irreducible] def txtD (d : D) : Str := match toP d with
  | some p => p.shown
  | none => ""
theorem repr_get {k n : Nat} {d : D} (h : Shw k n d) (hk : k ≤ 60) (hn : n ≤ lim) : dRepr d = M.pure (.str (txtD d)) := by
  unfold Shw at h
  obtain ⟨p, a, b, c, e, f⟩ := h
  unfold dRepr txtD
  rw [a]
  have g : reprOk p = true := by
    unfold reprOk
    rw [b, PyData.hasDict_of_canLay p c]
    simp only [Bool.not_false, Bool.and_true, Bool.true_and, Bool.and_eq_true, decide_eq_true_eq]
    omega
  simp only [g, if_true]
section
variable {S : List Ob} {PD : D → List Ob → Prop}
theorem p_repr {k n : Nat} {d : D} (h : Shw k n d) (hk : k ≤ 60) (hn : n ≤ lim) (q : PD (.str (txtD d)) S) : Wp (dRepr d) S PD := by
  rw [repr_get h hk hn]
  exact go_pure q
theorem p_eqSS {x : Str} (h : PD (.bl true) S) : Wp (dEq false (.str x) (.str x)) S PD := by
  refine p_eqS ?_
  rw [decide_eq_true rfl]
  exact h
theorem p_neSS {x : Str} (h : PD (.bl false) S) : Wp (dEq true (.str x) (.str x)) S PD := by
  refine p_neS ?_
  rw [decide_eq_true rfl]
  exact h
theorem p_eqB {x y : Bool} (h : PD (.bl (decide (x = y))) S) : Wp (dEq false (.bl x) (.bl y)) S PD := wp_run.mpr h
theorem p_neB {x y : Bool} (h : PD (.bl (!decide (x = y))) S) : Wp (dEq true (.bl x) (.bl y)) S PD := wp_run.mpr h
end
mutual
def noB : PyData → Bool
  | .none | .int _ | .str _ => true
  | .bool _ | .dict _ => false
  | .list xs | .tuple xs => noBs xs
def noBs : List PyData → Bool
  | [] => true
  | x :: xs => noB x && noBs xs
end
mutual
theorem eqv_iff : ∀ p q : PyData, noB p = true → noB q = true → PyData.eqv p q = true → p = q
  | .none, q, _, h, e => by cases q <;> first | rfl | simp [PyData.eqv] at e
  | .int i, q, _, h, e => by cases q <;> simp [PyData.eqv, noB] at e h; rw [e]
  | .str x, q, _, h, e => by cases q <;> simp [PyData.eqv, noB] at e h; rw [e]
  | .list xs, .list ys, g, h, e => by
    unfold noB at g h
    unfold PyData.eqv at e
    rw [eqvAll_iff xs ys g h e]
  | .tuple xs, .tuple ys, g, h, e => by
    unfold noB at g h
    unfold PyData.eqv at e
    rw [eqvAll_iff xs ys g h e]
  | .list xs, .none, _, _, e | .list xs, .int _, _, _, e | .list xs, .str _, _, _, e | .list xs, .tuple _, _, _, e | .list xs, .bool _, _, _, e | .list xs, .dict _, _, _, e => by simp [PyData.eqv] at e
  | .tuple xs, .none, _, _, e | .tuple xs, .int _, _, _, e | .tuple xs, .str _, _, _, e | .tuple xs, .list _, _, _, e | .tuple xs, .bool _, _, _, e | .tuple xs, .dict _, _, _, e => by simp [PyData.eqv] at e
  | .bool _, _, g, _, _ => by simp [noB] at g
  | .dict _, _, g, _, _ => by simp [noB] at g
theorem eqvAll_iff : ∀ ps qs : List PyData, noBs ps = true → noBs qs = true → PyData.eqvAll ps qs = true → ps = qs
  | [], [], _, _, _ => rfl
  | [], _ :: _, _, _, e => by simp [PyData.eqvAll] at e
  | _ :: _, [], _, _, e => by simp [PyData.eqvAll] at e
  | p :: ps, q :: qs, g, h, e => by
    unfold noBs at g h
    unfold PyData.eqvAll at e
    rw [Bool.and_eq_true] at g h e
    rw [eqv_iff p q g.1 h.1 e.1, eqvAll_iff ps qs g.2 h.2 e.2]
end
@[irreducible] def Pln (k : Nat) (d : D) (p : PyData) : Prop := toP d = some p ∧ noB p = true ∧ p.canLay0 = true ∧ p.depth ≤ k
@[irreducible] def PlnL (k : Nat) (ds : List D) (ps : List PyData) : Prop := toPs ds = some ps ∧ noBs ps = true ∧ PyData.canLayAll0 ps = true ∧ PyData.depthAll ps ≤ k
theorem pln_non : Pln 0 .non .none := by unfold Pln; exact ⟨rfl, rfl, rfl, Nat.le_refl _⟩
theorem pln_int {i : Int} : Pln 0 (.int i) (.int i) := by unfold Pln; exact ⟨rfl, rfl, rfl, Nat.le_refl _⟩
theorem pll_nil : PlnL 0 [] [] := by unfold PlnL; exact ⟨rfl, rfl, rfl, Nat.le_refl _⟩
theorem pll_cons {j k : Nat} {d : D} {p : PyData} {ds : List D} {ps : List PyData} (h : Pln j d p) (l : PlnL k ds ps) : PlnL (j + k) (d :: ds) (p :: ps) := by
  unfold Pln at h
  unfold PlnL at *
  obtain ⟨a, b, c, e⟩ := h
  obtain ⟨a', b', c', e'⟩ := l
  refine ⟨?_, ?_, ?_, ?_⟩
  · unfold toPs
    rw [a, a']
  · unfold noBs
    rw [b, b']
    rfl
  · unfold PyData.canLayAll0
    rw [c, c']
    rfl
  · unfold PyData.depthAll
    omega
theorem pll_map {α : Type} {k : Nat} {f : α → D} {g : α → PyData} : ∀ {xs : List α}, (∀ x ∈ xs, Pln k (f x) (g x)) → PlnL k (xs.map f) (xs.map g)
  | [], _ => by unfold PlnL; exact ⟨rfl, rfl, rfl, Nat.zero_le _⟩
  | x :: xs, h => by
    have h1 := h x List.mem_cons_self
    have h2 := pll_map (xs := xs) fun y hy => h y (List.mem_cons_of_mem _ hy)
    unfold Pln at h1
    unfold PlnL at *
    obtain ⟨a, b, c, e⟩ := h1
    obtain ⟨a', b', c', e'⟩ := h2
    refine ⟨?_, ?_, ?_, ?_⟩
    · rw [List.map_cons, List.map_cons]
      unfold toPs
      rw [a, a']
    · rw [List.map_cons]
      unfold noBs
      rw [b, b']
      rfl
    · rw [List.map_cons]
      unfold PyData.canLayAll0
      rw [c, c']
      rfl
    · rw [List.map_cons]
      unfold PyData.depthAll
      omega
theorem pln_tup {k : Nat} {ds : List D} {ps : List PyData} (h : PlnL k ds ps) : Pln (k + 1) (.tup ds) (.tuple ps) := by
  unfold PlnL at h
  unfold Pln
  obtain ⟨a, b, c, e⟩ := h
  exact ⟨by unfold toP; rw [a]; rfl, by unfold noB; exact b, by unfold PyData.canLay0; exact c, by unfold PyData.depth; omega⟩
theorem pln_lst {k : Nat} {ds : List D} {ps : List PyData} (h : PlnL k ds ps) : Pln (k + 1) (.lst ds) (.list ps) := by
  unfold PlnL at h
  unfold Pln
  obtain ⟨a, b, c, e⟩ := h
  exact ⟨by unfold toP; rw [a]; rfl, by unfold noB; exact b, by unfold PyData.canLay0; exact c, by unfold PyData.depth; omega⟩
theorem eqv_dec {p q : PyData} (g : noB p = true) (h : noB q = true) (c : p.canLay0 = true) {P : Prop} [Decidable P] (i : p = q ↔ P) : PyData.eqv p q = decide P := by
  by_cases z : P
  · rw [decide_eq_true z]
    have e := i.mpr z
    subst e
    exact SeqAt.eqv_refl p c
  · rw [decide_eq_false z]
    cases e : PyData.eqv p q with
    | false => rfl
    | true => exact absurd (i.mp (eqv_iff p q g h e)) z
theorem eq_pln {j k : Nat} {d e : D} {p q : PyData} (neg : Bool) (h : Pln j d p) (l : Pln k e q) (hj : j ≤ 64) (hk : k ≤ 64) {P : Prop} [Decidable P] (i : p = q ↔ P)
    (z : dEq neg d e = match toP d, toP e with
      | some p, some q => if SeqAt.shaped p = true ∧ SeqAt.shaped q = true then M.pure (.bl (if neg then !PyData.eqv p q else PyData.eqv p q)) else M.stuck
      | _, _ => M.stuck) : dEq neg d e = M.pure (.bl (if neg then !decide P else decide P)) := by
  unfold Pln at h l
  obtain ⟨a, b, c, f⟩ := h
  obtain ⟨a', b', c', f'⟩ := l
  rw [z, a, a']
  simp only
  rw [eqv_dec b b' c i]
  refine if_pos ⟨?_, ?_⟩
  · unfold SeqAt.shaped
    rw [c, decide_eq_true (by omega)]
    rfl
  · unfold SeqAt.shaped
    rw [c', decide_eq_true (by omega)]
    rfl
theorem eq_self {k n : Nat} {d : D} (neg : Bool) (h : Shw k n d) (hk : k ≤ 64) : dEq neg d d = M.pure (.bl (!neg)) := by
  unfold Shw at h
  obtain ⟨p, a, b, c, e, f⟩ := h
  have g : SeqAt.shaped p = true := by
    unfold SeqAt.shaped
    rw [c, decide_eq_true (by omega)]
    rfl
  have z : ∀ d', d' = d → (match toP d, toP d' with
      | some p, some q => if SeqAt.shaped p = true ∧ SeqAt.shaped q = true then M.pure (.bl (if neg then !PyData.eqv p q else PyData.eqv p q)) else M.stuck
      | _, _ => M.stuck) = (M.pure (.bl (!neg)) : M D) := by
    rintro d' rfl
    rw [a]
    simp only [g, and_self, if_true, SeqAt.eqv_refl p c]
    cases neg <;> rfl
  cases d <;> first
    | exact z _ rfl
    | (show M.pure (D.bl (if neg then !decide (_ = _) else decide (_ = _))) = _; rw [decide_eq_true rfl]; cases neg <;> rfl)
theorem cut_take {α : Type} {xs : List α} {j : Int} (h0 : 0 ≤ j) : cutD xs none (some j) = xs.take j.toNat := by
  unfold cutD HT.sIx
  simp only [show ¬(j < 0) by omega, if_false, List.drop_zero, Nat.sub_zero]
  show List.take (min j.toNat xs.length) xs = _
  rw [List.take_eq_take_iff]
  omega
theorem cut_drop {α : Type} {xs : List α} {j : Int} (h0 : 0 ≤ j) : cutD xs (some j) none = xs.drop j.toNat := by
  unfold cutD HT.sIx
  simp only [show ¬(j < 0) by omega, if_false]
  show List.take (xs.length - min j.toNat xs.length) (xs.drop (min j.toNat xs.length)) = _
  by_cases l : j.toNat ≤ xs.length
  · rw [Nat.min_eq_left l]
    exact List.take_of_length_le (by rw [List.length_drop]; omega)
  · rw [Nat.min_eq_right (by omega), List.drop_of_length_le (Nat.le_refl _), List.drop_of_length_le (by omega)]
    simp
section
variable {S : List Ob} {PD : D → List Ob → Prop}
theorem p_take {ds : List D} {j : Int} (h0 : 0 ≤ j) (h : PD (.lst (ds.take j.toNat)) S) : Wp (dSl (.lst ds) none (some j)) S PD := by
  show Wp (M.pure (D.lst (cutD ds none (some j)))) S PD
  rw [cut_take h0]
  exact go_pure h
theorem p_drop {ds : List D} {j : Int} (h0 : 0 ≤ j) (h : PD (.lst (ds.drop j.toNat)) S) : Wp (dSl (.lst ds) (some j) none) S PD := by
  show Wp (M.pure (D.lst (cutD ds (some j) none))) S PD
  rw [cut_drop h0]
  exact go_pure h
theorem p_takeT {ds : List D} {j : Int} (h0 : 0 ≤ j) (h : PD (.tup (ds.take j.toNat)) S) : Wp (dSl (.tup ds) none (some j)) S PD := by
  show Wp (M.pure (D.tup (cutD ds none (some j)))) S PD
  rw [cut_take h0]
  exact go_pure h
theorem p_dropT {ds : List D} {j : Int} (h0 : 0 ≤ j) (h : PD (.tup (ds.drop j.toNat)) S) : Wp (dSl (.tup ds) (some j) none) S PD := by
  show Wp (M.pure (D.tup (cutD ds (some j) none))) S PD
  rw [cut_drop h0]
  exact go_pure h
theorem p_revL {ds : List D} (h : PD (.lst ds.reverse) S) : Wp (dRev (.lst ds)) S PD := wp_run.mpr h
theorem p_addL {as bs : List D} (l : as.length + bs.length ≤ lim) (h : PD (.lst (as ++ bs)) S) : Wp (dAdd (.lst as) (.lst bs)) S PD := by
  show Wp (if as.length + bs.length ≤ lim then M.pure (D.lst (as ++ bs)) else M.stuck) S PD
  rw [if_pos l]
  exact go_pure h
theorem p_addT {as bs : List D} (l : as.length + bs.length ≤ lim) (h : PD (.tup (as ++ bs)) S) : Wp (dAdd (.tup as) (.tup bs)) S PD := by
  show Wp (if as.length + bs.length ≤ lim then M.pure (D.tup (as ++ bs)) else M.stuck) S PD
  rw [if_pos l]
  exact go_pure h
theorem p_mulL {as : List D} {n : Nat} (l : as.length * n ≤ lim) (l2 : n < 2 ^ 63) (h : PD (.lst (List.replicate n as).flatten) S) : Wp (dMul (.lst as) (.int n)) S PD := by
  show Wp (if as.length * (n : Int).toNat ≤ lim ∧ -(2 ^ 63) ≤ (n : Int) ∧ (n : Int) < 2 ^ 63 then M.pure (D.lst (List.replicate (n : Int).toNat as).flatten) else M.stuck) S PD
  rw [Int.toNat_natCast, if_pos ⟨l, by omega, by omega⟩]
  exact go_pure h
theorem p_isT {ds : List D} {neg : Bool} (h : PD (.bl neg) S) : Wp (dIs neg (.tup ds) .non) S PD := by
  cases neg <;> exact wp_run.mpr h
theorem p_isO {c : Nat} {ds : List D} {neg : Bool} (h : PD (.bl neg) S) : Wp (dIs neg (.ins c ds) .non) S PD := by
  cases neg <;> exact wp_run.mpr h
theorem p_isI {i : Int} {neg : Bool} (h : PD (.bl neg) S) : Wp (dIs neg (.int i) .non) S PD := by
  cases neg <;> exact wp_run.mpr h
end
end Ev
local macro_rules | `(tactic| nest_fact) => `(tactic| first
  | assumption
  | exact Ev.shw_non
  | exact Ev.shw_bl _
  | exact Ev.shw_int (by regstrif_fact) (by first | decide | omega)
  | ((with_reducible apply Ev.shw_tup); nest_fact)
  | ((with_reducible apply Ev.shw_lst); nest_fact)
  | with_reducible exact Ev.shl_nil
  | ((with_reducible apply Ev.shl_cons); (· nest_fact); (· nest_fact)))
local macro_rules | `(tactic| regstrif_gather) => `(tactic| first
  | with_reducible refine Ev.p_eqSS ?_
  | with_reducible refine Ev.p_neSS ?_
  | with_reducible refine Ev.p_eqB ?_
  | with_reducible refine Ev.p_neB ?_
  | with_reducible refine Ev.p_isT ?_
  | with_reducible refine Ev.p_isO ?_
  | with_reducible refine Ev.p_isI ?_
  | with_reducible refine Ev.p_revL ?_
  | ((with_reducible show Ev.Wp (Ev.dRepr _) _ _); refine Ev.p_repr (by nest_fact) (by first | decide | omega) (by first | decide | omega) ?_)
  | ((with_reducible refine Ev.p_take ?_ ?_); (· omega))
  | ((with_reducible refine Ev.p_drop ?_ ?_); (· omega))
  | ((with_reducible refine Ev.p_takeT ?_ ?_); (· omega))
  | ((with_reducible refine Ev.p_dropT ?_ ?_); (· omega)))
set_option maxRecDepth 100000
set_option maxHeartbeats 2000000
namespace Ev
open PySem L2
@[irreducible] def Tg (t : Tgt) (d : D) (sd : List SV) (S : List Ob) (N : List SV → List Ob → Prop) : Prop := ∃ sd2 S2, t d sd S = some (sd2, S2) ∧ N sd2 S2
@[irreducible] def TgL (t : Tgts) (ds : List D) (sd : List SV) (S : List Ob) (N : List SV → List Ob → Prop) : Prop := ∃ sd2 S2, t ds sd S = some (sd2, S2) ∧ N sd2 S2
section
variable {S : List Ob} {sd : List SV} {N : List SV → List Ob → Prop} {R : D → List Ob → Prop} {B C : List SV → List Ob → Prop} {d : D} {ds : List D}
theorem gs_tg {g : List SV → M D} {t : Tgt} (h : Wp (g sd) S fun d S' => Tg t d sd S' N) : Ws (asgS g t) sd S N R B C := by
  refine gs_tgt (h.mono fun d S' q => ?_)
  unfold Tg at q
  obtain ⟨sd2, S2, e, q⟩ := q
  rw [e]
  exact q
theorem tg_set {i : Nat} (h : N (sd.set i (.val d)) S) : Tg (setT i) d sd S N := by
  unfold Tg
  exact ⟨_, _, rfl, h⟩
theorem tg_tup {k : Nat} {t : Tgts} (l : ds.length = k) (h : TgL t ds sd S N) : Tg (tupT k t) (.tup ds) sd S N := by
  unfold TgL at h
  unfold Tg
  obtain ⟨sd2, S2, e, q⟩ := h
  refine ⟨sd2, S2, ?_, q⟩
  show (if ds.length = k then t ds sd S else none) = _
  rw [if_pos l]
  exact e
theorem tg_lst {k : Nat} {t : Tgts} (l : ds.length = k) (h : TgL t ds sd S N) : Tg (tupT k t) (.lst ds) sd S N := by
  unfold TgL at h
  unfold Tg
  obtain ⟨sd2, S2, e, q⟩ := h
  refine ⟨sd2, S2, ?_, q⟩
  show (if ds.length = k then t ds sd S else none) = _
  rw [if_pos l]
  exact e
theorem tl_cons {t : Tgt} {ts : Tgts} (h : Tg t d sd S fun sd2 S2 => TgL ts ds sd2 S2 N) : TgL (consT t ts) (d :: ds) sd S N := by
  unfold Tg at h
  obtain ⟨sd1, S1, e, q⟩ := h
  unfold TgL at q ⊢
  obtain ⟨sd2, S2, e2, q⟩ := q
  refine ⟨sd2, S2, ?_, q⟩
  show (match t d sd S with | none => none | some (sd1, S1) => ts ds sd1 S1) = _
  rw [e]
  exact e2
theorem tl_nil (h : N sd S) : TgL (fun _ sd S => some (sd, S)) [] sd S N := by
  unfold TgL
  exact ⟨_, _, rfl, h⟩
theorem Tg.ex {t : Tgt} (h : Tg t d sd S N) : ∃ sd2 S2, t d sd S = some (sd2, S2) ∧ N sd2 S2 := by
  unfold Tg at h
  exact h
theorem gs_each {α : Type} {f : α → D} {t : Tgt} {body : MS} (J : List α → List SV → List Ob → Prop)
    (step : ∀ x xs sd S, J (x :: xs) sd S → Tg t (f x) sd S fun sd1 S1 => Ws body sd1 S1 (fun sd2 S2 => J xs sd2 S2) R (fun sd2 S2 => N sd2 S2) (fun sd2 S2 => J xs sd2 S2))
    (fin : ∀ sd S, J [] sd S → N sd S) (xs : List α) (sd : List SV) (S : List Ob) (h : J xs sd S) : Ws (loopS t body (xs.map f)) sd S N R B C := by
  refine gs_loop (J := fun ds sd S => ∃ xs : List α, ds = xs.map f ∧ J xs sd S) ?_ ?_ _ _ _ ⟨xs, rfl, h⟩
  · rintro d ds sd S ⟨xs, e, hj⟩
    rcases xs with _ | ⟨x, xs⟩
    · cases e
    rw [List.map_cons] at e
    cases e
    obtain ⟨sd1, S1, e1, q⟩ := (step x xs sd S hj).ex
    exact ⟨sd1, S1, e1, q.mono (fun sd S h => ⟨xs, rfl, h⟩) (fun _ _ h => h) (fun _ _ h => h) (fun sd S h => ⟨xs, rfl, h⟩)⟩
  · rintro sd S ⟨xs, e, hj⟩
    rcases xs with _ | ⟨x, xs⟩
    · exact fin sd S hj
    · cases e
theorem gs_times {t : Tgt} {body : MS} {n : Nat} {lo : Int} (J : List SV → List Ob → Prop)
    (step : ∀ i sd S, lo ≤ i → i < lo + n → J sd S → Tg t (.int i) sd S fun sd1 S1 => Ws body sd1 S1 J R N J)
    (fin : ∀ sd S, J sd S → N sd S) (h : J sd S) : Ws (loopS t body (rngD lo n)) sd S N R B C := by
  refine gs_loop (J := fun ds sd S => (∀ d ∈ ds, d ∈ rngD lo n) ∧ J sd S) ?_ ?_ _ _ _ ⟨fun _ h => h, h⟩
  · rintro d ds sd S ⟨hd, hj⟩
    obtain ⟨i, rfl, h0, h1⟩ := rng_mem (hd d List.mem_cons_self)
    obtain ⟨sd1, S1, e1, q⟩ := (step i sd S h0 h1 hj).ex
    have hd2 : ∀ d ∈ ds, d ∈ rngD lo n := fun d h => hd d (List.mem_cons_of_mem _ h)
    exact ⟨sd1, S1, e1, q.mono (fun sd S h => ⟨hd2, h⟩) (fun _ _ h => h) (fun _ _ h => h) (fun sd S h => ⟨hd2, h⟩)⟩
  · rintro sd S ⟨_, hj⟩
    exact fin sd S hj
theorem gs_frzL {i : Nat} (e : sd[i]? = some (.own (.lst ds))) (h : N (sd.set i (.val (.lst ds))) S) : Ws (frzS i) sd S N R B C := gs_frz e h
theorem ws_sd {m : MS} {sd' : List SV} (e : sd = sd') (h : Ws m sd' S N R B C) : Ws m sd S N R B C := e ▸ h
theorem tl_sd {t : Tgts} {sd' : List SV} (e : sd = sd') (h : TgL t ds sd' S N) : TgL t ds sd S N := e ▸ h
end
end Ev
local macro_rules | `(tactic| regstrif_gather) => `(tactic| first
  | ((with_reducible show Ev.Ws _ (List.set _ _ _) _ _ _ _ _); apply Ev.ws_sd; (· first | (simp only [List.set_cons_zero, List.set_cons_succ]; done) | (simp only [List.set_cons_zero, List.set_cons_succ]; exact rfl)))
  | ((with_reducible show Ev.TgL _ _ (List.set _ _ _) _ _); apply Ev.tl_sd; (· first | (simp only [List.set_cons_zero, List.set_cons_succ]; done) | (simp only [List.set_cons_zero, List.set_cons_succ]; exact rfl)))
  | with_reducible refine Ev.gs_seq ?_
  | with_reducible refine Ev.gs_asg ?_
  | with_reducible refine Ev.tg_set ?_
  | ((with_reducible refine Ev.tg_tup ?_ ?_); (· exact rfl))
  | with_reducible refine Ev.tl_cons ?_
  | with_reducible refine Ev.tl_nil ?_
  | ((with_reducible refine Ev.tg_lst ?_ ?_); (· exact rfl))
  | ((with_reducible show Ev.Ws (Ev.asgS _ (Ev.tupT _ _)) _ _ _ _ _ _); refine Ev.gs_tg ?_)
  | ((with_reducible show Ev.Ws (Ev.appS _ _) _ _ _ _ _ _); refine Ev.gs_app (by exact rfl) (by simp only [List.length_append, List.length_cons, List.length_nil, List.length_map, Nat.zero_add, Nat.add_zero]; first | decide | (unfold Ev.lim; omega)) ?_)
  | ((with_reducible refine Ev.p_addL ?_ ?_); (· simp only [List.length_append, List.length_cons, List.length_nil, List.length_map, List.length_take, List.length_drop, List.length_reverse]; unfold Ev.lim; omega))
  | ((with_reducible refine Ev.p_addT ?_ ?_); (· simp only [List.length_append, List.length_cons, List.length_nil, List.length_map, List.length_take, List.length_drop, List.length_reverse]; unfold Ev.lim; omega))
  | ((with_reducible refine Ev.ite_dt ?_ ?_); (· first | with_reducible rfl | decide))
  | ((with_reducible refine Ev.ite_df ?_ ?_); (· decide))
  | ((with_reducible show Ev.Ws (Ev.frzS _) _ _ _ _ _ _); refine Ev.gs_frzL (by exact rfl) ?_))
set_option maxRecDepth 100000
set_option maxHeartbeats 2000000
namespace Ev
open PySem L2
theorem step_rev {α : Type} (xs : List α) : Ev.stepL (-1) xs = xs.reverse := by
  have n : stepNo xs.length (-1) = xs.length := by
    unfold stepNo stepLo Builtin.Slice.slicePlaces
    simp only [show (-1 : Int) < 0 by decide, if_true]
    simp
    omega
  unfold Ev.stepL
  rw [n]
  have lo : stepLo xs.length (-1) = (xs.length : Int) - 1 := by unfold stepLo; simp
  rw [lo]
  have : ∀ k, k ≤ xs.length → ((List.range k).filterMap fun (m : Nat) => xs[((xs.length : Int) - 1 + (m : Int) * (-1)).toNat]?) = (xs.drop (xs.length - k)).reverse := by
    intro k
    induction k with
    | zero => intro _; simp
    | succ k ih =>
      intro h
      have hk : xs.length - (k + 1) < xs.length := by omega
      have e : ((xs.length : Int) - 1 + (k : Int) * (-1)).toNat = xs.length - (k + 1) := by omega
      rw [List.range_succ, List.filterMap_append, ih (by omega), List.drop_eq_getElem_cons hk, List.reverse_cons]
      have e2 : xs.length - (k + 1) + 1 = xs.length - k := by omega
      rw [e2]
      congr 1
      simp only [List.filterMap_cons, List.filterMap_nil, e, List.getElem?_eq_getElem hk]
  have := this xs.length (Nat.le_refl _)
  simpa using this
theorem dStep_rev (ds : List D) : dStep (-1) (.tup ds) = M.pure (.tup ds.reverse) := by
  show M.pure (D.tup (Ev.stepL (-1) ds)) = _
  rw [step_rev]
section
variable {S : List Ob} {PD : D → List Ob → Prop}
theorem p_lenT0 (h : PD (.int 0) S) : Wp (dLen (.tup [])) S PD := wp_run.mpr h
theorem p_lenT1 {x0 : D} (h : PD (.int 1) S) : Wp (dLen (.tup [x0])) S PD := wp_run.mpr h
theorem p_lenT2 {x0 x1 : D} (h : PD (.int 2) S) : Wp (dLen (.tup [x0, x1])) S PD := wp_run.mpr h
theorem p_lenT3 {x0 x1 x2 : D} (h : PD (.int 3) S) : Wp (dLen (.tup [x0, x1, x2])) S PD := wp_run.mpr h
theorem p_lenT4 {x0 x1 x2 x3 : D} (h : PD (.int 4) S) : Wp (dLen (.tup [x0, x1, x2, x3])) S PD := wp_run.mpr h
theorem p_lenT5 {x0 x1 x2 x3 x4 : D} (h : PD (.int 5) S) : Wp (dLen (.tup [x0, x1, x2, x3, x4])) S PD := wp_run.mpr h
theorem p_lenL0 (h : PD (.int 0) S) : Wp (dLen (.lst [])) S PD := wp_run.mpr h
theorem p_lenL1 {x0 : D} (h : PD (.int 1) S) : Wp (dLen (.lst [x0])) S PD := wp_run.mpr h
theorem p_lenL2 {x0 x1 : D} (h : PD (.int 2) S) : Wp (dLen (.lst [x0, x1])) S PD := wp_run.mpr h
theorem p_lenL3 {x0 x1 x2 : D} (h : PD (.int 3) S) : Wp (dLen (.lst [x0, x1, x2])) S PD := wp_run.mpr h
theorem p_lenL4 {x0 x1 x2 x3 : D} (h : PD (.int 4) S) : Wp (dLen (.lst [x0, x1, x2, x3])) S PD := wp_run.mpr h
theorem p_lenL5 {x0 x1 x2 x3 x4 : D} (h : PD (.int 5) S) : Wp (dLen (.lst [x0, x1, x2, x3, x4])) S PD := wp_run.mpr h
theorem p_revT {ds : List D} (h : PD (.tup ds.reverse) S) : Wp (dStep (-1) (.tup ds)) S PD := by
  rw [dStep_rev]
  exact go_pure h
theorem go_star0 {n : Nat} {ms : MS} {ds : List D} (l : ds.length < lim) (h : Ws ms (slots n [.val (.tup ds)]) S (fun _ S' => PD .non S') PD (fun _ _ => False) (fun _ _ => False)) : Wp (starFn 0 n ms ds) S PD := by
  unfold starFn
  rw [if_pos ⟨Nat.zero_le _, by omega⟩]
  exact go_fn rfl h
end
theorem pll_strs : ∀ {xs : List Str}, (∀ x ∈ xs, (PyData.str x).canLay0 = true) → PlnL 0 (xs.map D.str) (xs.map PyData.str)
  | [], _ => by unfold PlnL; exact ⟨rfl, rfl, rfl, Nat.zero_le _⟩
  | x :: xs, h => by
    have h1 := h x List.mem_cons_self
    have h2 := pll_strs (xs := xs) fun y hy => h y (List.mem_cons_of_mem _ hy)
    unfold PlnL at *
    obtain ⟨a, b, c, e⟩ := h2
    refine ⟨?_, ?_, ?_, ?_⟩
    · rw [List.map_cons, List.map_cons]
      unfold toPs
      rw [a]
      rfl
    · rw [List.map_cons]
      unfold noBs
      rw [b]
      rfl
    · rw [List.map_cons]
      unfold PyData.canLayAll0
      rw [c, h1]
      rfl
    · rw [List.map_cons]
      unfold PyData.depthAll PyData.depth
      omega
theorem in_pln {j k : Nat} {d : D} {p : PyData} {es : List D} {ps : List PyData} (neg : Bool) (h : Pln j d p) (l : PlnL k es ps) (hj : j ≤ 60) (hk : k ≤ 60) {P : Prop} [Decidable P] (i : p ∈ ps ↔ P) : dIn neg d (.lst es) = M.pure (.bl (if neg then !decide P else decide P)) := by
  unfold Pln at h
  unfold PlnL at l
  obtain ⟨a, b, c, f⟩ := h
  obtain ⟨a', b', c', f'⟩ := l
  have any : ∀ qs : List PyData, noBs qs = true → PyData.canLayAll0 qs = true → ((qs.any fun z => PyData.eqv z p) = true ↔ p ∈ qs) := by
    intro qs
    induction qs with
    | nil => intro _ _; simp
    | cons q qs ih =>
      intro nb cl
      unfold noBs at nb
      unfold PyData.canLayAll0 at cl
      rw [Bool.and_eq_true] at nb cl
      rw [List.any_cons, Bool.or_eq_true, ih nb.2 cl.2, List.mem_cons]
      constructor
      · rintro (h | h)
        · exact .inl (eqv_iff q p nb.1 b h).symm
        · exact .inr h
      · rintro (h | h)
        · subst h
          exact .inl (SeqAt.eqv_refl p c)
        · exact .inr h
  have e : (ps.any fun z => PyData.eqv z p) = decide P := by
    by_cases z : P
    · rw [decide_eq_true z]
      exact (any ps b' c').mpr (i.mpr z)
    · rw [decide_eq_false z]
      cases e : ps.any fun z => PyData.eqv z p with
      | false => rfl
      | true => exact absurd (i.mp ((any ps b' c').mp e)) z
  show (match toP d, toPs es with
    | some p, some ps => if SeqAt.shaped p = true ∧ SeqAt.shaped (.list ps) = true then M.pure (D.bl (if neg then !(ps.any fun z => PyData.eqv z p) else ps.any fun z => PyData.eqv z p)) else M.stuck
    | _, _ => M.stuck) = _
  rw [a, a']
  simp only
  rw [e]
  refine if_pos ⟨?_, ?_⟩
  · unfold SeqAt.shaped
    rw [c, decide_eq_true (by omega)]
    rfl
  · unfold SeqAt.shaped PyData.canLay0 PyData.depth
    rw [c', decide_eq_true (by omega)]
    rfl
end Ev
local macro_rules | `(tactic| regstrif_gather) => `(tactic| first
  | with_reducible refine Ev.p_lenT0 ?_
  | with_reducible refine Ev.p_lenT1 ?_
  | with_reducible refine Ev.p_lenT2 ?_
  | with_reducible refine Ev.p_lenT3 ?_
  | with_reducible refine Ev.p_lenT4 ?_
  | with_reducible refine Ev.p_lenT5 ?_
  | with_reducible refine Ev.p_lenL0 ?_
  | with_reducible refine Ev.p_lenL1 ?_
  | with_reducible refine Ev.p_lenL2 ?_
  | with_reducible refine Ev.p_lenL3 ?_
  | with_reducible refine Ev.p_lenL4 ?_
  | with_reducible refine Ev.p_lenL5 ?_
  | with_reducible refine Ev.p_revT ?_)
set_option maxRecDepth 100000
set_option maxHeartbeats 2000000
namespace Ev
open PySem L2
section
variable {S : List Ob} {sd : List SV} {N : List SV → List Ob → Prop} {R : D → List Ob → Prop} {B C : List SV → List Ob → Prop} {Q : D → List Ob → Prop} {c m n : Nat} {ms : MS} {ds : List D}
theorem go_mk (l : ds.length + 1 = m) (h : Ws ms (slots n (.own (.ins c []) :: ds.map .val)) S (fun sd S' => ∃ es, sd[0]? = some (.own (.ins c es)) ∧ Q (.ins c es) S') (fun _ _ => False) (fun _ _ => False) (fun _ _ => False)) : Wp (mkFn c m n ms ds) S Q := by
  have h := h.run
  refine wp_run.mpr ?_
  unfold Run mkFn
  unfold RunS at h
  rw [if_pos l]
  rcases e : ms (slots n (.own (.ins c []) :: ds.map .val)) S with _ | ⟨sd | _ | _ | _ | _, S'⟩
  · rw [e] at h; exact h
  · rw [e] at h
    obtain ⟨es, e0, q⟩ := h
    unfold mkR
    simp only
    rw [e0]
    simp only [if_true]
    exact q
  · rw [e] at h; exact h
  · rw [e] at h; exact h
  · rw [e] at h; exact h
  · rw [e] at h; exact h
theorem gs_setF {i : Nat} {tbl : Nat → Option Nat} {g : List SV → M D} {j : Nat} (e : sd[i]? = some (.own (.ins c ds))) (t : tbl c = some j) (h : Wp (g sd) S fun d S' => ∃ es, putL ds j d = some es ∧ N (sd.set i (.own (.ins c es))) S') : Ws (setFS i tbl g) sd S N R B C := by
  have h := h.run
  refine ws_run.mpr ?_
  unfold RunS setFS exS
  unfold Run at h
  rcases e2 : g sd S with _ | ⟨_ | d, S'⟩
  · rw [e2] at h; exact h
  · rw [e2] at h; exact h
  · rw [e2] at h
    obtain ⟨es, e3, q⟩ := h
    simp only [e, t, e3]
    exact q
end
structure IsRt (n s : Int) : Prop where
  nn : 0 ≤ s
  le : s * s ≤ n
  lt : n < (s + 1) * (s + 1)
theorem IsRt.uniq {n s t : Int} (h : IsRt n s) (l : IsRt n t) : s = t := by
  have a := h.nn
  have b := l.nn
  rcases Int.lt_trichotomy s t with c | c | c
  · have x : (s + 1) * (s + 1) ≤ t * t := Int.mul_le_mul (by omega) (by omega) (by omega) (by omega)
    have := h.lt
    have := l.le
    omega
  · exact c
  · have x : (t + 1) * (t + 1) ≤ s * s := Int.mul_le_mul (by omega) (by omega) (by omega) (by omega)
    have := l.lt
    have := h.le
    omega
theorem rt_ex : ∀ n : Nat, ∃ s : Int, IsRt n s
  | 0 => ⟨0, by decide, by decide, by decide⟩
  | n + 1 => by
    obtain ⟨s, h⟩ := rt_ex n
    have a := h.nn
    have b := h.le
    have c := h.lt
    by_cases z : (s + 1) * (s + 1) ≤ ((n + 1 : Nat) : Int)
    · refine ⟨s + 1, by omega, z, ?_⟩
      have : (s + 1 + 1) * (s + 1 + 1) = (s + 1) * (s + 1) + 2 * s + 3 := by grind
      omega
    · exact ⟨s, a, by omega, by omega⟩
theorem rt_of {n : Int} (h : 0 ≤ n) : ∃ s, IsRt n s := by
  obtain ⟨s, h⟩ := rt_ex n.toNat
  have e : (n.toNat : Int) = n := by omega
  rw [e] at h
  exact ⟨s, h⟩
theorem newton {n s g : Int} (h : IsRt n s) (g1 : 1 ≤ g) (gs : s ≤ g) : s ≤ (g + n / g) / 2 ∧ (s < g → 2 * ((g + n / g) / 2 - s) ≤ g - s) := by
  have a := h.nn
  have b := h.le
  have c := h.lt
  constructor
  · have k : 2 * s - g ≤ n / g := by
      refine Int.le_ediv_of_mul_le (by omega) ?_
      have e : s * s - (2 * s - g) * g = (s - g) * (s - g) := by grind
      have z : 0 ≤ (s - g) * (s - g) := by
        have : (s - g) * (s - g) = (g - s) * (g - s) := by grind
        rw [this]
        exact Int.mul_nonneg (by omega) (by omega)
      omega
    omega
  · intro l
    have k : n / g ≤ s := by
      refine Int.lt_add_one_iff.mp (Int.ediv_lt_of_lt_mul (by omega) ?_)
      have : (s + 1) * (s + 1) ≤ (s + 1) * g := Int.mul_le_mul_of_nonneg_left (by omega) (by omega)
      omega
    omega
theorem rt_lt {n s : Int} {k : Nat} (h : IsRt n s) (l : n < 2 ^ (2 * k)) : s < 2 ^ k := by
  rcases Int.lt_or_le s (2 ^ k) with z | z
  · exact z
  · have p : (0 : Int) < 2 ^ k := Int.pow_pos (by decide)
    have x : (2 : Int) ^ k * 2 ^ k ≤ s * s := Int.mul_le_mul z z (by omega) h.nn
    have e : (2 : Int) ^ (2 * k) = 2 ^ k * 2 ^ k := by rw [Nat.two_mul, Int.pow_add]
    have := h.le
    omega
end Ev
set_option maxRecDepth 100000
set_option maxHeartbeats 2000000
namespace Ev
open PySem L2
theorem gs_sup {S : List Ob} {sd : List SV} {N : List SV → List Ob → Prop} {R : D → List Ob → Prop} {B C : List SV → List Ob → Prop} {c m2 n2 : Nat} {ms2 : MS} {fa : List SV → M (List D)} {es : List D}
    (e : sd[0]? = some (.own (.ins c es))) (no : (sd.drop 1).all notOwn = true)
    (h : Wp (fa sd) S fun ds S1 => ds.length + 1 = m2 ∧ Ws ms2 (slots n2 (.own (.ins c es) :: ds.map .val)) S1 (fun sd' S2 => ∃ o, sd'[0]? = some (.own o) ∧ N (sd.set 0 (.own o)) S2) (fun _ _ => False) (fun _ _ => False) (fun _ _ => False)) :
    Ws (supS c m2 n2 ms2 fa) sd S N R B C := by
  have h := h.run
  refine ws_run.mpr ?_
  unfold Run at h
  unfold RunS supS
  rw [e]
  simp only
  rw [if_pos ⟨trivial, no⟩]
  unfold exS
  rcases e2 : fa sd S with _ | ⟨_ | ds, S1⟩
  · rw [e2] at h; exact h
  · rw [e2] at h; exact h
  · rw [e2] at h
    obtain ⟨l, q⟩ := h
    have q := q.run
    unfold RunS at q
    simp only
    rw [if_pos l]
    rcases e3 : ms2 (slots n2 (.own (.ins c es) :: ds.map .val)) S1 with _ | ⟨sd' | _ | _ | _ | _, S2⟩
    · rw [e3] at q; exact q
    · rw [e3] at q
      obtain ⟨o, e4, q⟩ := q
      simp only [e4]
      exact q
    · rw [e3] at q; exact q
    · rw [e3] at q; exact q
    · rw [e3] at q; exact q
    · rw [e3] at q; exact q
end Ev
set_option maxRecDepth 100000
set_option maxHeartbeats 2000000
namespace Ev
open PySem PySem.Spec PyProof.Rows L2
section
variable {G : Sg} {X : Cx} {W : WX} {k : Nat}
def par3S (i j l : Nat) (f : List SV → M (List D)) : MS := exS f fun ds sd S => match ds with
  | [a, b, c] => some (.next (((sd.set i (.val a)).set j (.val b)).set l (.val c)), S)
  | _ => none
theorem s_par3 {n i j l : Nat} {x y z : Str} {a b e : Expr} {f : List SV → M (List D)} {px py pz pt pos : Pos} {kt k2 : Nat} {pt2 : Pos} (c : Ctx G X W k) (hi : X.N[i]? = some x) (hj : X.N[j]? = some y) (hl : X.N[l]? = some z) (hij : i ≠ j) (hil : i ≠ l) (hjl : j ≠ l)
    (hx : X.env.scope.names.lookup x = some .local) (hy : X.env.scope.names.lookup y = some .local) (hz : X.env.scope.names.lookup z = some .local) (ha : PLn G X W n [a, b, e] f)
    (hw : swappedStores [.Tuple [.Name x px, .Name y py, .Name z pz] kt pt] (.Tuple [a, b, e] k2 pt2) X.env = pure (some [x, y, z])) :
    PSV G X W (.Assign [.Tuple [.Name x px, .Name y py, .Name z pz] kt pt] (.Tuple [a, b, e] k2 pt2) pos) (par3S i j l f) := by
  refine PS.imp (ps_par3 c.calm c.nd hi hj hl hij hil hjl hx hy hz ha hw rfl) fun D σ H q => ?_
  obtain ⟨w0, w, sd, S, e, r, q⟩ := q
  refine ⟨w0, w, sd, S, e, r, exS_step q r fun w1 S1 ds vs e1 r1 rv q1 => ?_⟩
  rcases ds with _ | ⟨d1, _ | ⟨d2, _ | ⟨d3, _ | ⟨d4, ds⟩⟩⟩⟩
  · exact q1.elim
  · exact q1.elim
  · exact q1.elim
  · obtain ⟨⟨v1, t1, e1, h1, v2, t2, e2, h2, v3, t3, e3, h3, e4⟩, _⟩ := rv
    subst e1 e2 e3
    cases (show t3 = [] from e4)
    exact ⟨v1, v2, v3, rfl, q1 w1 _ (Stay.refl w1) (((r1.setv h1 i).setv h2 j).setv h3 l)⟩
  · exact q1.elim
end
section
variable {S : List Ob} {sd : List SV} {N : List SV → List Ob → Prop} {R : D → List Ob → Prop} {B C : List SV → List Ob → Prop}
theorem gs_par3 {g : List SV → M (List D)} {i j l : Nat} (h : Wp (g sd) S fun ds S' => ∃ a b c, ds = [a, b, c] ∧ N (((sd.set i (.val a)).set j (.val b)).set l (.val c)) S') : Ws (par3S i j l g) sd S N R B C := by
  refine ws_run.mpr ?_
  unfold par3S
  refine runS_ex.mpr (h.run.mono fun ds S' q => ?_)
  obtain ⟨a, b, c, rfl, q⟩ := q
  exact q
end
end Ev
set_option maxRecDepth 100000
set_option maxHeartbeats 2000000
namespace Ev
open PySem PySem.Spec PyProof.Rows L2
section
variable {G : Sg} {X : Cx} {W : WX} {k : Nat}
def addI : D → D → M D
  | .int i, .int j => M.pure (.int (i + j))
  | _, _ => M.stuck
def augS (i : Nat) (f : List SV → M D) : MS := fun sd S => match sd[i]? with
  | some (SV.val (.int a)) => exS f (fun b sd S => match b with
    | .int j => some (.next (sd.set i (.val (.int (a + j)))), S)
    | _ => none) sd S
  | _ => none
theorem s_aug {i : Nat} {x : Str} {e : Expr} {f : List SV → M D} {pos pos' : Pos} (c : Ctx G X W k) (hi : X.N[i]? = some x) (hx : Loc X.env.scope x) (he : PV G X W e f) (hf : X.fn x = true ∨ X.env.scope.names.lookup x = some .local) :
    PSV G X W (.AugAssign (.Name x pos') .Add e pos) (augS i f) := by
  refine PS.imp (ps_aug c.nd hi hx he ip_add hf) fun D σ H q => ?_
  obtain ⟨w0, w, sd, S, e, r, q⟩ := q
  unfold augS at q
  rcases hs : sd[i]? with _ | _ | d | o
  · rw [hs] at q; exact q.elim
  · rw [hs] at q; exact q.elim
  · rw [hs] at q
    cases d with
    | int a =>
      obtain ⟨v, h1, h2⟩ := r.vl i _ hs
      cases (show v = .int a from h2)
      refine ⟨.int a, h1, w0, w, sd, S, e, r, exS_step q r fun w1 S1 b u e1 r1 rv q1 => ?_⟩
      cases b with
      | int j =>
        cases (show u = .int j from rv)
        exact ⟨a, j, rfl, rfl, q1 w1 _ (Stay.refl w1) (r1.setv (d := .int (a + j)) rfl i)⟩
      | _ => exact q1.elim
    | _ => exact q.elim
  · rw [hs] at q; exact q.elim
end
theorem gs_aug {S : List Ob} {sd : List SV} {N : List SV → List Ob → Prop} {R : D → List Ob → Prop} {B C : List SV → List Ob → Prop} {f : List SV → M D} {i : Nat} {a : Int} (e : sd[i]? = some (.val (.int a)))
    (h : Wp (f sd) S fun d S' => ∃ j, d = .int j ∧ N (sd.set i (.val (.int (a + j)))) S') : Ws (augS i f) sd S N R B C := by
  refine ws_run.mpr ?_
  unfold RunS augS
  rw [e]
  refine (runS_ex (k := fun b sd S => match b with
    | .int j => some (.next (sd.set i (.val (.int (a + j)))), S)
    | _ => none)).mpr (h.run.mono fun d S' q => ?_)
  obtain ⟨j, rfl, q⟩ := q
  exact q
end Ev
set_option maxRecDepth 100000
set_option maxHeartbeats 2000000
namespace Ev
open PySem PySem.Spec PyProof.Rows L2
def maxI (x : Int) (xs : List Int) : Int := xs.foldl (fun a y => if a < y then y else a) x
def intsD : List D → Option (List Int)
  | [] => some []
  | .int i :: ds => (intsD ds).map (i :: ·)
  | _ :: _ => none
def dMaxT : D → M D
  | .tup (.int x :: ds) => match intsD ds with
    | some xs => M.pure (.int (maxI x xs))
    | none => M.stuck
  | _ => M.stuck
def dMax3 : List D → M D
  | [.int i, .int j, .int k] => M.pure (.int (maxI i [j, k]))
  | _ => M.stuck
section
variable {G : Sg} {X : Cx} {k : Nat}
theorem ints_rep : ∀ {ds : List D} {ns : List Int} {w : Wd} {vs : List V}, intsD ds = some ns → RepVs G w ds vs → vs = ns.map V.int
  | [], ns, w, vs, h, r => by unfold intsD at h; cases h; exact r
  | .int b :: ds, ns, w, vs, h, r => by
    unfold intsD at h
    obtain ⟨cs, h1, h2⟩ := Option.map_eq_some_iff.mp h
    subst h2
    obtain ⟨v, t, e, h3, h4⟩ := r
    rw [e, ints_rep h1 h4]
    cases (show v = .int b from h3)
    rfl
  | .bl _ :: _, _, _, _, h, _ => by cases h
  | .non :: _, _, _, _, h, _ => by cases h
  | .str _ :: _, _, _, _, h, _ => by cases h
  | .tup _ :: _, _, _, _, h, _ => by cases h
  | .lst _ :: _, _, _, _, h, _ => by cases h
  | .scr _ :: _, _, _, _, h, _ => by cases h
  | .dct _ _ :: _, _, _, _, h, _ => by cases h
  | .ins _ _ :: _, _, _, _, h, _ => by cases h
  | .ref _ :: _, _, _, _, h, _ => by cases h
  | .ty _ :: _, _, _, _, h, _ => by cases h
  | .cls _ :: _, _, _, _, h, _ => by cases h
def rMaxT (K : PySem.W.Frag) : List V → Hp → VK → Prop := fun vs H Q => ∃ (a : Addr) (x : Int) (xs : List Int), vs = [V.ref a] ∧ SqT K H a ((x :: xs).map V.int) ∧ Q (.int (maxI x xs)) H
theorem maxOf_int (x : Int) (xs : List Int) : PySem.W.maxOf x xs = maxI x xs := by
  unfold PySem.W.maxOf maxI
  congr 1
  funext a y
  show (if decide (a < y) = true then y else a) = _
  by_cases h : a < y <;> simp [h]
theorem cr_maxT {b : Bool} (hc : X.calm = true) (hr : Rm b k X.A) : CallR X (.builtin "max") (rMaxT X.K) := by
  intro pins s σ H vs us Q I r h
  obtain ⟨a, x, xs, rfl, hs, q⟩ := h
  obtain ⟨its, rv, hl, _⟩ := I.tuple hs
  rw [Vals.ref1 r]
  have hu : X.A.units + 1 + PySem.W.Datum.depth Int < cLine := by
    have := hr.room.units
    show X.A.units + 1 + 0 < cLine
    omega
  refine PySem.W.max_tuple_datum (α := Int) (I.ok.hd hc) (show s.heap.IsTuple a its.toArray from hl) (x := x) (xs := xs) (by simpa using PySem.W.HoldAll.of_ints rv.ints) hu fun i v h' tk hi hv hk => ?_
  obtain ⟨t, e⟩ : ∃ t, v = Value.int (PySem.W.maxOf x xs) t := by
    obtain ⟨as, rd⟩ := hv
    cases rd
    exact ⟨_, rfl⟩
  subst e
  rw [maxOf_int]
  exact ⟨.int _, H, I.kept hk, ⟨_, rfl⟩, q⟩
theorem c_maxT (hc : X.calm = true) (cK : G.K = X.K) (hr : Rm G.gd k X.A) : CallR X (.builtin "max") (rDs G (on1 dMaxT)) := by
  refine CallR.imp (cr_maxT hc hr) fun vs H Q h => ?_
  obtain ⟨W, w, S, d, v, rfl, s, rfl, r, q⟩ := on1_of h
  cases d with
  | tup ds =>
    cases ds with
    | nil => exact q.elim
    | cons d ds =>
      cases d with
      | int x =>
        unfold dMaxT at q
        rcases hb : intsD ds with _ | xs
        · simp only [hb] at q; exact q.elim
        · simp only [hb] at q
          obtain ⟨a, vs, e, hh, rs⟩ := r
          have hvs := ints_rep (ds := .int x :: ds) (ns := x :: xs) (by unfold intsD; rw [hb]; rfl) rs
          subst e hvs
          exact ⟨a, x, xs, rfl, sqT_of cK hh, fin_pure q s rfl⟩
      | _ => exact q.elim
  | _ => exact q.elim
theorem c_max3 (hc : X.calm = true) : CallR X (.builtin "max") (rDs G dMax3) := by
  refine CallR.imp (call_max3Nu hc) fun vs H Q h => ?_
  obtain ⟨W, w, S, ds, rfl, s, r, q⟩ := h
  unfold dMax3 at q
  split at q
  · rename_i i j l
    obtain ⟨v1, t1, e1, h1, r⟩ := r
    obtain ⟨v2, t2, e2, h2, r⟩ := r
    obtain ⟨v3, t3, e3, h3, r⟩ := r
    cases (show t3 = [] from r)
    cases (show v1 = .int i from h1)
    cases (show v2 = .int j from h2)
    cases (show v3 = .int l from h3)
    subst e1 e2 e3
    refine ⟨_, _, _, .int (maxI i [j, l]), rfl, ?_, fin_pure q s rfl⟩
    show (nuMax2 (.int i) (.int j)).bind (fun m => nuMax2 m (.int l)) = _
    have two : ∀ a b : Int, nuMax2 (.int a) (.int b) = some (.int (if a < b then b else a)) := fun a b => by
      show some (if decide (a < b) = true then V.int b else V.int a) = _
      by_cases h : a < b <;> simp [h]
    rw [two]
    exact two _ _
  · exact q.elim
end
theorem p_maxT {S : List Ob} {P : D → List Ob → Prop} {x : Int} {ds : List D} {xs : List Int} (e : intsD ds = some xs) (h : P (.int (maxI x xs)) S) : Wp (dMaxT (.tup (.int x :: ds))) S P := by
  unfold dMaxT
  simp only [e]
  exact go_pure h
theorem p_max3 {S : List Ob} {P : D → List Ob → Prop} {i j l : Int} (h : P (.int (maxI i [j, l])) S) : Wp (dMax3 [.int i, .int j, .int l]) S P := go_pure h
theorem maxI_two (x y : Int) : maxI x [y] = if x < y then y else x := rfl
end Ev
set_option maxRecDepth 100000
set_option maxHeartbeats 2000000
namespace Ev
open PySem PySem.Spec PyProof.Rows L2
def Txt (n : Nat) (m : M D) : Prop := ∃ y : Str, m = M.pure (.str y) ∧ y.length ≤ n
theorem txt_lit {n : Nat} {y : Str} (h : y.length ≤ n) : Txt n (M.pure (.str y)) := ⟨y, rfl, h⟩
theorem str_app_len (x y : Str) : (x ++ y).length = x.length + y.length := by
  show (x.cps ++ y.cps).size = _
  rw [Array.size_append]
  rfl
theorem joinFs_ex {n : Nat} : ∀ (fs : List (List SV → M D)) (acc : Str) (sd : List SV), (∀ f ∈ fs, Txt n (f sd)) → acc.length + n * fs.length ≤ lim → ∃ x, joinFs fs acc sd = M.pure (.str x)
  | [], acc, sd, _, _ => ⟨acc, rfl⟩
  | f :: fs, acc, sd, h, l => by
    obtain ⟨y, e, ly⟩ := h f List.mem_cons_self
    rw [List.length_cons, Nat.mul_succ] at l
    have la := str_app_len acc y
    obtain ⟨x, ex⟩ := joinFs_ex fs (acc ++ y) sd (fun g hg => h g (List.mem_cons_of_mem _ hg)) (by omega)
    refine ⟨x, ?_⟩
    unfold joinFs
    rw [e]
    show (if (acc ++ y).length ≤ lim then joinFs fs (acc ++ y) sd else M.stuck) = _
    rw [if_pos (by omega), ex]
theorem fmt_int {k : Nat} {i : Int} (h : Bd k i) (l : k ≤ 1900) : Txt 2000 (dFmt (.int i)) := by
  have a := (h.mono (show k ≤ 1920 by omega)).nat
  have b : i.natAbs.log2 < 1920 := by
    by_cases z : i.natAbs = 0
    · rw [z]
      decide +kernel
    · exact (Nat.log2_lt z).mpr a
  have c := PyProof.Rows.int_text_len_1921 b
  refine ⟨(toString i : String), ?_, ?_⟩
  · show (if strOk i = true then M.pure (D.str (toString i : String)) else M.stuck) = _
    rw [if_pos (show strOk i = true from decide_eq_true b)]
  · show (Str.ofString (toString i)).length ≤ 2000
    omega
end Ev
set_option maxRecDepth 100000
set_option maxHeartbeats 2000000
namespace Ev
open PySem PySem.Spec PyProof.Rows L2
section
variable {G : Sg} {X : Cx} {W : WX} {k : Nat}
def ownIteS (i : Nat) (fc : List SV → M Bool) (fa : List SV → M (List D)) : MS := exS fc fun b => if b = true then ownS i fa else fun sd S => match sd[i]? with
  | some (.own _) => nextS sd S
  | _ => none
theorem s_ownIte {i : Nat} {x : Str} {c a : Expr} {fc : List SV → M Bool} {fa : List SV → M (List D)} {pos pos' p ip : Pos} (cx : Ctx G X W k) (hi : X.N[i]? = some x) (hx : Loc X.env.scope x) (hc : PB G X W c fc) (ha : PO_ G X W a fa)
    (hv : Vis X.env.scope x) (hd : (x == ("__debug__" : Str)) = false) (hcd : (x == ("__classdict__" : Str)) = false) (hs : swapFree (.IfExp c a (.Name x p) ip) = true) (hf : X.fn x = true ∨ X.env.scope.names.lookup x = some .local) (i0 : i ≠ 0) :
    PSV G X W (.Assign [.Name x pos'] (.IfExp c a (.Name x p) ip) pos) (ownIteS i fc fa) := by
  refine PS.imp (ps_set cx.nd hi hx (pe_ifExp hc ha (pe_var (X := X) (pos := p) hi hv hd hcd)) (swap_free hs) hf) fun En σ H q => ?_
  obtain ⟨w0, w, sd, S, e, r, q⟩ := q
  refine ⟨w0, w, sd, S, e, r, exS_step q r fun w1 S1 d v _ r1 rv q1 => ?_⟩
  cases (show v = d from rv)
  cases d with
  | true =>
    have q1 : FinS G W w0 w1 En (ownS i fa sd S1) := q1
    refine ⟨w0, w1, sd, S1, rfl, r1, ?_⟩
    unfold ownS exS at q1
    rcases hf : fa sd S1 with _ | ⟨_ | ds, S2⟩
    · rw [hf] at q1; exact q1
    · rw [hf] at q1
      exact fun w' cls x e s rx => q1 w' σ cls x (e.stay r1.st.dj) (r1.step e s) rx
    · rw [hf] at q1
      intro w' p vs e1 s1 h1 h2 h3 h4 h5
      have r2 := r1.step e1 s1
      refine q1 w' (σ.set i (some (.ref p))) (e1.stay r1.st.dj) (r2.setown ⟨vs, h1, h2⟩ h3 h4 (r1.ex.al _ h5) (fun j o' ho hj => ?_) i0)
      obtain ⟨a, e2, hr, _⟩ := r1.ow j o' ho
      rw [hj] at e2
      cases e2
      exact hr.there h5
  | false =>
    have q1 : FinS G W w0 w1 En (match sd[i]? with
      | some (.own _) => nextS sd S1
      | _ => none) := q1
    rcases hi2 : sd[i]? with _ | _ | d0 | o
    · rw [hi2] at q1; exact q1.elim
    · rw [hi2] at q1; exact q1.elim
    · rw [hi2] at q1; exact q1.elim
    · rw [hi2] at q1
      obtain ⟨a1, ea, _⟩ := r1.ow i o hi2
      have es : σ.set i (some (.ref a1)) = σ := by
        refine List.ext_getElem? fun j => ?_
        by_cases h : i = j
        · subst h
          rw [ea]
          have l : i < σ.length := (List.getElem?_eq_some_iff.mp ea).1
          rw [List.getElem?_set_self l]
        · rw [List.getElem?_set_ne h]
      refine ⟨.ref a1, ea, ?_⟩
      show En.nx (σ.set i (some (.ref a1))) w1.H
      rw [es]
      exact q1 w1 σ (Stay.refl w1) r1
end
theorem gs_ownIte {S : List Ob} {sd : List SV} {N : List SV → List Ob → Prop} {R : D → List Ob → Prop} {B C : List SV → List Ob → Prop} {i : Nat} {fc : List SV → M Bool} {fa : List SV → M (List D)} {o : Ob} (e : sd[i]? = some (.own o))
    (h : Wp (fc sd) S fun b S' => if b = true then Ws (ownS i fa) sd S' N R B C else N sd S') : Ws (ownIteS i fc fa) sd S N R B C := by
  refine gs_if (go_use h fun b S' h => ?_)
  cases b with
  | true => exact h
  | false =>
    have h : N sd S' := h
    refine ws_run.mpr ?_
    have g := ws_run.mp (gs_next (R := R) (B := B) (C := C) h)
    unfold RunS at *
    dsimp only
    rw [e]
    exact g
end Ev
set_option maxRecDepth 100000
set_option maxHeartbeats 2000000
namespace Ev
open PySem PySem.Spec PyProof.Rows L2
section
variable {G : Sg} {X : Cx} {W : WX} {k : Nat}
def catOwn (i : Nat) (fb : List SV → M D) : List SV → M (List D) := fun sd => match sd[i]? with
  | some (.own (.lst ds)) => M.bind (fb sd) fun y => catL (.lst ds) y
  | _ => M.stuck
theorem o_catOwn {i : Nat} {x : Str} {b : Expr} {fb : List SV → M D} {p pos : Pos} (hN : X.N[i]? = some x) (hv : Vis X.env.scope x) (hd : (x == ("__debug__" : Str)) = false) (hcd : (x == ("__classdict__" : Str)) = false) (hb : PV G X W b fb) : PO_ G X W (.BinOp (.Name x p) .Add b pos) (catOwn i fb) := by
  refine PE.imp (pe_op op_cat (pe_var (X := X) (pos := p) hN hv hd hcd) hb) fun σ H Q h => ?_
  obtain ⟨w0, w, sd, S, e, r, q⟩ := h
  subst e
  unfold catOwn at q
  rcases hi : sd[i]? with _ | _ | d0 | ⟨ds | ⟨ks, ds⟩ | ⟨cc, ds⟩⟩
  · rw [hi] at q; exact q.elim
  · rw [hi] at q; exact q.elim
  · rw [hi] at q; exact q.elim
  · rw [hi] at q
    obtain ⟨a, ea, _⟩ := r.ow i _ hi
    refine ⟨.ref a, ea, w0, w, sd, S, rfl, r, finO_step q fun w2 S2 d2 v2 e2 s2 rv2 q2 => ?_⟩
    have r2 := r.step e2 s2
    obtain ⟨a2, ea2, ho, _⟩ := r2.ow i _ hi
    rw [ea] at ea2
    cases ea2
    obtain ⟨va, ha, ra⟩ := ho
    cases d2 <;> first | exact q2.elim | skip
    obtain ⟨c, q2⟩ := finO_ite q2
    obtain ⟨b, vb, eb, fb, hb, rb⟩ := rv2
    rw [ra.length, rb.length, lim_eq] at c
    exact ⟨a, b, va, vb, rfl, eb, ha, hb, c, fun p hp => finO_new q2 s2 (RepVs.append ra rb) hp⟩
  · rw [hi] at q; exact q.elim
  · rw [hi] at q; exact q.elim
end
theorem go_catOwn {S : List Ob} {sd : List SV} {P : List D → List Ob → Prop} {i : Nat} {fb : List SV → M D} {ds : List D} (e : sd[i]? = some (.own (.lst ds)))
    (h : Wp (fb sd) S fun y S' => ∃ es, y = .lst es ∧ ds.length + es.length ≤ lim ∧ P (ds ++ es) S') : Wp (catOwn i fb sd) S P := by
  unfold catOwn
  rw [e]
  refine go_bind (h.mono fun y S' q => ?_)
  obtain ⟨es, rfl, l, q⟩ := q
  show Wp (if ds.length + es.length ≤ lim then M.pure (ds ++ es) else M.stuck) S' P
  rw [if_pos l]
  exact go_pure q
end Ev
set_option maxRecDepth 100000
set_option maxHeartbeats 2000000
namespace Ev
open PySem PySem.Spec PyProof.Rows L2
section
variable {P : Program} {w : World} {K : PySem.W.Frag} {mg : Str → Option Value} {base : Heap} {j k : Nat} {f : Addr} {fd : FuncData} {N ps : List Str}
def DecR (fr : List Env) (P : Program) (w : World) (H : Hp) (s : Shared) (Q : Hp → Prop) (r : Result) (s' : Shared) : Prop :=
  r = .ok (.ret .notImplemented) ∧ CE fr P w H s (fun v H' => v = .non ∧ Q H') .none s'
theorem dec_of {name qual : Str} {params : Arguments} {c : Expr} {rest : List Stmt} {p1 p2 p3 : Pos} {scope : Scope} {dV kV doc pm cdv ct oc : Value} {an od : Option Addr} {osl : Array (Option Value)}
    (lk : K.lookup f = some ⟨oc, od, .func (PySem.W.fnOf name qual params (.If c [.Return (some (.Name "NotImplemented" p1)) p2] [] p3 :: rest) scope dV kV doc pm an cdv ct), osl⟩) (hcd : PySem.W.codeIn K cdv qual = true) (SC : FnScope N ps scope)
    {A : Around} {fr : List Env} {s : Shared} {H : Hp} {args : Args} {us : List Value} {vs : List V} {Q : Hp → Prop}
    {bb : Bool} (hr : Rm bb (k + 1) A) (e0 : Env0 P w K mg base A fr s H) (hbind : BindsTo s (PySem.W.fnOf name qual params (.If c [.Return (some (.Name "NotImplemented" p1)) p2] [] p3 :: rest) scope dV kV doc pm an cdv ct) args (ps.zip us)) (rv : Vals vs us) (len : vs.length = ps.length)
    (hm : mg "NotImplemented" = none)
    (hb : ∀ E : XK, Rm bb k (A.deeper (envOfC qual scope s.heap.objs.size f cdv)) → Gl (cxOf (L2.CX P w) P w K mg base N qual scope f cdv A fr s H E) "NotImplemented" ∧
      ∃ tc, PT (cxOf (L2.CX P w) P w K mg base N qual scope f cdv A fr s H E) c tc ∧ tc (start N vs) H (fun b H' => b = true ∧ Q H')) :
    codeAny (model P w) A (.call (.ref f) args) (DecR fr P w H s Q) s := by
  have inK : K.In s.heap := by
    refine e0.mod.kin.keeps ?_
    exact fun b o e => (e0.bs b o e).1
  have noL : s.heap.NoLimit := by
    refine e0.mod.nolimit.keeps ?_
    exact fun b o e => (e0.bs b o e).1
  have kinds : ∀ y ∈ ps.zip us, scope.names.lookup y.1 = some .local ∨
      (scope.names.lookup y.1 = some .cell ∧ ((cellsFrom (s.heap.objs.size + 1) scope.names []).lookup y.1).isSome = true) := by
    rintro ⟨n, v⟩ hy
    have hn := SC.par n (List.of_mem_zip hy).1
    exact hn.imp id fun q => ⟨q, PySem.W.cellsFrom_some _ _ _ (.inl q)⟩
  refine codeAny_call_function hr.room.depth (inK _ _ lk) rfl SC.co SC.gen rfl ?_ (hbind _ _ _ _ ?_)
  · exact PySem.W.codeRec_of inK hcd
  refine wpAny_newFunctionEnv_cells SC.kind kinds ?_
  rintro env rfl s1 x
  refine ⟨noL.keeps x.toInCall.keep, codeAny_func ?_⟩
  obtain ⟨hg, t, ht, hq⟩ := hb (fun _ _ _ => False) (hr.deeper _)
  have I := inv_start (CX := L2.CX P w) (P := P) (w := w) (E := fun _ _ _ => False) SC hr.room.hd e0 len rv x
  have run := ht.run [] s1 _ H _ I hq
  have thnX : wpAny (model P w) (cxOf (L2.CX P w) P w K mg base N qual scope f cdv A fr s H (fun _ _ _ => False)).A (execs (.If c [.Return (some (.Name "NotImplemented" p1)) p2] [] p3 :: rest) (cxOf (L2.CX P w) P w K mg base N qual scope f cdv A fr s H (fun _ _ _ => False)).env)
      (fun fl s' => fl = .ret .notImplemented ∧ CE fr P w H s (fun v H' => v = .non ∧ Q H') .none s') (cxOf (L2.CX P w) P w K mg base N qual scope f cdv A fr s H (fun _ _ _ => False)).xe s1 := by
    refine wpAny_execs_cons (wpAny_If (wpAny_mono run (fun d s2 z => ?_) fun _ _ e => e))
    obtain ⟨H1, I1, rfl, q1⟩ := z
    refine wpAny_execs_cons (wpAny_Return_some (ld_blt I1 hg hm rfl ?_))
    exact ⟨rfl, .non, H1, I1.os, I1.bare, I1.base, I1.hok, rfl, rfl, q1⟩
  refine wpAny_mono thnX ?_ (fun e s' hs => ?_)
  · rintro fl s' ⟨rfl, z⟩
    exact ⟨rfl, z⟩
  · refine wpAny_mono hs (fun y s'' hq => ?_) (fun e' s'' hq => ?_)
    · obtain ⟨_, _, _, _, _, _, _, _, _, _, _, _, z⟩ := hq
      exact z.elim
    · obtain ⟨_, _, _, _, _, _, _, _, _, _, _, _, z⟩ := hq
      exact z.elim
def DecS (P : Program) (w : World) (K : PySem.W.Frag) (mg : Str → Option Value) (base : Heap) (G : Sg) (k m n : Nat) (f : Addr) (fc : List SV → M Bool) : Prop :=
  ∀ (A : Around) (fr : List Env) (s : Shared) (wd : Wd) (us : List Value) (vs : List V) (ds : List D) (S S' : List Ob) (Q : Hp → Prop),
    Rm G.gd k A → Env0 P w K mg base A fr s wd.H → Vals vs us → RepS G wd S → RepVs G wd ds vs → ds.length = m → fc (slots n (ds.map .val)) S = some (.ok true, S') → (∀ w', Ext wd w' → RepS G w' S' → Q w'.H) →
    codeAny (model P w) A (.call (.ref f) ⟨us, []⟩) (DecR fr P w wd.H s Q) s
theorem dec_rule {G : Sg} {x qual : Str} {st : Stmt} {c : Expr} {rest : List Stmt} {p1 p2 p3 : Pos} {fc : List SV → M Bool} {m n : Nat} (F : Fun K x qual st f fd) (SC : FnScope N ps (defScope st)) (hb : Binds K fd ps []) (cK : G.K = K) (hbody : defBody st = .If c [.Return (some (.Name "NotImplemented" p1)) p2] [] p3 :: rest) (hm : mg "NotImplemented" = none)
    (nl : N.length = n) (pl : ps.length = m) (mn : m ≤ n)
    (B : ∀ (cdv : Value) (A : Around) (fr : List Env) (s : Shared) (H : Hp) (E : XK), Ctx G (XF P w K mg base N qual st f cdv A fr s H E) (WF E) k → Gl (XF P w K mg base N qual st f cdv A fr s H E) "NotImplemented" ∧ PB G (XF P w K mg base N qual st f cdv A fr s H E) (WF E) c fc) :
    DecS P w K mg base G (k + 2) m n f fc := by
  obtain ⟨oc, od, kV, doc, pm, an, cdv, ct, osl, rfl, lk, hcd⟩ := F.ex
  intro A fr s wd us vs ds S S' Q hr e0 rv rs rd ld ht hq
  have vl : vs.length = ps.length := by rw [← rd.length, ld, pl]
  have inK : K.In s.heap := e0.mod.kin.keeps fun b o e => (e0.bs b o e).1
  have b2 := hb s us inK (by rw [List.append_nil, ← rv.length]; exact vl)
  rw [List.append_nil] at b2
  rw [hbody] at lk b2
  refine dec_of (Q := Q) (k := k + 1) lk hcd SC hr e0 b2 rv vl hm fun E hr2 => ?_
  obtain ⟨b3, b4⟩ := B cdv A fr s wd.H E (ctxF cK SC hr2)
  refine ⟨b3, _, b4, ?_⟩
  subst nl
  refine ⟨wd, wd, _, S, rfl, R.enter rs rd (by omega), ?_⟩
  show FinG G _ _ wd _ (fc (slots N.length (ds.map .val)) S)
  rw [ht]
  intro w' v e s' rv'
  cases (show v = true from rv')
  exact ⟨rfl, hq w' e s'⟩
end
end Ev
set_option maxRecDepth 100000
set_option maxHeartbeats 2000000
namespace PySem.W
open PySem PyProof.Rows
section
variable {prog : Program} {w : World} {A : Around} {E : Value → Shared → Prop} {s : Shared} {K : Frag} {x C : Addr} {h₀ : Heap} {ox oy : Obj} {od : Option Obj} {f : Addr}
theorem evn_eq {u : Value} {T : String} {Q : Value → Shared → Prop} {R : Shared → Prop} (hu : A.units < cLine) (X : K.In s.heap) (I : InstAt s.heap x ox C od) (hT : s.TypeIs u T) (sub : subIn K (.type T) (.ref C) = some false)
    (hs : findIn K (.ref C) "__eq__" = some (some (.ref f))) (hf : isFn K (.ref f) = true) (hsame : ∀ (s' : Shared) (Q' : Bool → Shared → Prop), R s' → Q' false s' → wpAny (model prog w) A (isSame (.ref x) u) Q' E s')
    (h1 : wpAny (model prog w) A (call (.ref f) [.ref x, u]) (fun v s' => v = .notImplemented ∧ R s') E s)
    (h2 : ∀ s', R s' → wpAny (model prog w) A (tryCompare u "__eq__" (.ref x)) (fun r s'' => r = none ∧ s'' = s') E s')
    (h3 : ∀ s', R s' → Q (.bool false) s') : wpAny (model prog w) A (compareOp .Eq (.ref x) u) Q E s := by
  refine cmp_ofEq ?_
  have one : wpAny (model prog w) A (tryCompare (.ref x) "__eq__" u) (fun r s' => r = none ∧ R s') E s := by
    unfold tryCompare
    refine wpAny_bind (ifBound_K X I hs hf (wpAny_mono h1 (fun v s' hv => ?_) fun _ _ e => e))
    obtain ⟨rfl, hr⟩ := hv
    exact wpAny_pure ⟨rfl, hr⟩
  simp only [richCompare, cmpInfo_Eq, oneThing_ref]
  refine wpAny_holding (wpAny_bind (wpAny_cRoomFor hu ?_))
  refine wpAny_bind (I.type.here ?_)
  refine wpAny_bind (wpAny_typeOf hT ?_)
  split
  · refine wpAny_bind ((looks_subIn X sub).here ?_)
    simp only [Bool.false_eq_true, if_false, Bool.not_false, if_true]
    refine wpAny_bind (m := tryCompare (.ref x) _ u) (wpAny_mono one (fun r s1 z => ?_) fun _ _ e => e)
    obtain ⟨z1, z2⟩ := z
    subst z1
    refine wpAny_bind (m := tryCompare u _ (.ref x)) (wpAny_mono (h2 s1 z2) (fun r s2 z => ?_) fun _ _ e => e)
    obtain ⟨z1, z3⟩ := z
    subst z1
    subst z3
    exact wpAny_bind (wpAny_rule (wpAny_bind (hsame _ _ z2 (wpAny_pure (h3 _ z2)))))
  · rename_i q
    exact absurd (by simp) q
end
end PySem.W
set_option maxRecDepth 100000
set_option maxHeartbeats 2000000
namespace PySem.W
open PyProof.Rows
open PySem.AutoSeq1 (wpAny_loadPart')
section
variable (l : Addr) (C dx : Addr)
theorem dcl_int_eq (b : Int) (u : Tok) : Meets (Builtin.«int.__eq__» ⟨[.int b u, .ref l], []⟩) (fun _ R s => s.heap.get? l = some (instObj C dx) ∧ R (.ok (.ret .notImplemented)) s) :=
  .of_wp fun prog w A R s h => by obtain ⟨hp, g, d, tk, os⟩ := s; obtain ⟨hl, h⟩ := h; wp_walk using wpAny_loadPart' hl, wpAny_load hl; exact ⟨_, rfl, h⟩
theorem dcl_int_ne (b : Int) (u : Tok) : Meets (Builtin.«int.__ne__» ⟨[.int b u, .ref l], []⟩) (fun _ R s => s.heap.get? l = some (instObj C dx) ∧ R (.ok (.ret .notImplemented)) s) :=
  .of_wp fun prog w A R s h => by obtain ⟨hp, g, d, tk, os⟩ := s; obtain ⟨hl, h⟩ := h; wp_walk using wpAny_loadPart' hl, wpAny_load hl; exact ⟨_, rfl, h⟩
theorem dcl_bl_eq (b : Bool) : Meets (Builtin.«int.__eq__» ⟨[.bool b, .ref l], []⟩) (fun _ R s => s.heap.get? l = some (instObj C dx) ∧ R (.ok (.ret .notImplemented)) s) :=
  .of_wp fun prog w A R s h => by obtain ⟨hp, g, d, tk, os⟩ := s; obtain ⟨hl, h⟩ := h; wp_walk using wpAny_loadPart' hl, wpAny_load hl; exact ⟨_, rfl, h⟩
theorem dcl_bl_ne (b : Bool) : Meets (Builtin.«int.__ne__» ⟨[.bool b, .ref l], []⟩) (fun _ R s => s.heap.get? l = some (instObj C dx) ∧ R (.ok (.ret .notImplemented)) s) :=
  .of_wp fun prog w A R s h => by obtain ⟨hp, g, d, tk, os⟩ := s; obtain ⟨hl, h⟩ := h; wp_walk using wpAny_loadPart' hl, wpAny_load hl; exact ⟨_, rfl, h⟩
theorem dcl_str_eq (b : Str) (u : Tok) : Meets (Builtin.«str.__eq__» ⟨[.str b u, .ref l], []⟩) (fun _ R s => s.heap.get? l = some (instObj C dx) ∧ R (.ok (.ret .notImplemented)) s) :=
  .of_wp fun prog w A R s h => by obtain ⟨hp, g, d, tk, os⟩ := s; obtain ⟨hl, h⟩ := h; wp_walk using wpAny_loadPart' hl, wpAny_load hl; exact ⟨_, rfl, h⟩
theorem dcl_str_ne (b : Str) (u : Tok) : Meets (Builtin.«str.__ne__» ⟨[.str b u, .ref l], []⟩) (fun _ R s => s.heap.get? l = some (instObj C dx) ∧ R (.ok (.ret .notImplemented)) s) :=
  .of_wp fun prog w A R s h => by obtain ⟨hp, g, d, tk, os⟩ := s; obtain ⟨hl, h⟩ := h; wp_walk using wpAny_loadPart' hl, wpAny_load hl; exact ⟨_, rfl, h⟩
variable (K : Frag) (t : Addr) (items : Array Value) (n : Nat) (dd : Option Addr) (sl : Array (Option Value))
theorem inst_not {M : Model} {h : Heap} {base : Value} {r : Bool} (X : K.In h) (hl : h.get? l = some (instObj C dx)) (e : mroIn K C base = some r) : Looks M h (isInstance (.ref l) base) r := by
  have h1 : Looks M h (typeOf (.ref l)) (.ref C) := (Looks.ld hl).andThen .now
  exact h1.andThen (looks_mroIn X e)
theorem dcl_tup_eq (e : mroIn K C (.type "tuple") = some false) : Meets (Builtin.«tuple.__eq__» ⟨[.ref t, .ref l], []⟩) (fun _ R s => K.In s.heap ∧ s.heap.get? t = some { cls := .type "tuple", dict := dd, data := .seq items n, slots := sl } ∧ s.heap.get? l = some (instObj C dx) ∧ R (.ok (.ret .notImplemented)) s) :=
  .of_wp fun prog w A R s h => by
    obtain ⟨hp, g, d, tk, os⟩ := s; obtain ⟨X, ht, hl, h⟩ := h
    have f1 := inst_not (M := model prog w) (r := false) l C dx K X hl e
    wp_walk using wpAny_loadPart' hl, wpAny_loadPart' ht, f1.here
    exact ⟨_, rfl, h⟩
theorem dcl_tup_ne (e : mroIn K C (.type "tuple") = some false) : Meets (Builtin.«tuple.__ne__» ⟨[.ref t, .ref l], []⟩) (fun _ R s => K.In s.heap ∧ s.heap.get? t = some { cls := .type "tuple", dict := dd, data := .seq items n, slots := sl } ∧ s.heap.get? l = some (instObj C dx) ∧ R (.ok (.ret .notImplemented)) s) :=
  .of_wp fun prog w A R s h => by
    obtain ⟨hp, g, d, tk, os⟩ := s; obtain ⟨X, ht, hl, h⟩ := h
    have f1 := inst_not (M := model prog w) (r := false) l C dx K X hl e
    wp_walk using wpAny_loadPart' hl, wpAny_loadPart' ht, f1.here
    exact ⟨_, rfl, h⟩
theorem dcl_lst_eq (e : mroIn K C (.type "list") = some false) : Meets (Builtin.«list.__eq__» ⟨[.ref t, .ref l], []⟩) (fun _ R s => K.In s.heap ∧ s.heap.get? t = some { cls := .type "list", dict := dd, data := .seq items n, slots := sl } ∧ s.heap.get? l = some (instObj C dx) ∧ R (.ok (.ret .notImplemented)) s) :=
  .of_wp fun prog w A R s h => by
    obtain ⟨hp, g, d, tk, os⟩ := s; obtain ⟨X, ht, hl, h⟩ := h
    have f1 := inst_not (M := model prog w) (r := false) l C dx K X hl e
    wp_walk using wpAny_loadPart' hl, wpAny_loadPart' ht, f1.here
    exact ⟨_, rfl, h⟩
theorem dcl_lst_ne (e : mroIn K C (.type "list") = some false) : Meets (Builtin.«list.__ne__» ⟨[.ref t, .ref l], []⟩) (fun _ R s => K.In s.heap ∧ s.heap.get? t = some { cls := .type "list", dict := dd, data := .seq items n, slots := sl } ∧ s.heap.get? l = some (instObj C dx) ∧ R (.ok (.ret .notImplemented)) s) :=
  .of_wp fun prog w A R s h => by
    obtain ⟨hp, g, d, tk, os⟩ := s; obtain ⟨X, ht, hl, h⟩ := h
    have f1 := inst_not (M := model prog w) (r := false) l C dx K X hl e
    wp_walk using wpAny_loadPart' hl, wpAny_loadPart' ht, f1.here
    exact ⟨_, rfl, h⟩
end
end PySem.W
namespace PySem.W
open PyProof.Rows L2
def KindV (K : Frag) (H : Hp) (v : V) (T : String) : Prop :=
  (v = .non ∧ T = "NoneType") ∨ (∃ b, v = .bl b ∧ T = "bool") ∨ (∃ i, v = .int i ∧ T = "int") ∨ (∃ x, v = .str x ∧ T = "str") ∨ (∃ a xs, v = .ref a ∧ SqT K H a xs ∧ T = "tuple") ∨ (∃ a xs, v = .ref a ∧ SqL K H a xs ∧ T = "list")
section
variable {X : Cx} {pins : List (Addr × Obj)} {σ : L2.St} {H : Hp} {s : Shared} {A : Around} {E : Value → Shared → Prop} {Q : Option Value → Shared → Prop} {v : V} {u : Value} {T : String} {l C dx : Addr}
theorem KindV.type (I : Inv X pins σ H s) (k : KindV X.K H v T) (r : L2.RelV v u) : s.TypeIs u T := by
  rcases k with ⟨rfl, rfl⟩ | ⟨b, rfl, rfl⟩ | ⟨i, rfl, rfl⟩ | ⟨x, rfl, rfl⟩ | ⟨a, xs, rfl, q, rfl⟩ | ⟨a, xs, rfl, q, rfl⟩
  · cases r; exact rfl
  · cases r; exact rfl
  · obtain ⟨t, rfl⟩ := r; exact rfl
  · obtain ⟨t, rfl⟩ := r; exact rfl
  · cases r
    obtain ⟨its, _, ⟨o, e, c, _⟩, _⟩ := I.tuple q
    exact ⟨o, e, c⟩
  · cases r
    obtain ⟨its, _, ⟨o, n, e, c, _⟩, _⟩ := I.list q
    exact ⟨o, e, c⟩
theorem dcl_of (I : Inv X pins σ H s) (k : KindV X.K H v T) (r : L2.RelV v u) (hl : s.heap.get? l = some (instObj C dx)) (h1 : mroIn X.K C (.type "tuple") = some false) (h2 : mroIn X.K C (.type "list") = some false) {name : Str} (hn : name = "__eq__" ∨ name = "__ne__") (q : Q none s) :
    wpAny (model X.prog X.w) A (tryCompare u name (.ref l)) Q E s := by
  have tt := k.type I r
  rcases k with ⟨rfl, rfl⟩ | ⟨b, rfl, rfl⟩ | ⟨i, rfl, rfl⟩ | ⟨x, rfl, rfl⟩ | ⟨a, xs, rfl, sq, rfl⟩ | ⟨a, xs, rfl, sq, rfl⟩
  · cases r
    rcases hn with rfl | rfl
    · exact wpAny_tryCompare_declines tt F.slot_NoneType_eq (call_gives F.slot_NoneType_eq tt F.entry_NoneType_eq (F.args_NoneType_eq_2 _ _) (SeqAt.NoneType___eq___none_ref_0 l) ⟨rfl, q⟩)
    · exact wpAny_tryCompare_declines tt F.slot_NoneType_ne (call_gives F.slot_NoneType_ne tt F.entry_NoneType_ne (F.args_NoneType_ne_2 _ _) (SeqAt.NoneType___ne___none_ref_0 l) ⟨rfl, q⟩)
  · cases r
    rcases hn with rfl | rfl
    · exact wpAny_tryCompare_declines tt F.slot_bool_eq (call_meets F.slot_bool_eq tt F.entry_int_eq (F.args_int_eq_2 _ _) (dcl_bl_eq l C dx b) ⟨hl, rfl, q⟩)
    · exact wpAny_tryCompare_declines tt F.slot_bool_ne (call_meets F.slot_bool_ne tt F.entry_int_ne (F.args_int_ne_2 _ _) (dcl_bl_ne l C dx b) ⟨hl, rfl, q⟩)
  · obtain ⟨t, rfl⟩ := r
    rcases hn with rfl | rfl
    · exact wpAny_tryCompare_declines tt F.slot_int_eq (call_meets F.slot_int_eq tt F.entry_int_eq (F.args_int_eq_2 _ _) (dcl_int_eq l C dx i t) ⟨hl, rfl, q⟩)
    · exact wpAny_tryCompare_declines tt F.slot_int_ne (call_meets F.slot_int_ne tt F.entry_int_ne (F.args_int_ne_2 _ _) (dcl_int_ne l C dx i t) ⟨hl, rfl, q⟩)
  · obtain ⟨t, rfl⟩ := r
    rcases hn with rfl | rfl
    · exact wpAny_tryCompare_declines tt F.slot_str_eq (call_meets F.slot_str_eq tt F.entry_str_eq (F.args_str_eq_2 _ _) (dcl_str_eq l C dx x t) ⟨hl, rfl, q⟩)
    · exact wpAny_tryCompare_declines tt F.slot_str_ne (call_meets F.slot_str_ne tt F.entry_str_ne (F.args_str_ne_2 _ _) (dcl_str_ne l C dx x t) ⟨hl, rfl, q⟩)
  · cases r
    obtain ⟨its, _, ⟨⟨cls, dd, data, sl⟩, e, c, n, d⟩, _⟩ := I.tuple sq
    simp only at c d
    subst c d
    rcases hn with rfl | rfl
    · exact wpAny_tryCompare_declines tt F.slot_tuple_eq (call_meets F.slot_tuple_eq tt F.entry_tuple_eq (F.args_tuple_eq_2 _ _) (dcl_tup_eq l C dx X.K a its.toArray n dd sl h1) ⟨I.kIn, e, hl, rfl, q⟩)
    · exact wpAny_tryCompare_declines tt F.slot_tuple_ne (call_meets F.slot_tuple_ne tt F.entry_tuple_ne (F.args_tuple_ne_2 _ _) (dcl_tup_ne l C dx X.K a its.toArray n dd sl h1) ⟨I.kIn, e, hl, rfl, q⟩)
  · cases r
    obtain ⟨its, _, ⟨⟨cls, dd, data, sl⟩, n, e, c, dn, d⟩, _⟩ := I.list sq
    simp only at c d dn
    subst c d dn
    rcases hn with rfl | rfl
    · exact wpAny_tryCompare_declines tt F.slot_list_eq (call_meets F.slot_list_eq tt F.entry_list_eq (F.args_list_eq_2 _ _) (dcl_lst_eq l C dx X.K a its.toArray n none sl h2) ⟨I.kIn, e, hl, rfl, q⟩)
    · exact wpAny_tryCompare_declines tt F.slot_list_ne (call_meets F.slot_list_ne tt F.entry_list_ne (F.args_list_ne_2 _ _) (dcl_lst_ne l C dx X.K a its.toArray n none sl h2) ⟨I.kIn, e, hl, rfl, q⟩)
end
end PySem.W
set_option maxRecDepth 100000
set_option maxHeartbeats 2000000
namespace PySem.W
open PySem PyProof.Rows
section
variable {prog : Program} {w : World} {A : Around} {E : Value → Shared → Prop} {s : Shared} {K : Frag} {x C : Addr} {h₀ : Heap} {ox oy : Obj} {od : Option Obj} {f : Addr}
open Builtin in
theorem evn_ne {u : Value} {T : String} {Q : Value → Shared → Prop} {R : Shared → Prop} (hu : A.units < cLine) (hu1 : A.in1.units < cLine) (X : K.In s.heap) (I : InstAt s.heap x ox C od) (hT : s.TypeIs u T) (sub : subIn K (.type T) (.ref C) = some false)
    (hs : findIn K (.ref C) "__eq__" = some (some (.ref f))) (hf : isFn K (.ref f) = true) (hn : findIn K (.ref C) "__ne__" = some (some (.builtin "object.__ne__"))) (hm : mroIn K C (.type "object") = some true) (hsame : ∀ (s' : Shared) (Q' : Bool → Shared → Prop), R s' → Q' false s' → wpAny (model prog w) A (isSame (.ref x) u) Q' E s')
    (h1 : wpAny (model prog w) A.in1 (call (.ref f) [.ref x, u]) (fun v s' => v = .notImplemented ∧ R s') E s)
    (h2 : ∀ s', R s' → wpAny (model prog w) A (tryCompare u "__ne__" (.ref x)) (fun r s'' => r = none ∧ s'' = s') E s')
    (h3 : ∀ s', R s' → Q (.bool true) s') : wpAny (model prog w) A (compareOp .NotEq (.ref x) u) Q E s := by
  refine cmp_ofNotEq ?_
  have body : wpAny (model prog w) A.in1 (Builtin.«object.__ne__» ⟨[.ref x, u], []⟩) (fun r s' => r = .done (.ret .notImplemented) ∧ R s') E s := by
    unfold Builtin.«object.__ne__»
    repeat (first
      | with_reducible refine wpAny_cRoomFor hu1 ?_
      | (refine wpAny_bind (m := callSpecialIfBound? (.ref x) (Str.ofString "__eq__") [u])
          (ifBound_K X I hs hf (wpAny_mono h1 (fun r s' hr => by
            obtain ⟨rfl, hq⟩ := hr
            have hq : Fin.done (Flow.ret Value.notImplemented) = .done (.ret .notImplemented) ∧ R s' := ⟨rfl, hq⟩
            repeat (first | exact hq | exact wpAny_pure hq | wp_step)) fun _ _ e => e)))
      | wp_step)
  have one : wpAny (model prog w) A (tryCompare (.ref x) "__ne__" u) (fun r s' => r = none ∧ R s') E s := by
    unfold tryCompare
    refine wpAny_bind (evx_ifB X I hn F.slot_object_ne.bind (wpAny_call (codeAny_call_builtin F.slot_object_ne.plain F.entry_object_ne (check_slot (i := "object.__ne__") (owner := "object") (n := "__ne__") (by decide +kernel) (by decide +kernel) (I.type.andThen (looks_mroIn X hm)) (F.cmpArgs_ne _ _) ?_))))
    refine wpAny_mono body (fun r s' hr => ?_) fun _ _ e => e
    obtain ⟨rfl, hq⟩ := hr
    exact wpAny_pure ⟨rfl, hq⟩
  simp only [richCompare, cmpInfo_NotEq, oneThing_ref]
  refine wpAny_holding (wpAny_bind (wpAny_cRoomFor hu ?_))
  refine wpAny_bind (I.type.here ?_)
  refine wpAny_bind (wpAny_typeOf hT ?_)
  split
  · refine wpAny_bind ((looks_subIn X sub).here ?_)
    simp only [Bool.false_eq_true, if_false, Bool.not_false, if_true]
    refine wpAny_bind (m := tryCompare (.ref x) _ u) (wpAny_mono one (fun r s1 z => ?_) fun _ _ e => e)
    obtain ⟨z1, z2⟩ := z
    subst z1
    refine wpAny_bind (m := tryCompare u _ (.ref x)) (wpAny_mono (h2 s1 z2) (fun r s2 z => ?_) fun _ _ e => e)
    obtain ⟨z1, z3⟩ := z
    subst z1
    subst z3
    exact wpAny_bind (wpAny_rule (wpAny_bind (hsame _ _ z2 (wpAny_pure (h3 _ z2)))))
  · rename_i q
    exact absurd (by simp) q
end
end PySem.W
namespace PySem.W
open PyProof.Rows L2
section
variable {X : Cx} {pins : List (Addr × Obj)} {σ : L2.St} {H : Hp} {s : Shared} {A : Around} {E : Value → Shared → Prop} {Q : Bool → Shared → Prop} {v : V} {u : Value} {T : String} {l C dx : Addr}
theorem same_not (I : Inv X pins σ H s) (k : KindV X.K H v T) (r : L2.RelV v u) (hl : s.heap.get? l = some (instObj C dx)) (q : Q false s) : wpAny (model X.prog X.w) A (isSame (.ref l) u) Q E s := by
  have ref : ∀ {a : Addr} {o : Obj}, s.heap.get? a = some o → o.cls ≠ .ref C → wpAny (model X.prog X.w) A (isSame (.ref l) (.ref a)) Q E s := fun {a o} e hc => by
    have ne : l ≠ a := fun z => by
      rw [← z, hl] at e
      cases e
      exact hc rfl
    show wpAny _ A (if (l == a) = true then pure true else _) Q E s
    rw [if_neg (by simpa using ne)]
    refine wpAny_bind (wpAny_load hl (wpAny_bind (wpAny_load e ?_)))
    split
    · rename_i h1 h2
      cases h1
    · exact wpAny_pure q
  rcases k with ⟨rfl, rfl⟩ | ⟨b, rfl, rfl⟩ | ⟨i, rfl, rfl⟩ | ⟨x, rfl, rfl⟩ | ⟨a, xs, rfl, sq, rfl⟩ | ⟨a, xs, rfl, sq, rfl⟩
  · cases r; exact wpAny_pure q
  · cases r; exact wpAny_pure q
  · obtain ⟨t, rfl⟩ := r; exact wpAny_pure q
  · obtain ⟨t, rfl⟩ := r; exact wpAny_pure q
  · cases r
    obtain ⟨its, _, ⟨o, e, c, _⟩, _⟩ := I.tuple sq
    exact ref e (by rw [c]; exact fun z => nomatch z)
  · cases r
    obtain ⟨its, _, ⟨o, n, e, c, _⟩, _⟩ := I.list sq
    exact ref e (by rw [c]; exact fun z => nomatch z)
end
end PySem.W
namespace Ev
open PySem PySem.Spec PyProof.Rows L2
def ifC : List Stmt → Expr
  | .If c _ _ _ :: _ => c
  | _ => .Constant .none 0 ⟨0, 0, 0, 0⟩
def kindD : D → Option String
  | .non => some "NoneType" | .bl _ => some "bool" | .int _ => some "int" | .str _ => some "str" | .tup _ => some "tuple" | .lst _ => some "list" | .scr _ => some "list"
  | _ => none
section
variable {G : Sg} {X : Cx} {W : WX} {k : Nat} {σ : L2.St}
theorem kindD_rep (cK : G.K = X.K) {w : Wd} {d : D} {v : V} {T : String} (r : RepV G w d v) (h : kindD d = some T) : PySem.W.KindV X.K w.H v T := by
  cases d with
  | non => cases h; exact .inl ⟨r, rfl⟩
  | bl b => cases h; exact .inr (.inl ⟨b, r, rfl⟩)
  | int i => cases h; exact .inr (.inr (.inl ⟨i, r, rfl⟩))
  | str x => cases h; exact .inr (.inr (.inr (.inl ⟨x, r, rfl⟩)))
  | tup ds =>
    cases h
    obtain ⟨a, vs, e, hh, _⟩ := r
    exact .inr (.inr (.inr (.inr (.inl ⟨a, vs, e, sqT_of cK hh, rfl⟩))))
  | lst ds =>
    cases h
    obtain ⟨a, vs, e, _, hh, _⟩ := r
    exact .inr (.inr (.inr (.inr (.inr ⟨a, vs, e, .of hh, rfl⟩))))
  | scr ds =>
    cases h
    obtain ⟨a, vs, e, hh, _⟩ := r
    exact .inr (.inr (.inr (.inr (.inr ⟨a, vs, e, sqL_of cK hh, rfl⟩))))
  | _ => cases h
structure DecT (X : Cx) (G : Sg) (k : Nat) (tbl : Nat → Option (Nat × (List SV → M Bool))) : Prop where
  at_ : ∀ c g, tbl c = some g → ∃ f, PySem.W.findIn X.K (.ref (G.ca c)) "__eq__" = some (some (.ref f)) ∧ PySem.W.isFn X.K (.ref f) = true ∧ PySem.W.findIn X.K (.ref (G.ca c)) "__ne__" = some (some (.builtin "object.__ne__")) ∧
    PySem.W.mroIn X.K (G.ca c) (.type "object") = some true ∧ PySem.W.mroIn X.K (G.ca c) (.type "tuple") = some false ∧ PySem.W.mroIn X.K (G.ca c) (.type "list") = some false ∧
    (∀ T ∈ ["NoneType", "bool", "int", "str", "tuple", "list"], PySem.W.subIn X.K (.type T) (.ref (G.ca c)) = some false) ∧ DecS X.prog X.w X.K X.mg X.base G k 2 g.1 f g.2
theorem DecS.mono {P : Program} {w : World} {K : PySem.W.Frag} {mg : Str → Option Value} {base : Heap} {j m n : Nat} {f : Addr} {fc : List SV → M Bool} (h : DecS P w K mg base G j m n f fc) (l : j ≤ k) : DecS P w K mg base G k m n f fc :=
  fun A fr s wd us vs ds S S' Q hr => h A fr s wd us vs ds S S' Q (hr.mono l)
theorem all6 {p : String → Prop} (h1 : p "NoneType") (h2 : p "bool") (h3 : p "int") (h4 : p "str") (h5 : p "tuple") (h6 : p "list") : ∀ T ∈ ["NoneType", "bool", "int", "str", "tuple", "list"], p T := fun T h => by
  simp only [List.mem_cons, List.mem_nil_iff, or_false] at h
  rcases h with rfl | rfl | rfl | rfl | rfl | rfl <;> assumption
def decEq (neg : Bool) (tbl : Nat → Option (Nat × (List SV → M Bool))) (d e : D) : M D := match d with
  | .ins c _ => match tbl c, kindD e with
    | some (n, fc), some _ => fun S => match fc (slots n ([d, e].map .val)) S with
      | some (.ok true, S') => some (.ok (.bl neg), S')
      | _ => none
    | _, _ => M.stuck
  | _ => M.stuck
theorem o_decEq {op : CmpOp} {neg : Bool} {tbl : Nat → Option (Nat × (List SV → M Bool))} (c : Ctx G X W k) (T : DecT X G k tbl) (hop : (op = .Eq ∧ neg = false) ∨ (op = .NotEq ∧ neg = true)) : OpR X (compareOp op) (rD2 G (decEq neg tbl)) := by
  intro pins s σ H v1 v2 v u Q I rv ru ⟨Wx, w2, S2, d, d2, eH, s2, rd, rd2, q⟩
  subst eH
  unfold decEq at q
  cases d with
  | ins c1 ds =>
    simp only at q
    obtain ⟨a1, dx1, fs1, e1, hF1, hb1, _⟩ := id rd
    subst e1
    rcases ht : tbl c1 with _ | ⟨n, fc⟩
    · rw [ht] at q; exact q.elim
    rcases hk : kindD d2 with _ | T2
    · rw [ht, hk] at q; exact q.elim
    rw [ht, hk] at q
    simp only at q
    rcases hf : fc (slots n ([D.ins c1 ds, d2].map .val)) S2 with _ | ⟨_ | b, S3⟩
    · rw [hf] at q; exact q.elim
    · rw [hf] at q; exact q.elim
    cases b with
    | false => rw [hf] at q; exact q.elim
    | true =>
    rw [hf] at q
    obtain ⟨f, fi, isf, fn, hm, m1, m2, sb, Dc⟩ := T.at_ c1 (n, fc) ht
    cases (show v = Value.ref a1 from rv)
    obtain ⟨mA, O1, _⟩ := ins_get I.hok hb1
    obtain ⟨od1, J1, _⟩ := O1.look
    have kv := kindD_rep (X := X) c.cK rd2 hk
    have tT : T2 ∈ ["NoneType", "bool", "int", "str", "tuple", "list"] := by
      cases d2 <;> first | (cases hk; decide) | (exact absurd hk (fun z => nomatch z))
    have hu := c.rm.room.units0
    have hu1 : X.A.in1.units < cLine := (c.rm.in1).room.units0
    let Rr : Shared → Prop := fun s' => ∃ w', Ext w2 w' ∧ RepS G w' S3 ∧ Inv X pins σ w'.H s'
    have tell : ∀ s', Rr s' → ∃ H' dx', Inv X pins σ H' s' ∧ PySem.W.KindV X.K H' v2 T2 ∧ s'.heap.get? a1 = some (PySem.W.instObj (G.ca c1) dx') := fun s' ⟨w', e, s3, I3⟩ => by
      obtain ⟨a, dx', fs', ea, _, hb, _⟩ := RepV.mono e s2.dj _ _ rd
      cases ea
      obtain ⟨mA', O', _⟩ := ins_get I3.hok hb
      exact ⟨w'.H, dx', I3, kindD_rep (X := X) c.cK (RepV.mono e s2.dj _ _ rd2) hk, O'.obj⟩
    have fin : ∀ s', Rr s' → EP X pins σ Q (.bool neg) s' := fun s' ⟨w', e, s3, I3⟩ => ⟨.bl neg, w'.H, I3, rfl, q w' _ e s3 rfl⟩
    have runs : ∀ (A' : Around), Rm G.gd k A' → Env0 X.prog X.w X.K X.mg X.base A' X.stack s w2.H → wpAny (model X.prog X.w) A' (call (.ref f) [.ref a1, u]) (fun v s' => v = .notImplemented ∧ Rr s') X.xe s := fun A' hr e0 => by
      have body := Dc A' X.stack s w2 [.ref a1, u] [.ref a1, v2] [.ins c1 ds, d2] S2 S3 (fun H' => ∃ w', w'.H = H' ∧ Ext w2 w' ∧ RepS G w' S3) hr e0 (.cons rfl (.cons ru .nil)) s2 ⟨_, _, rfl, rd, _, _, rfl, rd2, rfl⟩ rfl hf (fun w' e s3 => ⟨w', rfl, e, s3⟩)
      refine wpAny_call (codeAny_mono body ?_)
      rintro r s' ⟨rfl, z⟩
      obtain ⟨v', H', I3, _, _, w', rfl, e, s3⟩ := I.after z
      exact ⟨rfl, w', e, s3, I3⟩
    rcases hop with ⟨rfl, rfl⟩ | ⟨rfl, rfl⟩
    · refine PySem.W.evn_eq (R := Rr) hu I.kIn J1 (kv.type I ru) (sb T2 tT) fi isf (fun s' Q' hr hq => ?_) (runs X.A c.rm0 I.env0) (fun s' hr => ?_) fin
      · obtain ⟨H', dx', I3, k3, hl⟩ := tell s' hr
        exact PySem.W.same_not I3 k3 ru hl hq
      · obtain ⟨H', dx', I3, k3, hl⟩ := tell s' hr
        exact PySem.W.dcl_of I3 k3 ru hl m1 m2 (.inl rfl) ⟨rfl, rfl⟩
    · refine PySem.W.evn_ne (R := Rr) hu hu1 I.kIn J1 (kv.type I ru) (sb T2 tT) fi isf fn hm (fun s' Q' hr hq => ?_) (runs X.A.in1 c.rm.in1 I.env0.in1) (fun s' hr => ?_) fin
      · obtain ⟨H', dx', I3, k3, hl⟩ := tell s' hr
        exact PySem.W.same_not I3 k3 ru hl hq
      · obtain ⟨H', dx', I3, k3, hl⟩ := tell s' hr
        exact PySem.W.dcl_of I3 k3 ru hl m1 m2 (.inr rfl) ⟨rfl, rfl⟩
  | _ => exact q.elim
def eqXN (neg : Bool) (tbl : Nat → Option (List D → M D)) (dec : Nat → Option (Nat × (List SV → M Bool))) (d e : D) : M D := if isObj d = true then (if isObj e = true then ownEq neg tbl d e else decEq neg dec d e) else dEq neg d e
theorem o_eqXN {tbl : Nat → Option (List D → M D)} {dec : Nat → Option (Nat × (List SV → M Bool))} (c : Ctx G X W k) (T : EqT X G k tbl) (T2 : DecT X G k dec) : OpR X (compareOp .Eq) (rD2 G (eqXN false tbl dec)) := by
  refine OpR.imp (((o_ownEq c T (.inl ⟨rfl, rfl⟩)).or (o_decEq c T2 (.inl ⟨rfl, rfl⟩))).or (o_eq c.cK c.rm)) fun v u H Q q => ?_
  obtain ⟨Wx, w2, S2, d, d2, eH, s2, rd, rd2, q⟩ := q
  unfold eqXN at q
  split at q
  · split at q
    · exact .inl (.inl ⟨Wx, w2, S2, d, d2, eH, s2, rd, rd2, q⟩)
    · exact .inl (.inr ⟨Wx, w2, S2, d, d2, eH, s2, rd, rd2, q⟩)
  · exact .inr ⟨Wx, w2, S2, d, d2, eH, s2, rd, rd2, q⟩
theorem o_neXN {tbl : Nat → Option (List D → M D)} {dec : Nat → Option (Nat × (List SV → M Bool))} (c : Ctx G X W k) (T : EqT X G k tbl) (T2 : DecT X G k dec) : OpR X (compareOp .NotEq) (rD2 G (eqXN true tbl dec)) := by
  refine OpR.imp (((o_ownEq c T (.inr ⟨rfl, rfl⟩)).or (o_decEq c T2 (.inr ⟨rfl, rfl⟩))).or (o_ne c.cK c.rm)) fun v u H Q q => ?_
  obtain ⟨Wx, w2, S2, d, d2, eH, s2, rd, rd2, q⟩ := q
  unfold eqXN at q
  split at q
  · split at q
    · exact .inl (.inl ⟨Wx, w2, S2, d, d2, eH, s2, rd, rd2, q⟩)
    · exact .inl (.inr ⟨Wx, w2, S2, d, d2, eH, s2, rd, rd2, q⟩)
  · exact .inr ⟨Wx, w2, S2, d, d2, eH, s2, rd, rd2, q⟩
end
end Ev
set_option maxRecDepth 100000
set_option maxHeartbeats 2000000
namespace Ev
open PySem PySem.Spec PyProof.Rows L2
section
variable {G : Sg} {X : Cx} {W : WX}
def frzW (i : Nat) : MS := fun sd S => match sd[i]? with
  | some (.own o) => some (.next (sd.set i (.val (frzO o))), S)
  | _ => some (.next sd, S)
theorem ss_frzW {i : Nat} {sts : List Stmt} {f : MS} (h : PSsV G X W sts f) : PSsV G X W sts (seqS (frzW i) f) := by
  have h1 := ss_frz (i := i) h
  refine ⟨fun pins s σ H D I ⟨w0, w, sd, S, e, r, q⟩ => ?_⟩
  rcases hs : sd[i]? with _ | x
  · refine h.run pins s σ H D I ⟨w0, w, sd, S, e, r, ?_⟩
    unfold seqS frzW at q
    rw [hs] at q
    exact q
  · cases x with
    | own o =>
      refine h1.run pins s σ H D I ⟨w0, w, sd, S, e, r, ?_⟩
      unfold seqS frzW at q
      unfold seqS frzS
      rw [hs] at q ⊢
      exact q
    | _ =>
      refine h.run pins s σ H D I ⟨w0, w, sd, S, e, r, ?_⟩
      unfold seqS frzW at q
      rw [hs] at q
      exact q
end
section
variable {sd : List SV} {S : List Ob} {N B C : List SV → List Ob → Prop} {R : D → List Ob → Prop}
theorem gs_frzV {i : Nat} {d : D} (e : sd[i]? = some (.val d)) (h : N sd S) : Ws (frzW i) sd S N R B C := by
  have z : frzW i sd S = some (.next sd, S) := by
    unfold frzW
    rw [e]
  unfold Ws RunS
  rw [z]
  exact h
theorem gs_frzO {i : Nat} {o : Ob} (e : sd[i]? = some (.own o)) (h : N (sd.set i (.val (frzO o))) S) : Ws (frzW i) sd S N R B C := by
  have z : frzW i sd S = some (.next (sd.set i (.val (frzO o))), S) := by
    unfold frzW
    rw [e]
  unfold Ws RunS
  rw [z]
  exact h
end
end Ev
set_option maxRecDepth 100000
set_option maxHeartbeats 2000000
namespace Ev
open PySem PySem.Spec PyProof.Rows L2
section
variable {prog : Program} {w : World} {A : Around} {R : GenEnd} {Y : Protocol} {n : Nat} {s₀ : Shared} {c : Code} {fs : List Frame} {s : Shared} {env : Env}
  {K : Flow → Sem PySem.Fin} {J : Value → Sem PySem.Fin} {gd : Bool → Bool} {lv : List Value → List Value}
abbrev turnLeft (env : Env) : Value → Sem PySem.Fin := fun e => (do noteFrame e env; theTreesLotGoes e : Sem Unit).wrap (fun _ => .raise e) .raise id id
abbrev turnNext (again : Code) : Flow → Sem PySem.Fin := fun f => match f with
  | .next => .pure (.again again)
  | .cont => .pure (.again again)
  | .brk => .pure (.done .next)
  | .ret v => .pure (.done (.ret v))
abbrev loopBack (env : Env) (K : Flow → Sem PySem.Fin) (J : Value → Sem PySem.Fin) (gd : Bool → Bool) (lv : List Value → List Value) : Result → Sem PySem.Fin :=
  fun r => ((match r with | .ok f => (.pure f : Sem Flow) | .error e => .raise e).onRaise (cameBack env)).wrap K J gd lv
theorem seg_for {tg iter : Expr} {body : List Stmt} {pos : Pos} (hs : ∀ x, foldedSetIterable iter env x = pure x)
    (h : wpAny (model prog w) (A.over c fs) (eval iter env) (fun x s1 => wpAny (model prog w) (A.over c fs) (pyIter x) (fun it s2 => ∀ p,
        Seg (model prog w) A R Y n s₀ (.forLoop tg it body [] env) ((model prog w).den (.forLoop tg it body [] env)) (.ret (loopBack env K J gd lv) none (gd false) (lv []) c p [] :: fs) s2)
      (fun e s' => Seg (model prog w) A R Y n s₀ c (J e) fs s') s1) (fun e s' => Seg (model prog w) A R Y n s₀ c (J e) fs s') s) :
    Seg (model prog w) A R Y n s₀ c ((exec (.For tg iter body [] pos) env).wrap K J gd lv) fs s := by
  rw [exec_For]
  refine seg_at ?_
  show Seg _ _ _ _ _ _ _ ((do
    let v ← eval iter env
    let x ← foldedSetIterable iter env v
    standAt iter.pos
    let it ← holding [x] (pyIter x)
    runOwn (.forLoop tg it body [] env) env : Sem Flow).wrap K J gd lv) _ _
  refine seg_bind_wrap (wpAny_mono h (fun x s1 h1 => ?_) fun _ _ z => z)
  rw [hs x]
  refine seg_bind_wrap (wpAny_pure ?_)
  refine seg_bind_wrap (wpAny_standAt ?_)
  refine seg_bind_wrap (wpAny_holding (wpAny_mono h1 (fun it s2 h2 => ?_) fun _ _ z => z))
  exact seg_call h2
theorem seg_forLoop {tg : Expr} {it : Value} {body : List Stmt}
    (h : wpAny (model prog w) (A.over (.forLoop tg it body [] env) fs) (pyNext it) (fun r s1 => match r with
        | none => Seg (model prog w) A R Y n s₀ (.block [] env) ((model prog w).den (.block [] env)) fs s1
        | some v => wpAny (model prog w) (A.over (.forLoop tg it body [] env) fs) (letOwnedTupleGo tg it v) (fun _ s2 =>
            wpAny (model prog w) (A.over (.forLoop tg it body [] env) fs) (assign tg env v) (fun _ s3 =>
              Seg (model prog w) A R Y n s₀ (.forLoop tg it body [] env) ((execs body env).wrap (turnNext (.forLoop tg it body [] env)) (turnLeft env) id id) fs s3)
              (fun e s' => Seg (model prog w) A R Y n s₀ (.forLoop tg it body [] env) (turnLeft env e) fs s') s2)
            (fun e s' => Seg (model prog w) A R Y n s₀ (.forLoop tg it body [] env) (turnLeft env e) fs s') s1)
      (fun e s' => Seg (model prog w) A R Y n s₀ (.forLoop tg it body [] env) (turnLeft env e) fs s') s) :
    Seg (model prog w) A R Y n s₀ (.forLoop tg it body [] env) ((model prog w).den (.forLoop tg it body [] env)) fs s := by
  show Seg _ A R Y n s₀ _ ((forTurn tg it body [] env).onRaise (fun x => do noteFrame x env; theTreesLotGoes x)) fs s
  rw [Sem.onRaise_eq_wrap]
  have tl : ∀ e : Value, ((do noteFrame e env; theTreesLotGoes e : Sem Unit).bind fun _ => (Sem.raise e : Sem PySem.Fin)) = turnLeft env e := fun e => by
    rw [Sem.bind_eq_wrap]
  refine seg_bind_wrap (wpAny_standAt ?_)
  refine seg_bind_wrap (wpAny_onRaise (wpAny_mono h (fun r s1 h1 => ?_) fun e s' z => wpAny_standAt ?_))
  · cases r with
    | none => exact seg_again rfl h1
    | some v =>
      refine seg_bind_wrap (wpAny_mono h1 (fun _ s2 h2 => ?_) fun e s' z => ?_)
      · refine seg_bind_wrap (wpAny_mono h2 (fun _ s3 h3 => ?_) fun e s' z => ?_)
        · rw [Sem.bind_eq_wrap', Sem.wrap_wrap]
          have q : ∀ t, t = (execs body env).wrap (turnNext (.forLoop tg it body [] env)) (turnLeft env) id id → Seg (model prog w) A R Y n s₀ (.forLoop tg it body [] env) t fs s3 := fun t e => by
            rw [e]
            exact h3
          exact q _ (Sem.wrap_congr (execs body env) id id (fun f => by cases f <;> rfl) (fun e => tl e))
        · exact (tl e).symm ▸ z
      · exact (tl e).symm ▸ z
  · exact (tl e).symm ▸ z
end
def tGFor (wi : TI) (g : TG) (tb : TGn) : TGn := fun D ys σ H => wi σ H fun J H1 => ∃ W : Nat → Nat → List V → L2.St → Hp → Prop, (∃ m, W 0 m ys σ H1) ∧ ∀ i m ys σ H, W i m ys σ H →
  (J.stop i H ∧ D.nx ys σ H) ∨ (J.go i H ∧ ∃ N : List V → L2.St → Hp → Prop, (∀ ys' σ' H', N ys' σ' H' → ∃ m', m' < m ∧ W (i + 1) m' ys' σ' H') ∧
    ∀ x H', J.yld i H x H' → g x σ H' fun σ2 H2 => tb { D with nx := N, ct := N, bk := D.nx } ys σ2 H2)
section
variable {X : Cx}
theorem gi_less {S : Addr} {ip more : List (Addr × Obj)} {ys : List V} {σ : L2.St} {H : Hp} {s : Shared} (h : GI X S (ip ++ more) ys σ H s) : GI X S ip ys σ H s := by
  obtain ⟨acc, c, r, I⟩ := h
  refine ⟨acc, c, r, I.pins_of fun p hp => I.pin p (List.mem_append_right _ ?_)⟩
  rcases List.mem_cons.mp hp with z | z
  · exact z ▸ List.mem_cons_self
  · exact List.mem_cons_of_mem _ (List.mem_append_left _ z)
theorem gsp_less {S : Addr} {ip more : List (Addr × Obj)} {D : GEnds} {ys : List V} {f : Flow} {s : Shared} (h : GSP X S (ip ++ more) D ys f s) : GSP X S ip D ys f s := by
  cases f with
  | next => obtain ⟨σ, H, a, b⟩ := h; exact ⟨σ, H, gi_less a, b⟩
  | brk => obtain ⟨σ, H, a, b⟩ := h; exact ⟨σ, H, gi_less a, b⟩
  | cont => obtain ⟨σ, H, a, b⟩ := h; exact ⟨σ, H, gi_less a, b⟩
  | ret u => obtain ⟨v, σ, H, a, b⟩ := h; exact ⟨v, σ, H, gi_less a, b⟩
theorem gsg_for {tg iter : Expr} {body : List Stmt} {pos : Pos} {wi : TI} {gt : TG} {tb : TGn} (po : PassesOwn (model X.prog X.w) X.A X.env X.xe) (cm : X.calm = true) (hi : PI X tg iter wi) (ht : PG X tg gt) (hb : GSs X body tb)
    (hs : ∀ x, foldedSetIterable iter X.env x = pure x) : GS X (.For tg iter body [] pos) (tGFor wi gt tb) := by
  refine ⟨fun A S ip R n0 ys0 s0 c fs K J gd lv st σ0 H0 D g0 hn0 k hI q0 => ?_⟩
  obtain ⟨acc0, cc0, r0, I0⟩ := hI
  refine seg_for hs ?_
  rw [g0.over]
  refine wpAny_mono (hi.run ((S, lstObj acc0 cc0) :: ip) st σ0 H0 _ I0 q0) (fun xv s1 h1 => wpAny_mono h1 (fun itv s2 h2 p => ?_) fun e s' z => k.exc n0 s0 e s' z) fun e s' z => k.exc n0 s0 e s' z
  obtain ⟨it, fp, tn, J1, H2, rfl, I2, T, st2, f2, W, ⟨m0, w0⟩, turn⟩ := h2
  have fpo : ∀ {acc : Array Value} {cc : Nat} {H' : Hp}, (∀ b ∈ fp, H' b = none) → ∀ b ∈ fp, FpOk X ((S, lstObj acc cc) :: ip) H' b := fun {acc cc H'} hn b hb => by
    obtain ⟨a1, a2, a3, a4, a5, a6⟩ := f2 b hb
    refine ⟨hn b hb, a2, a3, a4, a5, fun q hq => ?_⟩
    rcases List.mem_append.mp hq with z | z
    · exact a6 q (List.mem_append_left _ z)
    · rcases List.mem_cons.mp z with z | z
      · rw [z]
        exact a6 (S, lstObj acc0 cc0) (List.mem_append_right _ List.mem_cons_self)
      · exact a6 q (List.mem_append_right _ (List.mem_cons_of_mem _ z))
  have gl := gc_loop (k := loopBack X.env K J gd lv) (c' := .forLoop tg (.ref it) body [] X.env) (l := lv []) (kp := []) (p := p) g0 rfl rfl
  have ovr := gl.over
  have leave : ∀ (n : Nat) (s0 : Shared) (e : Value) (s' : Shared), X.xe e s' → Seg (model X.prog X.w) A R (GY X S) n s0 (.forLoop tg (.ref it) body [] X.env) (turnLeft X.env e) (.ret (loopBack X.env K J gd lv) none (gd false) (lv []) c p [] :: fs) s' := fun n s0 e s' hx => by
    refine seg_wrap ?_
    rw [ovr]
    refine wpAny_bind (wpAny_mono (po e s' hx) (fun _ s3 hcb => wpAny_theTreesLotGoes ?_) fun y s3 hcb => ?_)
    · exact seg_leaf (Except.error e) (seg_cameBack g0 k hcb)
    · exact seg_leaf (Except.error y) (seg_cameBack g0 k hcb)
  have main : ∀ (m i n : Nat) (ys : List V) (s0 s : Shared) (σ : L2.St) (H : Hp), n + ys.length = sizeLine → W i m ys σ H → tn i s.heap → (∀ b ∈ fp, H b = none) → GI X S ip ys σ H s →
      Seg (model X.prog X.w) A R (GY X S) n s0 (.forLoop tg (.ref it) body [] X.env) ((model X.prog X.w).den (.forLoop tg (.ref it) body [] X.env)) (.ret (loopBack X.env K J gd lv) none (gd false) (lv []) c p [] :: fs) s := by
    intro m
    induction m using Nat.strongRecOn with
    | ind m ih =>
      intro i n ys s0 s σ H hn w tns fpn hG
      obtain ⟨acc, cc, r, I⟩ := hG
      refine seg_forLoop ?_
      rw [ovr]
      rcases turn i m ys σ H w with ⟨stop, q⟩ | ⟨goo, N, hN, step⟩
      · refine wpAny_mono (T.done X rfl rfl rfl cm i ((S, lstObj acc cc) :: ip) s σ H X.xe I (fpo fpn) tns stop) (fun r1 s1 h1 => ?_) fun e s' z => leave n s0 e s' z
        obtain ⟨rfl, I1⟩ := h1
        show Seg _ _ _ _ _ _ _ (leafOf (Except.ok Flow.next)) _ _
        exact seg_leaf (Except.ok Flow.next) (k.ok n ys s0 s1 Flow.next hn ⟨σ, H, ⟨acc, cc, r, I1⟩, q⟩)
      · refine wpAny_mono (T.item X rfl rfl rfl cm i ((S, lstObj acc cc) :: ip) s σ H X.xe I (fpo fpn) tns goo) (fun r1 s1 h1 => ?_) fun e s' z => leave n s0 e s' z
        obtain ⟨u, rfl, h1⟩ := h1
        refine wpAny_mono h1 (fun _ s2 h2 => ?_) fun e s' z => leave n s0 e s' z
        obtain ⟨x, H3, I3, rx, yx, tn3, fp3⟩ := h2
        have obs := T.obj _ _ tn3
        have I4 := I3.pinned (fpo fp3) obs
        refine wpAny_mono (ht.run _ s2 σ H3 x u _ I4 rx (step x H3 yx)) (fun _ s3 h3 => ?_) fun e s' z => leave n s0 e s' z
        obtain ⟨σ3, H4, I5, q5⟩ := h3
        have apart : ∀ q ∈ ip ++ pinsAt fp s2.heap, q.1 ≠ S := fun q hq => by
          rcases List.mem_append.mp hq with z | z
          · exact g0.ip q z
          · obtain ⟨hb, _⟩ := of_pinsAt z
            exact fun e => (f2 q.1 hb).2.2.2.2.2 (S, lstObj acc0 cc0) (List.mem_append_right _ List.mem_cons_self) e.symm
        have g1 : GC X S (ip ++ pinsAt fp s2.heap) A (.forLoop tg (.ref it) body [] X.env) (.ret (loopBack X.env K J gd lv) none (gd false) (lv []) c p [] :: fs) id := ⟨gl.pn, apart, gl.apart, gl.over, gl.split, gl.guard, gl.gd⟩
        refine hb.run A S (ip ++ pinsAt fp s2.heap) R n ys s0 _ _ _ _ id id s3 σ3 H4 { D with nx := N, ct := N, bk := D.nx } g1 hn ⟨fun n' ys' s0' s' f hn' hsp => ?_, fun n' s0' e s' z => leave n' s0' e s' z⟩ ⟨acc, cc, r, I5⟩ q5
        have again : ∀ (σ' : L2.St) (H' : Hp), GI X S (ip ++ pinsAt fp s2.heap) ys' σ' H' s' → N ys' σ' H' →
            Seg (model X.prog X.w) A R (GY X S) n' s0' (.forLoop tg (.ref it) body [] X.env) (.pure (.again (.forLoop tg (.ref it) body [] X.env))) (.ret (loopBack X.env K J gd lv) none (gd false) (lv []) c p [] :: fs) s' := fun σ' H' hG' hN' => by
          obtain ⟨m', lt, w'⟩ := hN ys' σ' H' hN'
          have held : ∀ b ∈ fp, ∀ o, s2.heap.get? b = some o → s'.heap.get? b = some o ∧ H' b = none := fun b hb o e => by
            obtain ⟨_, _, _, I'⟩ := hG'
            have z := I'.pin (b, o) (List.mem_append_right _ (List.mem_cons_of_mem _ (List.mem_append_right _ (mem_pinsAt hb e))))
            exact ⟨z.1, z.2.1⟩
          refine seg_again rfl (ih m' lt (i + 1) n' ys' s0' s' σ' H' hn' w' (T.keep _ _ _ tn3 fun b hb o e => (held b hb o e).1) (fun b hb => ?_) (gi_less hG'))
          obtain ⟨o, e, _⟩ := obs b hb
          exact (held b hb o e).2
        cases f with
        | next =>
          obtain ⟨σ', H', a, b⟩ := hsp
          exact again σ' H' a b
        | cont =>
          obtain ⟨σ', H', a, b⟩ := hsp
          exact again σ' H' a b
        | brk =>
          obtain ⟨σ', H', a, b⟩ := hsp
          exact seg_leaf (Except.ok Flow.next) (k.ok n' ys' s0' s' Flow.next hn' ⟨σ', H', gi_less a, b⟩)
        | ret v =>
          obtain ⟨v', σ', H', a, rv, b⟩ := hsp
          exact seg_leaf (Except.ok (Flow.ret v)) (k.ok n' ys' s0' s' (Flow.ret v) hn' ⟨v', σ', H', gi_less a, rv, b⟩)
  exact main m0 0 n0 ys0 s0 s2 σ0 H2 hn0 w0 st2 (fun b hb => (f2 b hb).1) ⟨acc0, cc0, r0, I2⟩
end
end Ev
set_option maxRecDepth 100000
set_option maxHeartbeats 2000000
namespace Ev
open PySem PySem.Spec PyProof.Rows L2
abbrev MG : Type := List SV → List Ob → List D → Option (Out × List Ob × List D)
def FinN (G : Sg) (W : WX) (w0 w : Wd) (D : GEnds) : Option (Out × List Ob × List Ev.D) → Prop
  | none => False
  | some (.next sd, S, out) => ∀ w' σ' ys, Stay w w' → R G w0 w' sd S σ' → RepVs G w' out ys → D.nx ys σ' w'.H
  | some (.ret _, _, _) => False
  | some (.brk sd, S, out) => ∀ w' σ' ys, Stay w w' → R G w0 w' sd S σ' → RepVs G w' out ys → D.bk ys σ' w'.H
  | some (.cont sd, S, out) => ∀ w' σ' ys, Stay w w' → R G w0 w' sd S σ' → RepVs G w' out ys → D.ct ys σ' w'.H
  | some (.err e sd, S, _) => ∀ w' σ' cls x, Stay w w' → R G w0 w' sd S σ' → RepX G w' e cls x → W cls x σ' w'.H
def tgN (G : Sg) (W : WX) (f : MG) : TGn := fun D ys σ H => ∃ w0 w sd S out, w.H = H ∧ R G w0 w sd S σ ∧ RepVs G w out ys ∧ FinN G W w0 w D (f sd S out)
abbrev PGS (G : Sg) (X : Cx) (W : WX) (st : Stmt) (f : MG) : Prop := GS X st (tgN G W f)
abbrev PGSs (G : Sg) (X : Cx) (W : WX) (st : List Stmt) (f : MG) : Prop := GSs X st (tgN G W f)
theorem gs_imp {X : Cx} {st : Stmt} {t t' : TGn} (h : GS X st t) (i : ∀ D ys σ H, t' D ys σ H → t D ys σ H) : GS X st t' :=
  ⟨fun A S ip R n ys s0 c fs K J gd lv s σ H D g hn k I q => h.run A S ip R n ys s0 c fs K J gd lv s σ H D g hn k I (i D ys σ H q)⟩
theorem gss_imp {X : Cx} {st : List Stmt} {t t' : TGn} (h : GSs X st t) (i : ∀ D ys σ H, t' D ys σ H → t D ys σ H) : GSs X st t' :=
  ⟨fun A S ip R n ys s0 c fs K J gd lv s σ H D g hn k I q => h.run A S ip R n ys s0 c fs K J gd lv s σ H D g hn k I (i D ys σ H q)⟩
theorem FinN.stay {G : Sg} {W : WX} {w0 w w1 : Wd} {D : GEnds} {r : Option (Out × List Ob × List Ev.D)} (e : Stay w w1) (h : FinN G W w0 w D r) : FinN G W w0 w1 D r := by
  rcases r with _ | ⟨_ | _ | _ | _ | _, _, _⟩
  · exact h
  · exact fun w' σ' ys s => h w' σ' ys (e.trans s)
  · exact h
  · exact fun w' σ' ys s => h w' σ' ys (e.trans s)
  · exact fun w' σ' ys s => h w' σ' ys (e.trans s)
  · exact fun w' σ' c x s => h w' σ' c x (e.trans s)
def plainG (f : MS) : MG := fun sd S out => match f sd S with
  | none => none
  | some (.ret _, _) => none
  | some (o, S') => some (o, S', out)
def yieldG (f : List SV → M D) : MG := fun sd S out => if out.length < lim then (match f sd S with
  | none => none
  | some (.error e, S1) => some (.err e sd, S1, out)
  | some (.ok d, S1) => some (.next sd, S1, out ++ [d])) else none
def nilG : MG := fun sd S out => some (.next sd, S, out)
def seqG (f g : MG) : MG := fun sd S out => match f sd S out with
  | some (.next sd', S', out') => g sd' S' out'
  | o => o
def loopG (t : Tgt) (body : MG) : List D → MG
  | [] => nilG
  | d :: ds => fun sd S out => match t d sd S with
    | none => none
    | some (sd1, S1) => match body sd1 S1 out with
      | some (.next sd2, S2, out2) => loopG t body ds sd2 S2 out2
      | some (.cont sd2, S2, out2) => loopG t body ds sd2 S2 out2
      | some (.brk sd2, S2, out2) => some (.next sd2, S2, out2)
      | o => o
def forG (f : List SV → M (List D)) (t : Tgt) (body : MG) : MG := fun sd S out => match f sd S with
  | none => none
  | some (.error e, S1) => some (.err e sd, S1, out)
  | some (.ok ds, S1) => loopG t body ds sd S1 out
section
variable {G : Sg} {X : Cx} {W : WX} {k : Nat}
theorem plain_at {f : MS} {D : GEnds} {ys : List V} {σ : L2.St} {H : Hp} (h : tgN G W (plainG f) D ys σ H) : tsV G W f (D.at ys) σ H := by
  obtain ⟨w0, w, sd, S, out, e, r, ro, q⟩ := h
  refine ⟨w0, w, sd, S, e, r, ?_⟩
  unfold plainG at q
  rcases hf : f sd S with _ | ⟨_ | _ | _ | _ | _, S1⟩
  · rw [hf] at q; exact q
  · rw [hf] at q
    exact fun w' σ' s r' => q w' σ' ys s r' (RepVs.stay s _ _ ro)
  · rw [hf] at q; exact q.elim
  · rw [hf] at q
    exact fun w' σ' s r' => q w' σ' ys s r' (RepVs.stay s _ _ ro)
  · rw [hf] at q
    exact fun w' σ' s r' => q w' σ' ys s r' (RepVs.stay s _ _ ro)
  · rw [hf] at q
    exact fun w' σ' cls x s r' rx => q w' σ' cls x s r' rx
theorem sg_plain {st : Stmt} {f : MS} (h : PSV G X W st f) : PGS G X W st (plainG f) := gs_imp (gs_ps h) fun D ys σ H q => plain_at q
theorem sg_nil : PGSs G X W [] nilG := gss_imp gss_nil fun D ys σ H q => by
  obtain ⟨w0, w, sd, S, out, e, r, ro, q⟩ := q
  subst e
  exact q w σ ys (Stay.refl w) r ro
theorem sg_cons {st : Stmt} {rest : List Stmt} {f g : MG} (h1 : PGS G X W st f) (h2 : PGSs G X W rest g) : PGSs G X W (st :: rest) (seqG f g) := by
  refine gss_imp (gss_cons h1 h2) fun D ys σ H q => ?_
  obtain ⟨w0, w, sd, S, out, e, r, ro, q⟩ := q
  refine ⟨w0, w, sd, S, out, e, r, ro, ?_⟩
  unfold seqG at q
  rcases hf : f sd S out with _ | ⟨_ | _ | _ | _ | _, S1, out1⟩
  · rw [hf] at q; exact q
  · rw [hf] at q
    exact fun w' σ' ys' s r' ro' => ⟨w0, w', _, S1, out1, rfl, r', ro', FinN.stay s q⟩
  · rw [hf] at q; exact q
  · rw [hf] at q; exact q
  · rw [hf] at q; exact q
  · rw [hf] at q; exact q
theorem sg_yield {e : Expr} {f : List SV → M D} {yp pos : Pos} (h : PV G X W e f) (hco : X.env.scope.isCoroutine = false) (hi : interactive X.env = false) : PGS G X W (.Expr (.Yield (some e) yp) pos) (yieldG f) := by
  refine gs_imp (gs_yield h hco hi) fun D ys σ H q => ?_
  obtain ⟨w0, w, sd, S, out, e, r, ro, q⟩ := q
  unfold yieldG at q
  by_cases l : out.length < lim
  · rw [if_pos l] at q
    refine ⟨by rw [← ro.length, ← lim_eq]; exact l, w0, w, sd, S, e, r, ?_⟩
    rcases hf : f sd S with _ | ⟨_ | d, S1⟩
    · rw [hf] at q; exact q
    · rw [hf] at q
      exact fun w' cls x ex s rx => q w' σ cls x (ex.stay r.st.dj) (r.step ex s) rx
    · rw [hf] at q
      exact fun w' v ex s rv => q w' σ (ys ++ [v]) (ex.stay r.st.dj) (r.step ex s) (RepVs.append (RepVs.mono ex r.st.dj _ _ ro) (RepVs.one rv))
  · rw [if_neg l] at q
    exact q.elim
theorem sg_for {ts : List Nat} {tg iter : Expr} {body : List Stmt} {f : List SV → M (List D)} {t : Tgt} {fb : MG} {pos : Pos} (c : Ctx G X W k) (hi : PIV G X W tg iter f) (hg : PGV G X ts tg t) (hb : PGSs G X W body fb) (hs : setFree iter = true) :
    PGS G X W (.For tg iter body [] pos) (forG f t fb) := by
  refine gs_imp (gsg_for c.po c.calm hi hg hb (set_free hs)) fun En ys0 σ H q => ?_
  obtain ⟨w0, w, sd, S, out, e, r, ro, q⟩ := q
  refine ⟨w0, w, sd, S, e, r, ?_⟩
  unfold forG at q
  rcases hf : f sd S with _ | ⟨_ | ds, S1⟩
  · rw [hf] at q; exact q
  · rw [hf] at q
    exact fun w' cls x ex s rx => q w' σ cls x (ex.stay r.st.dj) (r.step ex s) rx
  rw [hf] at q
  intro w1 J ex s1 Y
  have q1 : FinN G W w0 w1 En (loopG t fb ds sd S1 out) := FinN.stay (ex.stay r.st.dj) q
  have r1 := r.step ex s1
  have ro1 := RepVs.mono ex r.st.dj _ _ ro
  refine ⟨fun i m ys σ H => m = ds.length - i ∧ i ≤ ds.length ∧ ∃ w sd S out, w.H = H ∧ Stay w1 w ∧ R G w0 w sd S σ ∧ RepVs G w out ys ∧ FinN G W w0 w En (loopG t fb (ds.drop i) sd S out), ⟨_, rfl, Nat.zero_le _, w1, sd, S1, out, rfl, Stay.refl _, r1, ro1, q1⟩, ?_⟩
  rintro i m ys σ2 H2 ⟨rfl, hi2, w2, sd2, S2, out2, rfl, st2, r2, ro2, q2⟩
  by_cases hlt : i < ds.length
  · obtain ⟨d, hd, hdr⟩ := drop_cons hlt
    rw [hdr] at q2
    refine .inr ⟨Y.go w2 i st2 hlt, _, fun ys' σ' H' hN => ⟨ds.length - (i + 1), by omega, hN⟩, fun x H' hy => ?_⟩
    obtain ⟨w3, rfl, e3, s3, rx⟩ := Y.yld w2 i d x H' S2 st2 r2.st hd hy
    have r3 := r2.step e3 s3
    refine ⟨w0, w3, sd2, S2, d, rfl, r3, rx, ?_⟩
    unfold loopG at q2
    rcases ht : t d sd2 S2 with _ | ⟨sd4, S4⟩
    · rw [ht] at q2; exact q2
    · rw [ht] at q2
      simp only at q2
      intro w4 σ4 st4 r4 _
      have st24 : Stay w2 w4 := (e3.stay r2.st.dj).trans st4
      refine ⟨w0, w4, sd4, S4, out2, rfl, r4, RepVs.stay st24 _ _ ro2, ?_⟩
      rcases hbq : fb sd4 S4 out2 with _ | ⟨_ | _ | _ | _ | _, S5, out5⟩
      · rw [hbq] at q2; exact q2
      · rw [hbq] at q2
        exact fun w5 σ5 ys5 st5 r5 ro5 => ⟨rfl, hlt, w5, _, S5, out5, rfl, st2.trans (st24.trans st5), r5, ro5, FinN.stay (st24.trans st5) q2⟩
      · rw [hbq] at q2; exact q2
      · rw [hbq] at q2
        exact fun w5 σ5 ys5 st5 r5 ro5 => q2 w5 σ5 ys5 (st24.trans st5) r5 ro5
      · rw [hbq] at q2
        exact fun w5 σ5 ys5 st5 r5 ro5 => ⟨rfl, hlt, w5, _, S5, out5, rfl, st2.trans (st24.trans st5), r5, ro5, FinN.stay (st24.trans st5) q2⟩
      · rw [hbq] at q2
        exact fun w5 σ5 cl y st5 r5 => q2 w5 σ5 cl y (st24.trans st5) r5
  · have e : i = ds.length := by omega
    subst e
    rw [List.drop_length] at q2
    exact .inl ⟨Y.stop w2 _ st2 (Nat.le_refl _), q2 w2 σ2 ys (Stay.refl _) r2 ro2⟩
end
end Ev
set_option maxRecDepth 100000
set_option maxHeartbeats 2000000
namespace Ev
open PySem PySem.Spec PyProof.Rows L2
def Sg.un (G : Sg) : Sg := { G with gd := false }
section
variable {G : Sg} {w : Wd}
mutual
theorem rep_un : ∀ (d : D) (v : V), RepV G.un w d v ↔ RepV G w d v
  | .non, _ => Iff.rfl
  | .bl _, _ => Iff.rfl
  | .int _, _ => Iff.rfl
  | .str _, _ => Iff.rfl
  | .tup ds, v => by
    constructor
    · rintro ⟨a, vs, e, h, r⟩; exact ⟨a, vs, e, h, (reps_un ds vs).mp r⟩
    · rintro ⟨a, vs, e, h, r⟩; exact ⟨a, vs, e, h, (reps_un ds vs).mpr r⟩
  | .lst ds, v => by
    constructor
    · rintro ⟨a, vs, e, f, h, r⟩; exact ⟨a, vs, e, f, h, (reps_un ds vs).mp r⟩
    · rintro ⟨a, vs, e, f, h, r⟩; exact ⟨a, vs, e, f, h, (reps_un ds vs).mpr r⟩
  | .scr ds, v => by
    constructor
    · rintro ⟨a, vs, e, h, r⟩; exact ⟨a, vs, e, h, (reps_un ds vs).mp r⟩
    · rintro ⟨a, vs, e, h, r⟩; exact ⟨a, vs, e, h, (reps_un ds vs).mpr r⟩
  | .dct ks ds, v => by
    constructor
    · rintro ⟨a, vs, e, f, h, l, r⟩; exact ⟨a, vs, e, f, h, l, (reps_un ds vs).mp r⟩
    · rintro ⟨a, vs, e, f, h, l, r⟩; exact ⟨a, vs, e, f, h, l, (reps_un ds vs).mpr r⟩
  | .ins c ds, v => by
    constructor
    · rintro ⟨a, dx, vs, e, f, h, l, r⟩; exact ⟨a, dx, vs, e, f, h, l, (reps_un ds vs).mp r⟩
    · rintro ⟨a, dx, vs, e, f, h, l, r⟩; exact ⟨a, dx, vs, e, f, h, l, (reps_un ds vs).mpr r⟩
  | .ref _, _ => Iff.rfl
  | .ty _, _ => Iff.rfl
  | .cls _, _ => Iff.rfl
theorem reps_un : ∀ (ds : List D) (vs : List V), RepVs G.un w ds vs ↔ RepVs G w ds vs
  | [], _ => Iff.rfl
  | d :: ds, vs => by
    constructor
    · rintro ⟨v, r, e, h, t⟩; exact ⟨v, r, e, (rep_un d v).mp h, (reps_un ds r).mp t⟩
    · rintro ⟨v, r, e, h, t⟩; exact ⟨v, r, e, (rep_un d v).mpr h, (reps_un ds r).mpr t⟩
end
theorem repo_un {a : Addr} {o : Ob} : RepO G.un w a o ↔ RepO G w a o := by
  cases o with
  | lst ds =>
    constructor
    · rintro ⟨vs, h, r⟩; exact ⟨vs, h, (reps_un ds vs).mp r⟩
    · rintro ⟨vs, h, r⟩; exact ⟨vs, h, (reps_un ds vs).mpr r⟩
  | dct ks ds =>
    constructor
    · rintro ⟨vs, h, l, r⟩; exact ⟨vs, h, l, (reps_un ds vs).mp r⟩
    · rintro ⟨vs, h, l, r⟩; exact ⟨vs, h, l, (reps_un ds vs).mpr r⟩
  | ins c ds =>
    constructor
    · rintro ⟨dx, vs, h, l, r⟩; exact ⟨dx, vs, h, l, (reps_un ds vs).mp r⟩
    · rintro ⟨dx, vs, h, l, r⟩; exact ⟨dx, vs, h, l, (reps_un ds vs).mpr r⟩
theorem store_un {S : List Ob} : RepS G.un w S ↔ RepS G w S := by
  constructor
  · rintro ⟨a, b, c, d, e⟩; exact ⟨a, b, c, d, fun n x o h1 h2 => repo_un.mp (e n x o h1 h2)⟩
  · rintro ⟨a, b, c, d, e⟩; exact ⟨a, b, c, d, fun n x o h1 h2 => repo_un.mpr (e n x o h1 h2)⟩
end
def finN : Option (Out × List Ob × List D) → Option (Except Exn (List D) × List Ob)
  | some (.next _, S, out) => some (.ok out, S)
  | some (.err e _, S, _) => some (.error e, S)
  | _ => none
def genFn (m n : Nat) (ms : MG) : List D → M (List D) := fun ds S => if ds.length = m then finN (ms (slots n (ds.map .val)) S []) else none
def FinL (G : Sg) (w : Wd) (Q : List V → Hp → Prop) : Option (Except Exn (List D) × List Ob) → Prop
  | some (.ok l, S) => ∀ w' vs, Ext w w' → RepS G w' S → RepVs G w' l vs → Q vs w'.H
  | _ => False
def spGen (G : Sg) (sem : List D → M (List D)) : SpG := fun vs H Q _ => ∃ w ds S, w.H = H ∧ RepS G w S ∧ RepVs G w ds vs ∧ FinL G w Q (sem ds S)
section
variable {P : Program} {w : World} {K : PySem.W.Frag} {mg : Str → Option Value} {base : Heap} {G : Sg} {k : Nat} {f : Addr} {x qual : Str} {st : Stmt} {fd : FuncData} {N ps : List Str} {ms : MG}
abbrev XG (P : Program) (w : World) (K : PySem.W.Frag) (mg : Str → Option Value) (base : Heap) (N : List Str) (qual : Str) (st : Stmt) (f : Addr) (cdv : Value) (A : Around) (fr : List Env) (s : Shared) (H : Hp) (E : XK) (pn : List (Addr × Obj)) : Cx :=
  gcxOf P w K mg base N qual (defScope st) f cdv A fr s H E pn
def GBody (P : Program) (w : World) (K : PySem.W.Frag) (mg : Str → Option Value) (base : Heap) (G : Sg) (k : Nat) (f : Addr) (N : List Str) (qual : Str) (st : Stmt) (ms : MG) : Prop :=
  ∀ (cdv : Value) (A : Around) (fr : List Env) (s : Shared) (H : Hp) (E : XK) (pn : List (Addr × Obj)), Ctx G (XG P w K mg base N qual st f cdv A fr s H E pn) (WF E) k → PGSs G (XG P w K mg base N qual st f cdv A fr s H E pn) (WF E) (defBody st) ms
theorem ctxG (cK : G.K = K) (SC : GScope N ps (defScope st)) {cdv : Value} {A : Around} {fr : List Env} {s : Shared} {H : Hp} {E : XK} {pn : List (Addr × Obj)} (hr : Rm G.gd (k + 1) (A.deeper (envOfC qual (defScope st) s.heap.objs.size f cdv))) :
    Ctx G (XG P w K mg base N qual st f cdv A fr s H E pn) (WF E) k := ⟨cK, rfl, hr, SC.nd, fun σ => L2.passAt takes_gcx σ, owns_gcx⟩
theorem gen_rule (F : Fun K x qual st f fd) (SC : GScope N ps (defScope st)) (cK : G.K = K) (gf : G.gd = false) (B : GBody P w K mg base G k f N qual st ms) {m n : Nat} (em : ps.length = m) (en : N.length = n) (hmn : m ≤ n) :
    GFn P w K mg base (k + 2) f fd ps (spGen G (genFn m n ms)) := by
  obtain ⟨oc, od, kV, doc, pm, an, cdv, ct, osl, rfl, lk, hcd⟩ := F.ex
  have len : ∀ vs H Q E, spGen G (genFn m n ms) vs H Q E → vs.length = ps.length := by
    rintro vs H Q E ⟨wd, ds, S, eH, rs, rv, q⟩
    unfold genFn at q
    split at q
    · next e => rw [← rv.length, e, em]
    · exact q.elim
  refine gfn_of lk hcd SC len fun A fr s H vs Q E pn hr hsp => ?_
  refine ⟨_, B cdv A fr s H E pn (ctxG cK SC ⟨hr, fun z => by rw [gf] at z; cases z⟩), ?_⟩
  obtain ⟨wd, ds, S, eH, rs, rv, q⟩ := hsp
  unfold genFn at q
  split at q
  · next e =>
    subst em en
    refine ⟨wd, wd, _, S, [], eH, R.enter rs rv (by omega), rfl, ?_⟩
    rcases hm : ms (slots N.length (ds.map .val)) S [] with _ | ⟨_ | _ | _ | _ | _, S1, out⟩
    · rw [hm] at q; exact q
    · rw [hm] at q
      exact fun w' σ' ys _ r' ro => q w' ys r'.ex r'.st ro
    · rw [hm] at q; exact q.elim
    · rw [hm] at q; exact q.elim
    · rw [hm] at q; exact q.elim
    · rw [hm] at q; exact q.elim
  · exact q.elim
end
end Ev
set_option maxRecDepth 100000
set_option maxHeartbeats 2000000
namespace Ev
open PySem PySem.Spec PyProof.Rows L2
abbrev NoX : XK := fun _ _ _ => False
theorem pass_nox {X : Cx} : Passes (L2.CX X.prog X.w) X NoX := by
  intro pins σ H s e s' I c
  obtain ⟨a, B, H', cls, d, _, fl, _, _, _, _, _, hW⟩ := c
  exact hW.elim
theorem stop_nox {K : PySem.W.Frag} : NoStop K NoX := fun _ _ _ z => z.elim
structure GnK (P : Program) (w : World) (K : PySem.W.Frag) (mg : Str → Option Value) (base : Heap) (G : Sg) (k : Nat) (f : Addr) (m : Nat) (ks : List Str) (sem : List D → M (List D)) : Prop where
  run : ∀ (A : Around) (fr : List Env) (s : Shared) (H : Hp) (us ws : List Value) (vs zs : List V) (Q : List V → Hp → Prop),
    Room k A → Env0 P w K mg base A fr s H → Vals vs us → Vals zs ws → vs.length = m → zs.length = ks.length → (∃ wd ds S, wd.H = H ∧ RepS G wd S ∧ RepVs G wd ds (vs ++ zs) ∧ FinL G wd Q (sem ds S)) →
    codeAny (model P w) A (.call (.ref f) ⟨us, ks.zip ws⟩) (fun r s' => match r with | .ok (.ret u) => GMade P w k fr H s [] Q NoX u s' | _ => False) s
section
variable {P : Program} {w : World} {K : PySem.W.Frag} {mg : Str → Option Value} {base : Heap} {G : Sg} {k m : Nat} {f : Addr} {x qual : Str} {st : Stmt} {fd : FuncData} {N ps ks : List Str} {ms : MG} {ix : List Nat}
theorem FinL.un {wd : Wd} {Q : List V → Hp → Prop} {r : Option (Except Exn (List D) × List Ob)} (h : FinL G wd Q r) : FinL G.un wd Q r := by
  rcases r with _ | ⟨_ | l, S⟩
  · exact h
  · exact h
  · exact fun w' vs e s r => h w' vs e (store_un.mp s) ((reps_un _ _).mp r)
theorem gnk_rule (F : Fun K x qual st f fd) (SC : GScope N ps (defScope st)) (hb : KwBinds st x qual ps ks m ix) (cK : G.K = K) (B : GBody P w K mg base G.un k f N qual st ms) {a n : Nat} (ea : ps.length = a) (en : N.length = n) (hmn : a ≤ n) :
    GnK P w K mg base G (k + 2) f m ks (fun ds => genFn a n ms (perm ix ds)) := by
  have g := gen_rule F SC (G := G.un) cK rfl B ea en hmn
  obtain ⟨oc, od, kV, doc, pm, an, cdv, ct, osl, rfl, lk, hcd⟩ := F.ex
  refine ⟨fun A fr s H us ws vs zs Q hr e0 r r2 l1 l2 ⟨wd, ds, S, eH, rs, rv, q⟩ => ?_⟩
  exact g.run A fr s H ⟨us, ks.zip ws⟩ (perm ix (us ++ ws)) _ Q NoX hr e0 (.of_eq (hb _ _ _ _ _ _ us ws (r.length.symm.trans l1) (r2.length.symm.trans l2))) (vals_perm (r.append r2) ix)
    ⟨wd, perm ix ds, S, eH, store_un.mpr rs, (reps_un _ _).mpr (reps_perm rv ix), FinL.un q⟩
end
def pickN (tbl : Nat → Option (List D → M (List D))) (d : D) : M (List D → M (List D)) := M.bind (clsOf d) fun c => match tbl c with
  | some g => M.pure g
  | none => M.stuck
section
variable {G : Sg} {X : Cx} {W : WX} {k n m j : Nat} {mm : Str} {p pos apos : Pos} {e o : Expr} {es : List Expr} {kws : List Keyword} {ks : List Str} {fa fk : List SV → M (List D)} {fo : List SV → M D} {σ : L2.St}
structure GMethT (X : Cx) (G : Sg) (k : Nat) (mm : Str) (m : Nat) (ks : List Str) (tbl : Nat → Option (List D → M (List D))) : Prop where
  at_ : ∀ c g, tbl c = some g → ∃ f, Cls X.K (G.ca c) ∧ Meth X.K (G.ca c) mm f ∧ GnK X.prog X.w X.K X.mg X.base G k f (m + 1) ks g ∧ mm ∉ G.fn c
theorem pickN_fin {α β : Type} {rep : Wd → α → β → Prop} {W' : Value → Option Addr → Hp → Prop} {w : Wd} {Q : β → Hp → Prop} {S : List Ob} {tbl : Nat → Option (List D → M (List D))} {d : D} {kk : (List D → M (List D)) → M α} {v : V} (s : RepS G w S) (rd : RepV G w d v)
    (h : FinG G rep W' w Q (M.bind (pickN tbl d) kk S)) : ∃ c g, tbl c = some g ∧ FinG G rep W' w Q (kk g S) ∧ ∃ a dx vs, v = .ref a ∧ w.H a = some (.ins (G.ca c) dx ((G.fn c).zip vs)) := by
  unfold pickN M.bind at h
  rcases hc : clsOf d S with _ | ⟨x | c, S2⟩
  · rw [hc] at h; exact h.elim
  · exact absurd hc clsOf_noerr
  · obtain ⟨rfl, a, dx, vs, e1, h1⟩ := clsOf_rep s rd hc
    rw [hc] at h
    simp only at h
    rcases ht : tbl c with _ | g
    · rw [ht] at h; exact h.elim
    · rw [ht] at h
      exact ⟨c, g, ht, h, a, dx, vs, e1, h1⟩
theorem finl_of {wd : Wd} {Q : List V → Hp → Prop} {W' : Value → Option Addr → Hp → Prop} {f : M (List D)} {S : List Ob} (h : FinG G (RepVs G) W' wd Q (noErr f S)) : FinL G wd Q (f S) := by
  unfold noErr at h
  rcases hf : f S with _ | ⟨_ | l, S1⟩
  · rw [hf] at h; exact h.elim
  · rw [hf] at h; exact h.elim
  · rw [hf] at h
    exact h
theorem made_ok {pins : List (Addr × Obj)} {H : Hp} {s : Shared} {cont : List V → Hp → Prop} {f : Addr} {a : Args} {E1 : Value → Shared → Prop} (I : Inv X pins σ H s)
    (h : codeAny (model X.prog X.w) X.A (.call (.ref f) a) (fun r s' => match r with | .ok (.ret u) => GMade X.prog X.w k X.stack H s [] cont NoX u s' | _ => False) s) :
    wpAny (model X.prog X.w) X.A (call (.ref f) a.pos a.kw) (fun u s' => ∃ H1 sc ex, Inv X pins σ H1 sc ∧ ExOk X pins ex ∧ GMade X.prog X.w k X.stack H1 sc ex cont NoX u s') E1 s := by
  refine wpAny_call (codeAny_mono h ?_)
  rintro (er | fl) s' hq
  · exact hq.elim
  · cases fl with
    | ret u => exact ⟨H, s, [], I, ExOk.nil, hq⟩
    | next => exact hq.elim
    | brk => exact hq.elim
    | cont => exact hq.elim
theorem gl_meth {tbl : Nat → Option (List D → M (List D))} (T : GMethT X G k mm n [] tbl) (hr : Room k X.A) (ho : PV G X W o fo) (ha : PLn G X W n (e :: es) fa) (hs : (e :: es).all notStar = true) (hb : plainBase o = true) (hl : (e :: es).length < 30) (hp : (apos.endLine == pos.line) = true) :
    PGen X k (.Call (.Attribute o mm apos) (e :: es) [] pos) (teG G (RepVs G) W fun sd => M.bind (fo sd) fun d => M.bind (pickN tbl d) fun g => M.bind (fa sd) fun ds => noErr (g (d :: ds))) NoX := by
  constructor
  intro pins s σ H cont I ⟨w0, w, sd, S, eH, r, q⟩
  refine PySem.W.methodCall_KW (thn (ho.run pins s σ H (fun v H1 => ∃ w1 S1 d c g a dx vs, w1.H = H1 ∧ R G w0 w1 sd S1 σ ∧ RepV G w1 d v ∧ tbl c = some g ∧ v = .ref a ∧ w1.H a = some (.ins (G.ca c) dx ((G.fn c).zip vs)) ∧
      FinG G (RepVs G) (fun c x H => W c x σ H) w1 cont (M.bind (fa sd) (fun ds => noErr (g (d :: ds))) S1)) I ?_) ?_) (meth_tree hb hs hl hp)
  · refine ⟨w0, w, sd, S, eH, r, fin_step q fun w1 S1 d v e1 s1 rv q1 => ?_⟩
    obtain ⟨c', g, ht, q2, a, dx, vs, ev, hv⟩ := pickN_fin s1 rv q1
    exact ⟨w1, S1, d, c', g, a, dx, vs, rfl, r.step e1 s1, rv, ht, ev, hv, q2⟩
  · rintro u s1 ⟨v, H1, I1, rv, w1, S1, d, c', g, a, dx, vs, eH1, r1, rd, ht, ev, hv, q1⟩
    subst eH1 ev
    obtain rfl : u = Value.ref a := rv
    obtain ⟨f, cl, hm, F, nf⟩ := T.at_ c' g ht
    refine getmeth_ok I1 hv cl hm (lookup_zip_none nf) ?_
    have hs2 : notStar e = true ∧ es.all notStar = true := by simpa using hs
    refine PySem.W.callWith_K (first := [.ref a]) (h₀ := X.base) I.ok.mod.kin hm.kp (thn (ha.run pos pins s1 σ w1.H (fun xs H2 => xs.length = n ∧ ∃ wd ds S, wd.H = H2 ∧ RepS G wd S ∧ RepVs G wd ds ((V.ref a :: xs) ++ []) ∧ FinL G wd cont (g ds S)) I1 ?_) ?_) (starEach_cons hs2.1) (starEach_all hs2.2 pos)
    · refine ⟨w0, w1, sd, S1, rfl, r1, fin_step q1 fun w2 S2 ds xs e2 s2 rx q2 => ?_⟩
      exact ⟨rx.2, w2, d :: ds, S2, rfl, s2, by rw [List.append_nil]; exact ⟨_, _, rfl, RepV.mono e2 r1.st.dj _ _ rd, rx.1⟩, finl_of q2⟩
    · rintro us s2 ⟨xs, H2, I2, rx, lx, q2⟩
      exact ⟨I2.kIn, made_ok (a := ⟨.ref a :: us, []⟩) I2 (F.run X.A X.stack s2 H2 (.ref a :: us) [] (.ref a :: xs) [] cont hr I2.env0 (.cons rfl rx) .nil (by rw [List.length_cons, lx]) rfl q2)⟩
theorem gl_methK0 {tbl : Nat → Option (List D → M (List D))} (T : GMethT X G k mm 0 ks tbl) (hr : Room k X.A) (ho : PV G X W o fo) (hk : PKn G X W j kws fk) (hj : j = ks.length) (hb : plainBase o = true) (hl : kws.length + 1 < 30) (hp : (apos.endLine == pos.line) = true)
    (hall : (backToKw pos (keywordEach kws X.env)).all (·.1.isSome) = true) (hks : (backToKw pos (keywordEach kws X.env)).filterMap (·.1) = ks) :
    PGen X k (.Call (.Attribute o mm apos) [] kws pos) (teG G (RepVs G) W fun sd => M.bind (fo sd) fun d => M.bind (pickN tbl d) fun g => M.bind (fk sd) fun ds => noErr (g (d :: ds))) NoX := by
  constructor
  intro pins s σ H cont I ⟨w0, w, sd, S, eH, r, q⟩
  refine PySem.W.methodCall_KW (thn (ho.run pins s σ H (fun v H1 => ∃ w1 S1 d c g a dx vs, w1.H = H1 ∧ R G w0 w1 sd S1 σ ∧ RepV G w1 d v ∧ tbl c = some g ∧ v = .ref a ∧ w1.H a = some (.ins (G.ca c) dx ((G.fn c).zip vs)) ∧
      FinG G (RepVs G) (fun c x H => W c x σ H) w1 cont (M.bind (fk sd) (fun ds => noErr (g (d :: ds))) S1)) I ?_) ?_) (methk_tree hb rfl hall (by simpa using hl) hp)
  · refine ⟨w0, w, sd, S, eH, r, fin_step q fun w1 S1 d v e1 s1 rv q1 => ?_⟩
    obtain ⟨c', g, ht, q2, a, dx, vs, ev, hv⟩ := pickN_fin s1 rv q1
    exact ⟨w1, S1, d, c', g, a, dx, vs, rfl, r.step e1 s1, rv, ht, ev, hv, q2⟩
  · rintro u s1 ⟨v, H1, I1, rv, w1, S1, d, c', g, a, dx, vs, eH1, r1, rd, ht, ev, hv, q1⟩
    subst eH1 ev
    obtain rfl : u = Value.ref a := rv
    obtain ⟨f, cl, hm, F, nf⟩ := T.at_ c' g ht
    refine getmeth_ok I1 hv cl hm (lookup_zip_none nf) ?_
    refine PySem.W.callWith_KW0 (first := [.ref a]) (h₀ := X.base) I.ok.mod.kin hm.kp hall (thn (hk.run pos pins s1 σ w1.H (fun zs H2 => zs.length = ks.length ∧ ∃ wd ds S, wd.H = H2 ∧ RepS G wd S ∧ RepVs G wd ds ([V.ref a] ++ zs) ∧ FinL G wd cont (g ds S)) I1 ?_) ?_) (by rw [kw_names hall]; rfl)
    · refine ⟨w0, w1, sd, S1, rfl, r1, fin_step q1 fun w2 S2 ds xs e2 s2 rx q2 => ?_⟩
      exact ⟨rx.2.trans hj, w2, d :: ds, S2, rfl, s2, ⟨_, _, rfl, RepV.mono e2 r1.st.dj _ _ rd, rx.1⟩, finl_of q2⟩
    · rintro ws s2 ⟨zs, H2, I2, rz, lz, q2⟩
      refine ⟨I2.kIn, ?_⟩
      rw [hks]
      exact made_ok (a := ⟨[.ref a], ks.zip ws⟩) I2 (F.run X.A X.stack s2 H2 [.ref a] ws [.ref a] zs cont hr I2.env0 (.cons rfl .nil) rz rfl lz q2)
theorem v_listN {nm : Str} {f : List SV → M (List D)} (h : PGen X k e (teG G (RepVs G) W f) NoX) (hr : Room (k + 3) X.A) (hg : Gl X nm) (hm : X.mg nm = none) (hv : bootBuiltins nm = some (.type "list")) (hs : notStar e = true) (hnm : nm ≠ "__name__") (hdb : (nm == ("__debug__" : Str)) = false) :
    PV G X W (.Call (.Name nm p) [e] [] pos) (fun sd => M.bind (f sd) fun l => M.pure (.lst l)) := by
  refine PE.imp (pe_listG h pass_nox stop_nox hr hg hm hv hnm hdb (starEach_cons hs)) fun σ H Q q => ?_
  obtain ⟨w0, w, sd, S, e, r, q⟩ := q
  refine ⟨w0, w, sd, S, e, r, fin_step q fun w1 S1 l vs e1 s1 rv q1 p hp => ?_⟩
  exact q1 (w1.frz p (.lst vs)) (.ref p) (Ext.frz hp) (s1.frz hp) ⟨p, vs, rfl, .inr rfl, upd_same, RepVs.mono (Ext.frz hp) s1.dj _ _ rv⟩
end
end Ev
set_option maxRecDepth 100000
set_option maxHeartbeats 2000000
namespace Ev
open PySem L2
@[irreducible] def Wg (f : MG) (sd : List SV) (S : List Ob) (out : List D) (N : List SV → List Ob → List D → Prop) : Prop := match f sd S out with
  | some (.next sd', S', out') => N sd' S' out'
  | _ => False
section
variable {f g : MG} {sd : List SV} {S : List Ob} {out : List D} {N N' : List SV → List Ob → List D → Prop}
theorem wg_mono (h : Wg f sd S out N) (i : ∀ sd S out, N sd S out → N' sd S out) : Wg f sd S out N' := by
  unfold Wg at *
  rcases hf : f sd S out with _ | ⟨_ | _ | _ | _ | _, _, _⟩ <;> rw [hf] at h <;> first | exact h.elim | exact i _ _ _ h
theorem wg_seq (h : Wg f sd S out (fun sd' S' out' => Wg g sd' S' out' N)) : Wg (seqG f g) sd S out N := by
  unfold Wg at *
  unfold seqG
  rcases hf : f sd S out with _ | ⟨_ | _ | _ | _ | _, _, _⟩ <;> rw [hf] at h <;> first | exact h.elim | skip
  simpa [Wg] using h
theorem wg_nil (h : N sd S out) : Wg nilG sd S out N := by
  unfold Wg nilG
  exact h
theorem wg_plain {m : MS} (h : Ws m sd S (fun sd' S' => N sd' S' out) (fun _ _ => False) (fun _ _ => False) (fun _ _ => False)) : Wg (plainG m) sd S out N := by
  have h := h.run
  unfold RunS at h
  unfold Wg plainG
  rcases hf : m sd S with _ | ⟨_ | _ | _ | _ | _, _⟩ <;> rw [hf] at h <;> first | exact h.elim | exact h
theorem wg_yield {e : List SV → M D} (l : out.length < lim) (h : Wp (e sd) S fun d S' => N sd S' (out ++ [d])) : Wg (yieldG e) sd S out N := by
  have h := h.run
  unfold Run at h
  unfold Wg yieldG
  rw [if_pos l]
  rcases hf : e sd S with _ | ⟨_ | _, _⟩ <;> rw [hf] at h <;> first | exact h.elim | exact h
theorem wg_loop {t : Tgt} (J : List D → List SV → List Ob → List D → Prop) (step : ∀ d ds sd S out, J (d :: ds) sd S out → ∃ sd1 S1, t d sd S = some (sd1, S1) ∧ Wg f sd1 S1 out (fun sd2 S2 out2 => J ds sd2 S2 out2))
    (fin : ∀ sd S out, J [] sd S out → N sd S out) : ∀ (ds : List D) (sd : List SV) (S : List Ob) (out : List D), J ds sd S out → Wg (loopG t f ds) sd S out N
  | [], sd, S, out, h => wg_nil (fin sd S out h)
  | d :: ds, sd, S, out, h => by
    obtain ⟨sd1, S1, e, hb⟩ := step d ds sd S out h
    have ih := wg_loop J step fin ds
    unfold Wg at hb ⊢
    unfold loopG
    rw [e]
    simp only
    rcases hf : f sd1 S1 out with _ | ⟨_ | _ | _ | _ | _, _, _⟩ <;> rw [hf] at hb <;> first | exact hb.elim | skip
    have := ih _ _ _ hb
    unfold Wg at this
    exact this
theorem wg_for {fi : List SV → M (List D)} {t : Tgt} (J : List D → List SV → List Ob → List D → Prop) (h : Wp (fi sd) S fun ds S' => J ds sd S' out)
    (step : ∀ d ds sd S out, J (d :: ds) sd S out → ∃ sd1 S1, t d sd S = some (sd1, S1) ∧ Wg f sd1 S1 out (fun sd2 S2 out2 => J ds sd2 S2 out2))
    (fin : ∀ sd S out, J [] sd S out → N sd S out) : Wg (forG fi t f) sd S out N := by
  have h := h.run
  unfold Run at h
  unfold Wg forG
  rcases hf : fi sd S with _ | ⟨_ | ds, S1⟩ <;> rw [hf] at h <;> first | exact h.elim | skip
  have := wg_loop J step fin ds sd S1 out h
  unfold Wg at this
  exact this
theorem wp_gen {m n : Nat} {ms : MG} {ds : List D} {P : List D → List Ob → Prop} (e : ds.length = m) (h : Wg ms (slots n (ds.map .val)) S [] fun _ S' out => P out S') : Wp (genFn m n ms ds) S P := by
  refine wp_run.mpr ?_
  unfold Wg at h
  unfold Run genFn
  rw [if_pos e]
  rcases hf : ms (slots n (ds.map .val)) S [] with _ | ⟨_ | _ | _ | _ | _, _, _⟩ <;> rw [hf] at h <;> first | exact h.elim | exact h
end
end Ev
set_option maxRecDepth 100000
set_option maxHeartbeats 4000000
local macro_rules | `(tactic| leaf_len) => `(tactic| first | exact Or.inl rfl | exact Or.inr (Or.inl rfl) | exact Or.inr (Or.inr rfl))
local macro_rules | `(tactic| mem_news) => `(tactic| first | exact Or.inl rfl | exact Or.inr rfl)
namespace K15
open PySem PySem.Spec PyProof.Rows L2 Ev
def top (i : Nat) : Stmt := PySem.Challenge.pw_rungladders_k15_whole_ladders_section_by.main.body.getD i (.Pass ⟨0, 0, 0, 0⟩)
def flds : Nat → List Str := fun c => match c with | 0 => ["told"] | 1 => ["row", "chain", "scale"] | 5 => ["first", "pattern"] | _ => []
abbrev GG (b : Bool) (K : PySem.W.Frag) (ad : Nat → Addr) : Sg := { K := K, ca := fun c => ad (1000 + c), fn := flds, xc := fun _ => .none, xf := fun _ => Str.empty, gd := b }
abbrev st_is_integer : Stmt := top 19
theorem sc_is_integer : FnScope ["value"] ["value"] (defScope st_is_integer) := ⟨rfl, rfl, rfl, by decide +kernel, rfl, by decide +kernel, by decide +kernel⟩
abbrev st_is_between : Stmt := top 20
theorem sc_is_between : FnScope ["value", "low", "high"] ["value", "low", "high"] (defScope st_is_between) := ⟨rfl, rfl, rfl, by decide +kernel, rfl, by decide +kernel, by decide +kernel⟩
abbrev st_is_piece : Stmt := top 43
theorem sc_is_piece : FnScope ["value"] ["value"] (defScope st_is_piece) := ⟨rfl, rfl, rfl, by decide +kernel, rfl, by decide +kernel, by decide +kernel⟩
abbrev st_check_pieces : Stmt := top 44
theorem sc_check_pieces : FnScope ["pieces", "index", "piece"] ["pieces"] (defScope st_check_pieces) := ⟨rfl, rfl, rfl, by decide +kernel, rfl, by decide +kernel, by decide +kernel⟩
abbrev st_joined : Stmt := top 34
theorem sc_joined : FnScope ["front", "back", "a", "b", "c", "d", "e", "f", "g", "h"] ["front", "back"] (defScope st_joined) := ⟨rfl, rfl, rfl, by decide +kernel, rfl, by decide +kernel, by decide +kernel⟩
abbrev st_chain_of : Stmt := top 35
theorem sc_chain_of : FnScope ["pieces", "found", "times", "word", "ohms"] ["pieces"] (defScope st_chain_of) := ⟨rfl, rfl, rfl, by decide +kernel, rfl, by decide +kernel, by decide +kernel⟩
abbrev st_PatternX_initX : Stmt := inClass (top 48) 0
theorem sc_PatternX_initX : FnScope ["self", "pieces"] ["self", "pieces"] (defScope st_PatternX_initX) := ⟨rfl, rfl, rfl, by decide +kernel, rfl, by decide +kernel, by decide +kernel⟩
abbrev st_check_count : Stmt := top 30
theorem sc_check_count : FnScope ["value"] ["value"] (defScope st_check_count) := ⟨rfl, rfl, rfl, by decide +kernel, rfl, by decide +kernel, by decide +kernel⟩
abbrev st_led : Stmt := top 36
theorem sc_led : FnScope ["chain", "pair", "a", "b", "c", "d"] ["chain", "pair"] (defScope st_led) := ⟨rfl, rfl, rfl, by decide +kernel, rfl, by decide +kernel, by decide +kernel⟩
abbrev st_common : Stmt := top 24
theorem sc_common : FnScope ["one", "other"] ["one", "other"] (defScope st_common) := ⟨rfl, rfl, rfl, by decide +kernel, rfl, by decide +kernel, by decide +kernel⟩
abbrev st_lowest : Stmt := top 25
theorem sc_lowest : FnScope ["top", "bottom", "by"] ["top", "bottom"] (defScope st_lowest) := ⟨rfl, rfl, rfl, by decide +kernel, rfl, by decide +kernel, by decide +kernel⟩
abbrev st_shown : Stmt := top 37
theorem sc_shown : FnScope ["chain", "pair", "top", "bottom"] ["chain", "pair"] (defScope st_shown) := ⟨rfl, rfl, rfl, by decide +kernel, rfl, by decide +kernel, by decide +kernel⟩
abbrev st_slim : Stmt := top 38
theorem sc_slim : FnScope ["chain", "by", "number"] ["chain"] (defScope st_slim) := ⟨rfl, rfl, rfl, by decide +kernel, rfl, by decide +kernel, by decide +kernel⟩
abbrev st_repeated : Stmt := top 39
theorem sc_repeated : FnScope ["chain", "count", "found", "power"] ["chain", "count"] (defScope st_repeated) := ⟨rfl, rfl, rfl, by decide +kernel, rfl, by decide +kernel, by decide +kernel⟩
abbrev st_Ladder_value_at : Stmt := inClass (top 52) 3
theorem sc_Ladder_value_at : FnScope ["self", "number"] ["self", "number"] (defScope st_Ladder_value_at) := ⟨rfl, rfl, rfl, by decide +kernel, rfl, by decide +kernel, by decide +kernel⟩
abbrev st_RunX_callX : Stmt := inClass (top 51) 4
theorem sc_RunX_callX : FnScope ["self", "count"] ["self", "count"] (defScope st_RunX_callX) := ⟨rfl, rfl, rfl, by decide +kernel, rfl, by decide +kernel, by decide +kernel⟩
abbrev st_check_pattern : Stmt := top 49
theorem sc_check_pattern : FnScope ["value"] ["value"] (defScope st_check_pattern) := ⟨rfl, rfl, rfl, by decide +kernel, rfl, by decide +kernel, by decide +kernel⟩
abbrev st_is_fraction : Stmt := top 21
theorem sc_is_fraction : FnScope ["value"] ["value"] (defScope st_is_fraction) := ⟨rfl, rfl, rfl, by decide +kernel, rfl, by decide +kernel, by decide +kernel⟩
abbrev st_is_number : Stmt := top 22
theorem sc_is_number : FnScope ["value"] ["value"] (defScope st_is_number) := ⟨rfl, rfl, rfl, by decide +kernel, rfl, by decide +kernel, by decide +kernel⟩
abbrev st_is_resistance : Stmt := top 23
theorem sc_is_resistance : FnScope ["value"] ["value"] (defScope st_is_resistance) := ⟨rfl, rfl, rfl, by decide +kernel, rfl, by decide +kernel, by decide +kernel⟩
abbrev st_check_resistance : Stmt := top 29
theorem sc_check_resistance : FnScope ["value"] ["value"] (defScope st_check_resistance) := ⟨rfl, rfl, rfl, by decide +kernel, rfl, by decide +kernel, by decide +kernel⟩
abbrev st_RunX_initX : Stmt := inClass (top 51) 0
theorem sc_RunX_initX : FnScope ["self", "load"] ["self", "load"] (defScope st_RunX_initX) := ⟨rfl, rfl, rfl, by decide +kernel, rfl, by decide +kernel, by decide +kernel⟩
abbrev st_pair_of : Stmt := top 26
theorem sc_pair_of : FnScope ["number"] ["number"] (defScope st_pair_of) := ⟨rfl, rfl, rfl, by decide +kernel, rfl, by decide +kernel, by decide +kernel⟩
abbrev st_LadderX_initX : Stmt := inClass (top 52) 0
theorem sc_LadderX_initX : NdefX.NScope ["self", "pattern", "load", "__class__"] ["self", "pattern", "load"] ["__class__"] (defScope st_LadderX_initX) := NdefX.nscope_by (by decide +kernel)
abbrev st_Ladder_next_of : Stmt := inClass (top 52) 2
theorem sc_Ladder_next_of : FnScope ["self", "pair"] ["self", "pair"] (defScope st_Ladder_next_of) := ⟨rfl, rfl, rfl, by decide +kernel, rfl, by decide +kernel, by decide +kernel⟩
abbrev st_Run_opening : Stmt := inClass (top 51) 5
theorem sc_Run_opening : GScope ["self", "count", "pair", "turn"] ["self", "count"] (defScope st_Run_opening) := ⟨rfl, rfl, rfl, by decide +kernel, rfl, by decide +kernel, by decide +kernel⟩
abbrev st__law_sip : Stmt := top 55
theorem sc__law_sip : FnScope ["_law_cup_here", "_law_many", "_law_part"] ["_law_cup_here", "_law_many"] (defScope st__law_sip) := ⟨rfl, rfl, rfl, by decide +kernel, rfl, by decide +kernel, by decide +kernel⟩
abbrev st__law_pair : Stmt := top 57
theorem sc__law_pair : FnScope ["_law_top", "_law_bottom", "_law_one", "_law_two"] ["_law_top", "_law_bottom"] (defScope st__law_pair) := ⟨rfl, rfl, rfl, by decide +kernel, rfl, by decide +kernel, by decide +kernel⟩
abbrev st__law_end : Stmt := top 62
theorem sc__law_end : FnScope ["_law_cup_here", "_law_way", "_law_small"] ["_law_cup_here"] (defScope st__law_end) := ⟨rfl, rfl, rfl, by decide +kernel, rfl, by decide +kernel, by decide +kernel⟩
abbrev st__law_pick : Stmt := top 56
theorem sc__law_pick : FnScope ["_law_cup_here", "_law_things"] ["_law_cup_here", "_law_things"] (defScope st__law_pick) := ⟨rfl, rfl, rfl, by decide +kernel, rfl, by decide +kernel, by decide +kernel⟩
abbrev st__law_row : Stmt := top 60
theorem sc__law_row : FnScope ["_law_cup_here", "_law_most", "_law_found", "_law_turn"] ["_law_cup_here", "_law_most"] (defScope st__law_row) := ⟨rfl, rfl, rfl, by decide +kernel, rfl, by decide +kernel, by decide +kernel⟩
abbrev st_integer_in : Stmt := top 31
theorem sc_integer_in : FnScope ["word", "digit"] ["word"] (defScope st_integer_in) := ⟨rfl, rfl, rfl, by decide +kernel, rfl, by decide +kernel, by decide +kernel⟩
abbrev st_piece_in : Stmt := top 45
theorem sc_piece_in : FnScope ["text", "words", "ohms"] ["text"] (defScope st_piece_in) := ⟨rfl, rfl, rfl, by decide +kernel, rfl, by decide +kernel, by decide +kernel⟩
abbrev st_RowX_initX : Stmt := inClass (top 42) 0
theorem sc_RowX_initX : FnScope ["self", "told"] ["self", "told"] (defScope st_RowX_initX) := ⟨rfl, rfl, rfl, by decide +kernel, rfl, by decide +kernel, by decide +kernel⟩
abbrev st_pattern_in : Stmt := top 46
theorem sc_pattern_in : FnScope ["text", "pieces", "part"] ["text"] (defScope st_pattern_in) := ⟨rfl, rfl, rfl, by decide +kernel, rfl, by decide +kernel, by decide +kernel⟩
abbrev st_Pattern_read : Stmt := inClass (top 48) 1
theorem sc_Pattern_read : FnScope ["text", "found"] ["text"] (defScope st_Pattern_read) := ⟨rfl, rfl, rfl, by decide +kernel, rfl, by decide +kernel, by decide +kernel⟩
abbrev st__law_words : Stmt := top 61
theorem sc__law_words : FnScope ["_law_row_here", "_law_word", "_law_ohms"] ["_law_row_here"] (defScope st__law_words) := ⟨rfl, rfl, rfl, by decide +kernel, rfl, by decide +kernel, by decide +kernel⟩
abbrev st__law_read : Stmt := top 64
theorem sc__law_read : FnScope ["_law_row_here"] ["_law_row_here"] (defScope st__law_read) := ⟨rfl, rfl, rfl, by decide +kernel, rfl, by decide +kernel, by decide +kernel⟩
abbrev st__law_told : Stmt := top 63
theorem sc__law_told : FnScope ["_law_cup_here", "_law_pair_here", "_law_by"] ["_law_cup_here", "_law_pair_here"] (defScope st__law_told) := ⟨rfl, rfl, rfl, by decide +kernel, rfl, by decide +kernel, by decide +kernel⟩
abbrev st__law_front : Stmt := top 59
theorem sc__law_front : FnScope ["_law_row_here", "_law_pair_here", "_law_top", "_law_bottom", "_law_word", "_law_ohms"] ["_law_row_here", "_law_pair_here"] (defScope st__law_front) := ⟨rfl, rfl, rfl, by decide +kernel, rfl, by decide +kernel, by decide +kernel⟩
abbrev st__law_walk : Stmt := top 65
theorem sc__law_walk : FnScope ["_law_row_here", "_law_pair_here", "_law_many", "_law_found", "_law_turn"] ["_law_row_here", "_law_pair_here", "_law_many"] (defScope st__law_walk) := ⟨rfl, rfl, rfl, by decide +kernel, rfl, by decide +kernel, by decide +kernel⟩
abbrev st_sign_of : Stmt := top 27
theorem sc_sign_of : FnScope ["number"] ["number"] (defScope st_sign_of) := ⟨rfl, rfl, rfl, by decide +kernel, rfl, by decide +kernel, by decide +kernel⟩
abbrev st_compare : Stmt := top 28
theorem sc_compare : FnScope ["one", "other"] ["one", "other"] (defScope st_compare) := ⟨rfl, rfl, rfl, by decide +kernel, rfl, by decide +kernel, by decide +kernel⟩
abbrev st_Run_goes : Stmt := inClass (top 51) 6
theorem sc_Run_goes : FnScope ["self"] ["self"] (defScope st_Run_goes) := ⟨rfl, rfl, rfl, by decide +kernel, rfl, by decide +kernel, by decide +kernel⟩
abbrev st_Run_load : Stmt := inClass (top 51) 1
theorem sc_Run_load : FnScope ["self"] ["self"] (defScope st_Run_load) := ⟨rfl, rfl, rfl, by decide +kernel, rfl, by decide +kernel, by decide +kernel⟩
abbrev st__law_below : Stmt := top 58
theorem sc__law_below : FnScope ["_law_one", "_law_two"] ["_law_one", "_law_two"] (defScope st__law_below) := ⟨rfl, rfl, rfl, by decide +kernel, rfl, by decide +kernel, by decide +kernel⟩
abbrev st__law_goes : Stmt := top 66
theorem sc__law_goes : FnScope ["_law_one", "_law_two"] ["_law_one", "_law_two"] (defScope st__law_goes) := ⟨rfl, rfl, rfl, by decide +kernel, rfl, by decide +kernel, by decide +kernel⟩
abbrev st_PatternX_strX : Stmt := inClass (top 48) 9
theorem sc_PatternX_strX : FnScope ["self", "word", "ohms"] ["self"] (defScope st_PatternX_strX) := ⟨rfl, rfl, rfl, by decide +kernel, rfl, by decide +kernel, by decide +kernel⟩
abbrev st_Pattern_numbers : Stmt := inClass (top 48) 3
theorem sc_Pattern_numbers : FnScope ["self", "number"] ["self"] (defScope st_Pattern_numbers) := ⟨rfl, rfl, rfl, by decide +kernel, rfl, by decide +kernel, by decide +kernel⟩
abbrev st_PatternX_eqX : Stmt := inClass (top 48) 7
theorem sc_PatternX_eqX : FnScope ["self", "other"] ["self", "other"] (defScope st_PatternX_eqX) := ⟨rfl, rfl, rfl, by decide +kernel, rfl, by decide +kernel, by decide +kernel⟩
abbrev st__law_right : Stmt := top 67
theorem sc__law_right : FnScope ["_law_cup_here", "_law_turn", "_law_row_here", "_law_end_here", "_law_mine", "_law_way", "_law_many", "_law_due", "_law_again", "_law_at"] ["_law_cup_here"] (defScope st__law_right) := ⟨rfl, rfl, rfl, by decide +kernel, rfl, by decide +kernel, by decide +kernel⟩
abbrev st__law_cup : Stmt := top 54
theorem sc__law_cup : FnScope ["_law_script", "_law_spot", "_law_cell", "_law_one"] ["_law_script", "_law_spot"] (defScope st__law_cup) := ⟨rfl, rfl, rfl, by decide +kernel, rfl, by decide +kernel, by decide +kernel⟩
abbrev st_law : Stmt := top 68
theorem sc_law : FnScope ["_law_script", "_law_golden", "_law_told_here", "_law_spot"] ["_law_script"] (defScope st_law) := ⟨rfl, rfl, rfl, by decide +kernel, rfl, by decide +kernel, by decide +kernel⟩
structure Facts (P : Program) (w : World) (K : PySem.W.Frag) (mg : Str → Option Value) (base : Heap) (ad : Nat → Addr) : Prop where
  f_is_integer : ∃ fd, Fun K "is_integer" "is_integer" st_is_integer (ad 0) fd
  g_is_integer : mg "is_integer" = some (.ref (ad 0))
  f_is_between : ∃ fd, Fun K "is_between" "is_between" st_is_between (ad 1) fd
  g_is_between : mg "is_between" = some (.ref (ad 1))
  f_is_piece : ∃ fd, Fun K "is_piece" "is_piece" st_is_piece (ad 2) fd
  g_is_piece : mg "is_piece" = some (.ref (ad 2))
  f_check_pieces : ∃ fd, Fun K "check_pieces" "check_pieces" st_check_pieces (ad 3) fd
  g_check_pieces : mg "check_pieces" = some (.ref (ad 3))
  f_joined : ∃ fd, Fun K "joined" "joined" st_joined (ad 4) fd
  g_joined : mg "joined" = some (.ref (ad 4))
  f_chain_of : ∃ fd, Fun K "chain_of" "chain_of" st_chain_of (ad 5) fd
  g_chain_of : mg "chain_of" = some (.ref (ad 5))
  f_PatternX_initX : ∃ fd, Fun K "__init__" "Pattern.__init__" st_PatternX_initX (ad 6) fd
  f_check_count : ∃ fd, Fun K "check_count" "check_count" st_check_count (ad 7) fd
  g_check_count : mg "check_count" = some (.ref (ad 7))
  f_led : ∃ fd, Fun K "led" "led" st_led (ad 8) fd
  g_led : mg "led" = some (.ref (ad 8))
  f_common : ∃ fd, Fun K "common" "common" st_common (ad 9) fd
  g_common : mg "common" = some (.ref (ad 9))
  f_lowest : ∃ fd, Fun K "lowest" "lowest" st_lowest (ad 10) fd
  g_lowest : mg "lowest" = some (.ref (ad 10))
  f_shown : ∃ fd, Fun K "shown" "shown" st_shown (ad 11) fd
  g_shown : mg "shown" = some (.ref (ad 11))
  f_slim : ∃ fd, Fun K "slim" "slim" st_slim (ad 12) fd
  g_slim : mg "slim" = some (.ref (ad 12))
  f_repeated : ∃ fd, Fun K "repeated" "repeated" st_repeated (ad 13) fd
  g_repeated : mg "repeated" = some (.ref (ad 13))
  f_Ladder_value_at : ∃ fd, Fun K "value_at" "Ladder.value_at" st_Ladder_value_at (ad 14) fd
  f_RunX_callX : ∃ fd, Fun K "__call__" "Run.__call__" st_RunX_callX (ad 15) fd
  f_check_pattern : ∃ fd, Fun K "check_pattern" "check_pattern" st_check_pattern (ad 16) fd
  g_check_pattern : mg "check_pattern" = some (.ref (ad 16))
  f_is_fraction : ∃ fd, Fun K "is_fraction" "is_fraction" st_is_fraction (ad 17) fd
  g_is_fraction : mg "is_fraction" = some (.ref (ad 17))
  f_is_number : ∃ fd, Fun K "is_number" "is_number" st_is_number (ad 18) fd
  g_is_number : mg "is_number" = some (.ref (ad 18))
  f_is_resistance : ∃ fd, Fun K "is_resistance" "is_resistance" st_is_resistance (ad 19) fd
  g_is_resistance : mg "is_resistance" = some (.ref (ad 19))
  f_check_resistance : ∃ fd, Fun K "check_resistance" "check_resistance" st_check_resistance (ad 20) fd
  g_check_resistance : mg "check_resistance" = some (.ref (ad 20))
  f_RunX_initX : ∃ fd, Fun K "__init__" "Run.__init__" st_RunX_initX (ad 21) fd
  f_pair_of : ∃ fd, Fun K "pair_of" "pair_of" st_pair_of (ad 22) fd
  g_pair_of : mg "pair_of" = some (.ref (ad 22))
  f_Ladder_next_of : ∃ fd, Fun K "next_of" "Ladder.next_of" st_Ladder_next_of (ad 24) fd
  f_Run_opening : ∃ fd, Fun K "opening" "Run.opening" st_Run_opening (ad 25) fd
  f__law_sip : ∃ fd, Fun K "_law_sip" "_law_sip" st__law_sip (ad 26) fd
  g__law_sip : mg "_law_sip" = some (.ref (ad 26))
  f__law_pair : ∃ fd, Fun K "_law_pair" "_law_pair" st__law_pair (ad 27) fd
  g__law_pair : mg "_law_pair" = some (.ref (ad 27))
  f__law_end : ∃ fd, Fun K "_law_end" "_law_end" st__law_end (ad 28) fd
  g__law_end : mg "_law_end" = some (.ref (ad 28))
  f__law_pick : ∃ fd, Fun K "_law_pick" "_law_pick" st__law_pick (ad 29) fd
  g__law_pick : mg "_law_pick" = some (.ref (ad 29))
  f__law_row : ∃ fd, Fun K "_law_row" "_law_row" st__law_row (ad 30) fd
  g__law_row : mg "_law_row" = some (.ref (ad 30))
  f_integer_in : ∃ fd, Fun K "integer_in" "integer_in" st_integer_in (ad 31) fd
  g_integer_in : mg "integer_in" = some (.ref (ad 31))
  f_piece_in : ∃ fd, Fun K "piece_in" "piece_in" st_piece_in (ad 32) fd
  g_piece_in : mg "piece_in" = some (.ref (ad 32))
  f_RowX_initX : ∃ fd, Fun K "__init__" "Row.__init__" st_RowX_initX (ad 33) fd
  f_pattern_in : ∃ fd, Fun K "pattern_in" "pattern_in" st_pattern_in (ad 34) fd
  g_pattern_in : mg "pattern_in" = some (.ref (ad 34))
  f_Pattern_read : ∃ fd, Fun K "read" "Pattern.read" st_Pattern_read (ad 35) fd
  f__law_words : ∃ fd, Fun K "_law_words" "_law_words" st__law_words (ad 36) fd
  g__law_words : mg "_law_words" = some (.ref (ad 36))
  f__law_read : ∃ fd, Fun K "_law_read" "_law_read" st__law_read (ad 37) fd
  g__law_read : mg "_law_read" = some (.ref (ad 37))
  f__law_told : ∃ fd, Fun K "_law_told" "_law_told" st__law_told (ad 38) fd
  g__law_told : mg "_law_told" = some (.ref (ad 38))
  f__law_front : ∃ fd, Fun K "_law_front" "_law_front" st__law_front (ad 39) fd
  g__law_front : mg "_law_front" = some (.ref (ad 39))
  f__law_walk : ∃ fd, Fun K "_law_walk" "_law_walk" st__law_walk (ad 40) fd
  g__law_walk : mg "_law_walk" = some (.ref (ad 40))
  f_sign_of : ∃ fd, Fun K "sign_of" "sign_of" st_sign_of (ad 41) fd
  g_sign_of : mg "sign_of" = some (.ref (ad 41))
  f_compare : ∃ fd, Fun K "compare" "compare" st_compare (ad 42) fd
  g_compare : mg "compare" = some (.ref (ad 42))
  f_Run_goes : ∃ fd, Fun K "goes" "Run.goes" st_Run_goes (ad 43) fd
  f_Run_load : ∃ fd, Fun K "load" "Run.load" st_Run_load (ad 44) fd
  f__law_below : ∃ fd, Fun K "_law_below" "_law_below" st__law_below (ad 45) fd
  g__law_below : mg "_law_below" = some (.ref (ad 45))
  f__law_goes : ∃ fd, Fun K "_law_goes" "_law_goes" st__law_goes (ad 46) fd
  g__law_goes : mg "_law_goes" = some (.ref (ad 46))
  f_PatternX_strX : ∃ fd, Fun K "__str__" "Pattern.__str__" st_PatternX_strX (ad 47) fd
  f_Pattern_numbers : ∃ fd, Fun K "numbers" "Pattern.numbers" st_Pattern_numbers (ad 48) fd
  f_PatternX_eqX : ∃ fd, Fun K "__eq__" "Pattern.__eq__" st_PatternX_eqX (ad 49) fd
  f__law_right : ∃ fd, Fun K "_law_right" "_law_right" st__law_right (ad 50) fd
  g__law_right : mg "_law_right" = some (.ref (ad 50))
  f__law_cup : ∃ fd, Fun K "_law_cup" "_law_cup" st__law_cup (ad 51) fd
  g__law_cup : mg "_law_cup" = some (.ref (ad 51))
  f_law : ∃ fd, Fun K "law" "law" st_law (ad 52) fd
  g_law : mg "law" = some (.ref (ad 52))
  u_LadderX_initX : Sup P K "__init__" "Ladder.__init__" st_LadderX_initX (ad 23) (ad 2023) (ad 3023) (ad 1005) (ad 1005) (ad 21)
  k_Row : mg "Row" = some (.ref (ad 1000))
  m_Row : Mk K (ad 1000) (ad 33)
  cl_Row : Cls K (ad 1000)
  na_Row_told : NoAttr K (ad 1000) "told"
  k_Pattern : mg "Pattern" = some (.ref (ad 1001))
  m_Pattern : Mk K (ad 1001) (ad 6)
  cl_Pattern : Cls K (ad 1001)
  na_Pattern_row : NoAttr K (ad 1001) "row"
  na_Pattern_chain : NoAttr K (ad 1001) "chain"
  na_Pattern_scale : NoAttr K (ad 1001) "scale"
  k_Ladder : mg "Ladder" = some (.ref (ad 1005))
  m_Ladder : Mk K (ad 1005) (ad 23)
  cl_Ladder : Cls K (ad 1005)
  na_Ladder_first : NoAttr K (ad 1005) "first"
  na_Ladder_pattern : NoAttr K (ad 1005) "pattern"
  t_Ladder_Ladder_value_at : Meth K (ad 1005) "value_at" (ad 14)
  o_Ladder_RunX_callX : StX.CallO K (ad 1005) (ad 15)
  t_Ladder_Ladder_next_of : Meth K (ad 1005) "next_of" (ad 24)
  t_Ladder_Run_opening : Meth K (ad 1005) "opening" (ad 25)
  p_Ladder_Run_goes : ∃ q, PropOf K (ad 1005) "goes" q (ad 43)
  p_Ladder_Run_load : ∃ q, PropOf K (ad 1005) "load" q (ad 44)
  x_Pattern_PatternX_strX : PySem.W.findIn K (.ref (ad 1001)) "__str__" = some (some (.ref (ad 47))) ∧ PySem.W.isFn K (.ref (ad 47)) = true ∧ PySem.W.findIn K (.ref (ad 1001)) "__format__" = some (some (.builtin "object.__format__")) ∧ PySem.W.mroIn K (ad 1001) (.type "object") = some true
  p_Pattern_Pattern_numbers : ∃ q, PropOf K (ad 1001) "numbers" q (ad 48)
  e_Pattern_PatternX_eqX : PySem.W.findIn K (.ref (ad 1001)) "__eq__" = some (some (.ref (ad 49))) ∧ PySem.W.isFn K (.ref (ad 49)) = true ∧ PySem.W.findIn K (.ref (ad 1001)) "__ne__" = some (some (.builtin "object.__ne__")) ∧ PySem.W.mroIn K (ad 1001) (.type "object") = some true
  d_Pattern_PatternX_eqX : PySem.W.mroIn K (ad 1001) (.type "tuple") = some false ∧ PySem.W.mroIn K (ad 1001) (.type "list") = some false ∧ ∀ T ∈ ["NoneType", "bool", "int", "str", "tuple", "list"], PySem.W.subIn K (.type T) (.ref (ad 1001)) = some false
  s_Pattern_read : ∃ (mc : Value) (p : Addr) (rest : List Value), ClX.CRead K (ad 1001) mc ∧ PySem.W.findCls K (.ref (ad 1001)) mc "read" = some (.get (.builtin "staticmethod.__get__") (.ref p) .none (.ref (ad 1001))) ∧ PySem.W.recIn K p "staticmethod" = some (.ref (ad 35) :: rest)
  z_NotImplemented : mg "NotImplemented" = none
  z_abs : mg "abs" = none
  z_all : mg "all" = none
  z_any : mg "any" = none
  z_bool : mg "bool" = none
  z_divmod : mg "divmod" = none
  z_enumerate : mg "enumerate" = none
  z_int : mg "int" = none
  z_isinstance : mg "isinstance" = none
  z_len : mg "len" = none
  z_list : mg "list" = none
  z_max : mg "max" = none
  z_min : mg "min" = none
  z_range : mg "range" = none
  z_repr : mg "repr" = none
  z_str : mg "str" = none
  z_super : mg "super" = none
  z_tuple : mg "tuple" = none
  c_MOST_PIECES : ∀ b : Bool, GlobD mg (GG b K ad) "MOST_PIECES" (.int 4)
  c_MOST_OHMS : ∀ b : Bool, GlobD mg (GG b K ad) "MOST_OHMS" (.int 12)
  c_WORDS : ∀ b : Bool, GlobD mg (GG b K ad) "WORDS" (.tup [(.str "rail"), (.str "rung")])
  c_NOTHING : ∀ b : Bool, GlobD mg (GG b K ad) "NOTHING" (.tup [(.int 1), (.int 0), (.int 0), (.int 1)])
  c_MOST_SECTIONS : ∀ b : Bool, GlobD mg (GG b K ad) "MOST_SECTIONS" (.int 100)
  c_OPEN : ∀ b : Bool, GlobD mg (GG b K ad) "OPEN" (.tup [(.int 1), (.int 0)])
  c_GREATEST : ∀ b : Bool, GlobD mg (GG b K ad) "GREATEST" (.int 1000000000000)
  c_DIGITS : ∀ b : Bool, GlobD mg (GG b K ad) "DIGITS" (.str "0123456789")
  c_MOST_DIGITS : ∀ b : Bool, GlobD mg (GG b K ad) "MOST_DIGITS" (.int 13)
  c_MOST_JOINED : ∀ b : Bool, GlobD mg (GG b K ad) "MOST_JOINED" (.int 8)
  isa : ∀ (b : Bool) (X : Cx), X.K = K → ClsT X (GG b K ad) (fun c => decide (c ∈ ([0, 1, 5] : List Nat))) (fun a b => if a ∈ ([0, 1, 5] : List Nat) ∧ b ∈ ([0, 1] : List Nat) then some (decide ((a, b) ∈ ([(0, 0), (1, 1)] : List (Nat × Nat)))) else none)
variable {P : Program} {w : World} {K : PySem.W.Frag} {mg : Str → Option Value} {base : Heap} {ad : Nat → Addr} {b : Bool}
def Same (X : Cx) (P : Program) (w : World) (K : PySem.W.Frag) (mg : Str → Option Value) (base : Heap) : Prop := X.prog = P ∧ X.w = w ∧ X.K = K ∧ X.mg = mg ∧ X.base = base
theorem T_fld_row (T : Facts P w K mg base ad) {X : Cx} (h : Same X P w K mg base) : FldT X (GG b K ad) "row" (tab [(1, 0)]) := by
  obtain ⟨rfl, rfl, rfl, rfl, rfl⟩ := h
  exact ⟨(tab_cons ⟨T.cl_Pattern, T.na_Pattern_row, (show (flds 1).Nodup by decide +kernel), rfl, (show (flds 1).length < 1000 by decide +kernel)⟩ tab_nil)⟩
theorem T_fld_scale (T : Facts P w K mg base ad) {X : Cx} (h : Same X P w K mg base) : FldT X (GG b K ad) "scale" (tab [(1, 2)]) := by
  obtain ⟨rfl, rfl, rfl, rfl, rfl⟩ := h
  exact ⟨(tab_cons ⟨T.cl_Pattern, T.na_Pattern_scale, (show (flds 1).Nodup by decide +kernel), rfl, (show (flds 1).length < 1000 by decide +kernel)⟩ tab_nil)⟩
theorem T_fld_chain (T : Facts P w K mg base ad) {X : Cx} (h : Same X P w K mg base) : FldT X (GG b K ad) "chain" (tab [(1, 1)]) := by
  obtain ⟨rfl, rfl, rfl, rfl, rfl⟩ := h
  exact ⟨(tab_cons ⟨T.cl_Pattern, T.na_Pattern_chain, (show (flds 1).Nodup by decide +kernel), rfl, (show (flds 1).length < 1000 by decide +kernel)⟩ tab_nil)⟩
theorem T_fld_first (T : Facts P w K mg base ad) {X : Cx} (h : Same X P w K mg base) : FldT X (GG b K ad) "first" (tab [(5, 0)]) := by
  obtain ⟨rfl, rfl, rfl, rfl, rfl⟩ := h
  exact ⟨(tab_cons ⟨T.cl_Ladder, T.na_Ladder_first, (show (flds 5).Nodup by decide +kernel), rfl, (show (flds 5).length < 1000 by decide +kernel)⟩ tab_nil)⟩
theorem T_fld_pattern (T : Facts P w K mg base ad) {X : Cx} (h : Same X P w K mg base) : FldT X (GG b K ad) "pattern" (tab [(5, 1)]) := by
  obtain ⟨rfl, rfl, rfl, rfl, rfl⟩ := h
  exact ⟨(tab_cons ⟨T.cl_Ladder, T.na_Ladder_pattern, (show (flds 5).Nodup by decide +kernel), rfl, (show (flds 5).length < 1000 by decide +kernel)⟩ tab_nil)⟩
theorem T_fld_told (T : Facts P w K mg base ad) {X : Cx} (h : Same X P w K mg base) : FldT X (GG b K ad) "told" (tab [(0, 0)]) := by
  obtain ⟨rfl, rfl, rfl, rfl, rfl⟩ := h
  exact ⟨(tab_cons ⟨T.cl_Row, T.na_Row_told, (show (flds 0).Nodup by decide +kernel), rfl, (show (flds 0).length < 1000 by decide +kernel)⟩ tab_nil)⟩
theorem T_attr_told_0 (T : Facts P w K mg base ad) {X : Cx} (h : Same X P w K mg base) {k : Nat} (hk : 0 ≤ k) : AttrT X (GG b K ad) k "told" (tab [(0, .fld 0)]) := by
  obtain ⟨rfl, rfl, rfl, rfl, rfl⟩ := h
  exact AttrT.of (tab_cons ⟨T.cl_Row, T.na_Row_told, (show (flds 0).Nodup by decide +kernel), rfl⟩ tab_nil)
theorem T_attr_first_5 (T : Facts P w K mg base ad) {X : Cx} (h : Same X P w K mg base) {k : Nat} (hk : 0 ≤ k) : AttrT X (GG b K ad) k "first" (tab [(5, .fld 0)]) := by
  obtain ⟨rfl, rfl, rfl, rfl, rfl⟩ := h
  exact AttrT.of (tab_cons ⟨T.cl_Ladder, T.na_Ladder_first, (show (flds 5).Nodup by decide +kernel), rfl⟩ tab_nil)
theorem T_attr_chain_1 (T : Facts P w K mg base ad) {X : Cx} (h : Same X P w K mg base) {k : Nat} (hk : 0 ≤ k) : AttrT X (GG b K ad) k "chain" (tab [(1, .fld 1)]) := by
  obtain ⟨rfl, rfl, rfl, rfl, rfl⟩ := h
  exact AttrT.of (tab_cons ⟨T.cl_Pattern, T.na_Pattern_chain, (show (flds 1).Nodup by decide +kernel), rfl⟩ tab_nil)
theorem T_attr_pattern_5 (T : Facts P w K mg base ad) {X : Cx} (h : Same X P w K mg base) {k : Nat} (hk : 0 ≤ k) : AttrT X (GG b K ad) k "pattern" (tab [(5, .fld 1)]) := by
  obtain ⟨rfl, rfl, rfl, rfl, rfl⟩ := h
  exact AttrT.of (tab_cons ⟨T.cl_Ladder, T.na_Ladder_pattern, (show (flds 5).Nodup by decide +kernel), rfl⟩ tab_nil)
theorem T_attr_row_1 (T : Facts P w K mg base ad) {X : Cx} (h : Same X P w K mg base) {k : Nat} (hk : 0 ≤ k) : AttrT X (GG b K ad) k "row" (tab [(1, .fld 0)]) := by
  obtain ⟨rfl, rfl, rfl, rfl, rfl⟩ := h
  exact AttrT.of (tab_cons ⟨T.cl_Pattern, T.na_Pattern_row, (show (flds 1).Nodup by decide +kernel), rfl⟩ tab_nil)
theorem T_attr_scale_1 (T : Facts P w K mg base ad) {X : Cx} (h : Same X P w K mg base) {k : Nat} (hk : 0 ≤ k) : AttrT X (GG b K ad) k "scale" (tab [(1, .fld 2)]) := by
  obtain ⟨rfl, rfl, rfl, rfl, rfl⟩ := h
  exact AttrT.of (tab_cons ⟨T.cl_Pattern, T.na_Pattern_scale, (show (flds 1).Nodup by decide +kernel), rfl⟩ tab_nil)
def pk_is_integer : Σ' ms : MS, ∀ (P : Program) (w : World) (K : PySem.W.Frag) (mg : Str → Option Value) (base : Heap) (ad : Nat → Addr) (b : Bool), Facts P w K mg base ad → Body P w K mg base (GG b K ad) 0 (ad 0) ["value"] "is_integer" st_is_integer ms :=
  ⟨_, fun P w K mg base ad b T cdv A fr s H E c => ss_cons (s_ret (v_and (v_callB (c_isa c.cK (T.isa _ _ rfl)) (by rfl) T.z_isinstance (by decide +kernel) (l_cons (v_var (i := 0) rfl (by leaf_len) (by decide) (by decide)) (l_cons (v_ty (t := .int) (by rfl) T.z_int (by decide +kernel) (by decide) (by decide)) l_nil rfl) rfl) rfl (by decide) (by decide)) (v_one (v_not (v_callB (c_isa c.cK (T.isa _ _ rfl)) (by rfl) T.z_isinstance (by decide +kernel) (l_cons (v_var (i := 0) rfl (by leaf_len) (by decide) (by decide)) (l_cons (v_ty (t := .bool) (by rfl) T.z_bool (by decide +kernel) (by decide) (by decide)) l_nil rfl) rfl) rfl (by decide) (by decide)))))) ss_nil⟩
def sem_is_integer : List D → M D := runFn 1 1 pk_is_integer.1
theorem ok_is_integer (T : Facts P w K mg base ad) : FnA P w K mg base (GG b K ad) 2 (ad 0) sem_is_integer := by
  obtain ⟨fd, F⟩ := T.f_is_integer
  exact fna_rule F sc_is_integer (F.binds fun _ _ _ _ _ _ us hl => match us, hl with | [_], _ => rfl) rfl (pk_is_integer.2 P w K mg base ad b T) rfl rfl (by decide)
def pk_is_between : Σ' ms : MS, ∀ (P : Program) (w : World) (K : PySem.W.Frag) (mg : Str → Option Value) (base : Heap) (ad : Nat → Addr) (b : Bool), Facts P w K mg base ad → Body P w K mg base (GG b K ad) 2 (ad 1) ["value", "low", "high"] "is_between" st_is_between ms :=
  ⟨_, fun P w K mg base ad b T cdv A fr s H E c => ss_cons (s_ret (v_and (v_calls (FnA.call c ((ok_is_integer T).mono (by decide))) (by rfl) T.g_is_integer (l_cons (v_var (i := 0) rfl (by leaf_len) (by decide) (by decide)) l_nil rfl) rfl (by decide)) (v_one (v_chain' (o_le) (o_le) (v_var (i := 1) rfl (by leaf_len) (by decide) (by decide)) (v_var (i := 0) rfl (by leaf_len) (by decide) (by decide)) (v_var (i := 2) rfl (by leaf_len) (by decide) (by decide)) rfl)))) ss_nil⟩
def sem_is_between : List D → M D := runFn 3 3 pk_is_between.1
theorem ok_is_between (T : Facts P w K mg base ad) : FnA P w K mg base (GG b K ad) 4 (ad 1) sem_is_between := by
  obtain ⟨fd, F⟩ := T.f_is_between
  exact fna_rule F sc_is_between (F.binds fun _ _ _ _ _ _ us hl => match us, hl with | [_, _, _], _ => rfl) rfl (pk_is_between.2 P w K mg base ad b T) rfl rfl (by decide)
def pk_is_piece : Σ' ms : MS, ∀ (P : Program) (w : World) (K : PySem.W.Frag) (mg : Str → Option Value) (base : Heap) (ad : Nat → Addr) (b : Bool), Facts P w K mg base ad → Body P w K mg base (GG b K ad) 4 (ad 2) ["value"] "is_piece" st_is_piece ms :=
  ⟨_, fun P w K mg base ad b T cdv A fr s H E c => ss_cons (s_if (b_of (w_or (b_not (b_val (v_callB (c_isa c.cK (T.isa _ _ rfl)) (by rfl) T.z_isinstance (by decide +kernel) (l_cons (v_var (i := 0) rfl (by leaf_len) (by decide) (by decide)) (l_cons (v_ty (t := .tuple) (by rfl) T.z_tuple (by decide +kernel) (by decide) (by decide)) l_nil rfl) rfl) rfl (by decide) (by decide)) (fun _ => rfl))) (w_or (b_cmp (o_ne c.cK c.rm) (v_callB (c_len c.cK) (by rfl) T.z_len (by decide +kernel) (l_cons (v_var (i := 0) rfl (by leaf_len) (by decide) (by decide)) l_nil rfl) rfl (by decide) (by decide)) v_int rfl) (w_or1 (b_not (b_val (v_callB (c_isa c.cK (T.isa _ _ rfl)) (by rfl) T.z_isinstance (by decide +kernel) (l_cons (v_ix c.cK (v_var (i := 0) rfl (by leaf_len) (by decide) (by decide)) v_int rfl) (l_cons (v_ty (t := .str) (by rfl) T.z_str (by decide +kernel) (by decide) (by decide)) l_nil rfl) rfl) rfl (by decide) (by decide)) (fun _ => rfl))))))) (ss_cons (s_ret v_bool) ss_nil) (ss_nil)) (ss_cons (s_ret (v_and (v_cmp (o_in c.cK c.rm) (v_ix c.cK (v_var (i := 0) rfl (by leaf_len) (by decide) (by decide)) v_int rfl) (v_glob (by rfl) (T.c_WORDS _) (by decide)) rfl) (v_one (v_calls (FnA.call c ((ok_is_between T).mono (by decide))) (by rfl) T.g_is_between (l_cons (v_ix c.cK (v_var (i := 0) rfl (by leaf_len) (by decide) (by decide)) v_int rfl) (l_cons v_int (l_cons (v_glob (by rfl) (T.c_MOST_OHMS _) (by decide)) l_nil rfl) rfl) rfl) rfl (by decide))))) ss_nil)⟩
def sem_is_piece : List D → M D := runFn 1 1 pk_is_piece.1
theorem ok_is_piece (T : Facts P w K mg base ad) : FnA P w K mg base (GG b K ad) 6 (ad 2) sem_is_piece := by
  obtain ⟨fd, F⟩ := T.f_is_piece
  exact fna_rule F sc_is_piece (F.binds fun _ _ _ _ _ _ us hl => match us, hl with | [_], _ => rfl) rfl (pk_is_piece.2 P w K mg base ad b T) rfl rfl (by decide)
def pk_check_pieces : Σ' ms : MS, ∀ (P : Program) (w : World) (K : PySem.W.Frag) (mg : Str → Option Value) (base : Heap) (ad : Nat → Addr) (b : Bool), Facts P w K mg base ad → Body P w K mg base (GG b K ad) 6 (ad 3) ["pieces", "index", "piece"] "check_pieces" st_check_pieces ms :=
  ⟨_, fun P w K mg base ad b T cdv A fr s H E c => ss_cons (s_if (b_of (w_or (b_cmp (o_eq c.cK c.rm) (v_callB (c_len c.cK) (by rfl) T.z_len (by decide +kernel) (l_cons (v_var (i := 0) rfl (by leaf_len) (by decide) (by decide)) l_nil rfl) rfl (by decide) (by decide)) v_int rfl) (w_or1 (b_cmp (o_gt) (v_callB (c_len c.cK) (by rfl) T.z_len (by decide +kernel) (l_cons (v_var (i := 0) rfl (by leaf_len) (by decide) (by decide)) l_nil rfl) rfl (by decide) (by decide)) (v_glob (by rfl) (T.c_MOST_PIECES _) (by decide)) rfl)))) (ss_never) (ss_nil)) (ss_cons (s_for c (i_enum c (by rfl) T.z_enumerate (v_var (i := 0) rfl (by leaf_len) (by decide) (by decide)) rfl) (g_tup c.cK c.calm (gs_cons (g_name (i := 1) c.nd rfl (by mem_news) (.inl rfl)) (gs_cons (g_name (i := 2) c.nd rfl (by mem_news) (.inl rfl)) gs_nil rfl) rfl) rfl rfl) (ss_cons (s_if (b_not (b_val (v_calls (FnA.call c ((ok_is_piece T).mono (by decide))) (by rfl) T.g_is_piece (l_cons (v_var (i := 2) rfl (by leaf_len) (by decide) (by decide)) l_nil rfl) rfl (by decide)) (fun _ => rfl))) (ss_never) (ss_nil)) (ss_nil)) rfl) (ss_nil))⟩
def sem_check_pieces : List D → M D := runFn 1 3 pk_check_pieces.1
theorem ok_check_pieces (T : Facts P w K mg base ad) : FnA P w K mg base (GG b K ad) 8 (ad 3) sem_check_pieces := by
  obtain ⟨fd, F⟩ := T.f_check_pieces
  exact fna_rule F sc_check_pieces (F.binds fun _ _ _ _ _ _ us hl => match us, hl with | [_], _ => rfl) rfl (pk_check_pieces.2 P w K mg base ad b T) rfl rfl (by decide)
def pk_joined : Σ' ms : MS, ∀ (P : Program) (w : World) (K : PySem.W.Frag) (mg : Str → Option Value) (base : Heap) (ad : Nat → Addr) (b : Bool), Facts P w K mg base ad → Body P w K mg base (GG b K ad) 0 (ad 4) ["front", "back", "a", "b", "c", "d", "e", "f", "g", "h"] "joined" st_joined ms :=
  ⟨_, fun P w K mg base ad b T cdv A fr s H E c => ss_cons (s_asg (v_var (i := 0) rfl (by leaf_len) (by decide) (by decide)) (g_tup c.cK c.calm (gs_cons (g_name (i := 2) c.nd rfl (by mem_news) (.inl rfl)) (gs_cons (g_name (i := 3) c.nd rfl (by mem_news) (.inl rfl)) (gs_cons (g_name (i := 4) c.nd rfl (by mem_news) (.inl rfl)) (gs_cons (g_name (i := 5) c.nd rfl (by mem_news) (.inl rfl)) gs_nil rfl) rfl) rfl) rfl) rfl rfl) rfl rfl rfl) (ss_cons (s_asg (v_var (i := 1) rfl (by leaf_len) (by decide) (by decide)) (g_tup c.cK c.calm (gs_cons (g_name (i := 6) c.nd rfl (by mem_news) (.inl rfl)) (gs_cons (g_name (i := 7) c.nd rfl (by mem_news) (.inl rfl)) (gs_cons (g_name (i := 8) c.nd rfl (by mem_news) (.inl rfl)) (gs_cons (g_name (i := 9) c.nd rfl (by mem_news) (.inl rfl)) gs_nil rfl) rfl) rfl) rfl) rfl rfl) rfl rfl rfl) (ss_cons (s_ret (v_tup (l_cons (v_bin (o_add c.cK) (v_bin (o_mul c.cK) (v_var (i := 2) rfl (by leaf_len) (by decide) (by decide)) (v_var (i := 6) rfl (by leaf_len) (by decide) (by decide))) (v_bin (o_mul c.cK) (v_var (i := 3) rfl (by leaf_len) (by decide) (by decide)) (v_var (i := 8) rfl (by leaf_len) (by decide) (by decide)))) (l_cons (v_bin (o_add c.cK) (v_bin (o_mul c.cK) (v_var (i := 2) rfl (by leaf_len) (by decide) (by decide)) (v_var (i := 7) rfl (by leaf_len) (by decide) (by decide))) (v_bin (o_mul c.cK) (v_var (i := 3) rfl (by leaf_len) (by decide) (by decide)) (v_var (i := 9) rfl (by leaf_len) (by decide) (by decide)))) (l_cons (v_bin (o_add c.cK) (v_bin (o_mul c.cK) (v_var (i := 4) rfl (by leaf_len) (by decide) (by decide)) (v_var (i := 6) rfl (by leaf_len) (by decide) (by decide))) (v_bin (o_mul c.cK) (v_var (i := 5) rfl (by leaf_len) (by decide) (by decide)) (v_var (i := 8) rfl (by leaf_len) (by decide) (by decide)))) (l_cons (v_bin (o_add c.cK) (v_bin (o_mul c.cK) (v_var (i := 4) rfl (by leaf_len) (by decide) (by decide)) (v_var (i := 7) rfl (by leaf_len) (by decide) (by decide))) (v_bin (o_mul c.cK) (v_var (i := 5) rfl (by leaf_len) (by decide) (by decide)) (v_var (i := 9) rfl (by leaf_len) (by decide) (by decide)))) l_nil rfl) rfl) rfl) rfl) (by decide))) ss_nil))⟩
def sem_joined : List D → M D := runFn 2 10 pk_joined.1
theorem ok_joined (T : Facts P w K mg base ad) : FnA P w K mg base (GG b K ad) 2 (ad 4) sem_joined := by
  obtain ⟨fd, F⟩ := T.f_joined
  exact fna_rule F sc_joined (F.binds fun _ _ _ _ _ _ us hl => match us, hl with | [_, _], _ => rfl) rfl (pk_joined.2 P w K mg base ad b T) rfl rfl (by decide)
def pk_chain_of : Σ' ms : MS, ∀ (P : Program) (w : World) (K : PySem.W.Frag) (mg : Str → Option Value) (base : Heap) (ad : Nat → Addr) (b : Bool), Facts P w K mg base ad → Body P w K mg base (GG b K ad) 2 (ad 5) ["pieces", "found", "times", "word", "ohms"] "chain_of" st_chain_of ms :=
  ⟨_, fun P w K mg base ad b T cdv A fr s H E c => ss_cons (s_par (i := 1) (j := 2) c rfl rfl (by decide) rfl rfl (l_cons (v_glob (by rfl) (T.c_NOTHING _) (by decide)) (l_cons v_int l_nil rfl) rfl) rfl) (ss_cons (s_for c (i_seq c (v_var (i := 0) rfl (by leaf_len) (by decide) (by decide))) (g_tup c.cK c.calm (gs_cons (g_name (i := 3) c.nd rfl (by mem_news) (.inl rfl)) (gs_cons (g_name (i := 4) c.nd rfl (by mem_news) (.inl rfl)) gs_nil rfl) rfl) rfl rfl) (ss_cons (s_if (b_cmp (o_eq c.cK c.rm) (v_var (i := 3) rfl (by leaf_len) (by decide) (by decide)) v_str rfl) (ss_cons (s_set (i := 1) c rfl (by mem_news) (v_calls (FnA.call c ((ok_joined T).mono (by decide))) (by rfl) T.g_joined (l_cons (v_var (i := 1) rfl (by leaf_len) (by decide) (by decide)) (l_cons (v_tup (l_cons v_int (l_cons (v_var (i := 4) rfl (by leaf_len) (by decide) (by decide)) (l_cons v_int (l_cons v_int l_nil rfl) rfl) rfl) rfl) (by decide)) l_nil rfl) rfl) rfl (by decide)) rfl (.inl rfl)) (ss_nil)) (ss_cons (s_par (i := 1) (j := 2) c rfl rfl (by decide) rfl rfl (l_cons (v_calls (FnA.call c ((ok_joined T).mono (by decide))) (by rfl) T.g_joined (l_cons (v_var (i := 1) rfl (by leaf_len) (by decide) (by decide)) (l_cons (v_tup (l_cons (v_var (i := 4) rfl (by leaf_len) (by decide) (by decide)) (l_cons v_int (l_cons v_int (l_cons (v_var (i := 4) rfl (by leaf_len) (by decide) (by decide)) l_nil rfl) rfl) rfl) rfl) (by decide)) l_nil rfl) rfl) rfl (by decide)) (l_cons (v_bin (o_mul c.cK) (v_var (i := 2) rfl (by leaf_len) (by decide) (by decide)) (v_var (i := 4) rfl (by leaf_len) (by decide) (by decide))) l_nil rfl) rfl) rfl) (ss_nil))) (ss_nil)) rfl) (ss_cons (s_ret (v_tup (l_cons (v_var (i := 1) rfl (by leaf_len) (by decide) (by decide)) (l_cons (v_var (i := 2) rfl (by leaf_len) (by decide) (by decide)) l_nil rfl) rfl) (by decide))) ss_nil))⟩
def sem_chain_of : List D → M D := runFn 1 5 pk_chain_of.1
theorem ok_chain_of (T : Facts P w K mg base ad) : FnA P w K mg base (GG b K ad) 4 (ad 5) sem_chain_of := by
  obtain ⟨fd, F⟩ := T.f_chain_of
  exact fna_rule F sc_chain_of (F.binds fun _ _ _ _ _ _ us hl => match us, hl with | [_], _ => rfl) rfl (pk_chain_of.2 P w K mg base ad b T) rfl rfl (by decide)
def pk_PatternX_initX : Σ' ms : MS, ∀ (P : Program) (w : World) (K : PySem.W.Frag) (mg : Str → Option Value) (base : Heap) (ad : Nat → Addr) (b : Bool), Facts P w K mg base ad → Body P w K mg base (GG b K ad) 8 (ad 6) ["self", "pieces"] "Pattern.__init__" st_PatternX_initX ms :=
  ⟨_, fun P w K mg base ad b T cdv A fr s H E c => ss_cons (s_if (b_of (w_and (b_cmp (o_eq c.cK c.rm) (v_callB (c_len c.cK) (by rfl) T.z_len (by decide +kernel) (l_cons (v_var (i := 1) rfl (by leaf_len) (by decide) (by decide)) l_nil rfl) rfl (by decide) (by decide)) v_int rfl) (w_and1 (b_val (v_callB (c_isa c.cK (T.isa _ _ rfl)) (by rfl) T.z_isinstance (by decide +kernel) (l_cons (v_ix c.cK (v_var (i := 1) rfl (by leaf_len) (by decide) (by decide)) v_int rfl) (l_cons (v_glob (by rfl) (glob_cls (c := 0) T.k_Row) (by decide)) l_nil rfl) rfl) rfl (by decide) (by decide)) (fun _ => rfl))))) (ss_cons (s_setF (i := 0) (T_fld_row T ⟨rfl, rfl, rfl, rfl, rfl⟩) rfl (by leaf_len) (by decide) (by decide) (v_attr c (T_attr_told_0 T ⟨rfl, rfl, rfl, rfl, rfl⟩ (by decide)) (v_ix c.cK (v_var (i := 1) rfl (by leaf_len) (by decide) (by decide)) v_int rfl) rfl) rfl) (ss_nil)) (ss_cons (s_expr (v_calls (FnA.call c ((ok_check_pieces T).mono (by decide))) (by rfl) T.g_check_pieces (l_cons (v_var (i := 1) rfl (by leaf_len) (by decide) (by decide)) l_nil rfl) rfl (by decide)) rfl) (ss_cons (s_setF (i := 0) (T_fld_row T ⟨rfl, rfl, rfl, rfl, rfl⟩) rfl (by leaf_len) (by decide) (by decide) (v_callTy (c_tuple c.cK) (by rfl) T.z_tuple (by decide +kernel) (l_cons (v_var (i := 1) rfl (by leaf_len) (by decide) (by decide)) l_nil rfl) rfl (by decide) (by decide)) rfl) (ss_nil)))) (ss_cons (s_asg (v_calls (FnA.call c ((ok_chain_of T).mono (by decide))) (by rfl) T.g_chain_of (l_cons (v_ownF (i := 0) (T_fld_row T ⟨rfl, rfl, rfl, rfl, rfl⟩) rfl (by leaf_len) (by decide) (by decide)) l_nil rfl) rfl (by decide)) (g_tup c.cK c.calm (gs_cons (g_fld (i := 0) (T_fld_chain T ⟨rfl, rfl, rfl, rfl, rfl⟩) rfl (by leaf_len) (by decide) (by decide)) (gs_cons (g_fld (i := 0) (T_fld_scale T ⟨rfl, rfl, rfl, rfl, rfl⟩) rfl (by leaf_len) (by decide) (by decide)) gs_nil rfl) rfl) rfl rfl) rfl rfl rfl) (ss_nil))⟩
def sem_PatternX_initX : List D → M D := mkStar 1 1 2 pk_PatternX_initX.1
theorem mk_Pattern (T : Facts P w K mg base ad) : ClA P w K mg base (GG b K ad) 10 1 sem_PatternX_initX := by
  obtain ⟨fd, F⟩ := T.f_PatternX_initX
  exact cla_star (ps := ["self"]) (pv := "pieces") F sc_PatternX_initX rfl (pk_PatternX_initX.2 P w K mg base ad b T) (fun _ _ _ _ _ _ => StX.bind_star1 (B := fun l => bindArgs _ ⟨l, []⟩) (fun _ => rfl) (fun _ _ _ => rfl)) T.m_Pattern rfl rfl (by decide) (by decide)
def pk_check_count : Σ' ms : MS, ∀ (P : Program) (w : World) (K : PySem.W.Frag) (mg : Str → Option Value) (base : Heap) (ad : Nat → Addr) (b : Bool), Facts P w K mg base ad → Body P w K mg base (GG b K ad) 4 (ad 7) ["value"] "check_count" st_check_count ms :=
  ⟨_, fun P w K mg base ad b T cdv A fr s H E c => ss_cons (s_if (b_not (b_val (v_calls (FnA.call c ((ok_is_between T).mono (by decide))) (by rfl) T.g_is_between (l_cons (v_var (i := 0) rfl (by leaf_len) (by decide) (by decide)) (l_cons v_int (l_cons (v_glob (by rfl) (T.c_MOST_SECTIONS _) (by decide)) l_nil rfl) rfl) rfl) rfl (by decide)) (fun _ => rfl))) (ss_never) (ss_nil)) (ss_nil)⟩
def sem_check_count : List D → M D := runFn 1 1 pk_check_count.1
theorem ok_check_count (T : Facts P w K mg base ad) : FnA P w K mg base (GG b K ad) 6 (ad 7) sem_check_count := by
  obtain ⟨fd, F⟩ := T.f_check_count
  exact fna_rule F sc_check_count (F.binds fun _ _ _ _ _ _ us hl => match us, hl with | [_], _ => rfl) rfl (pk_check_count.2 P w K mg base ad b T) rfl rfl (by decide)
def pk_led : Σ' ms : MS, ∀ (P : Program) (w : World) (K : PySem.W.Frag) (mg : Str → Option Value) (base : Heap) (ad : Nat → Addr) (b : Bool), Facts P w K mg base ad → Body P w K mg base (GG b K ad) 0 (ad 8) ["chain", "pair", "a", "b", "c", "d"] "led" st_led ms :=
  ⟨_, fun P w K mg base ad b T cdv A fr s H E c => ss_cons (s_asg (v_var (i := 0) rfl (by leaf_len) (by decide) (by decide)) (g_tup c.cK c.calm (gs_cons (g_name (i := 2) c.nd rfl (by mem_news) (.inl rfl)) (gs_cons (g_name (i := 3) c.nd rfl (by mem_news) (.inl rfl)) (gs_cons (g_name (i := 4) c.nd rfl (by mem_news) (.inl rfl)) (gs_cons (g_name (i := 5) c.nd rfl (by mem_news) (.inl rfl)) gs_nil rfl) rfl) rfl) rfl) rfl rfl) rfl rfl rfl) (ss_cons (s_ret (v_tup (l_cons (v_bin (o_add c.cK) (v_bin (o_mul c.cK) (v_var (i := 2) rfl (by leaf_len) (by decide) (by decide)) (v_ix c.cK (v_var (i := 1) rfl (by leaf_len) (by decide) (by decide)) v_int rfl)) (v_bin (o_mul c.cK) (v_var (i := 3) rfl (by leaf_len) (by decide) (by decide)) (v_ix c.cK (v_var (i := 1) rfl (by leaf_len) (by decide) (by decide)) v_int rfl))) (l_cons (v_bin (o_add c.cK) (v_bin (o_mul c.cK) (v_var (i := 4) rfl (by leaf_len) (by decide) (by decide)) (v_ix c.cK (v_var (i := 1) rfl (by leaf_len) (by decide) (by decide)) v_int rfl)) (v_bin (o_mul c.cK) (v_var (i := 5) rfl (by leaf_len) (by decide) (by decide)) (v_ix c.cK (v_var (i := 1) rfl (by leaf_len) (by decide) (by decide)) v_int rfl))) l_nil rfl) rfl) (by decide))) ss_nil)⟩
def sem_led : List D → M D := runFn 2 6 pk_led.1
theorem ok_led (T : Facts P w K mg base ad) : FnA P w K mg base (GG b K ad) 2 (ad 8) sem_led := by
  obtain ⟨fd, F⟩ := T.f_led
  exact fna_rule F sc_led (F.binds fun _ _ _ _ _ _ us hl => match us, hl with | [_, _], _ => rfl) rfl (pk_led.2 P w K mg base ad b T) rfl rfl (by decide)
def pk_common : Σ' ms : MS, ∀ (P : Program) (w : World) (K : PySem.W.Frag) (mg : Str → Option Value) (base : Heap) (ad : Nat → Addr) (b : Bool), Facts P w K mg base ad → Body P w K mg base (GG b K ad) 0 (ad 9) ["one", "other"] "common" st_common ms :=
  ⟨_, fun P w K mg base ad b T cdv A fr s H E c => ss_cons (s_while c (b_cmp (o_gt) (v_var (i := 1) rfl (by leaf_len) (by decide) (by decide)) v_int rfl) (ss_cons (s_par (i := 0) (j := 1) c rfl rfl (by decide) rfl rfl (l_cons (v_var (i := 1) rfl (by leaf_len) (by decide) (by decide)) (l_cons (v_bin (o_mod) (v_callTy (c_int) (by rfl) T.z_int (by decide +kernel) (l_cons (v_var (i := 0) rfl (by leaf_len) (by decide) (by decide)) l_nil rfl) rfl (by decide) (by decide)) (v_callTy (c_int) (by rfl) T.z_int (by decide +kernel) (l_cons (v_var (i := 1) rfl (by leaf_len) (by decide) (by decide)) l_nil rfl) rfl (by decide) (by decide))) l_nil rfl) rfl) rfl) (ss_nil))) (ss_cons (s_ret (v_var (i := 0) rfl (by leaf_len) (by decide) (by decide))) ss_nil)⟩
def sem_common : List D → M D := runFn 2 2 pk_common.1
theorem ok_common (T : Facts P w K mg base ad) : FnA P w K mg base (GG b K ad) 2 (ad 9) sem_common := by
  obtain ⟨fd, F⟩ := T.f_common
  exact fna_rule F sc_common (F.binds fun _ _ _ _ _ _ us hl => match us, hl with | [_, _], _ => rfl) rfl (pk_common.2 P w K mg base ad b T) rfl rfl (by decide)
def pk_lowest : Σ' ms : MS, ∀ (P : Program) (w : World) (K : PySem.W.Frag) (mg : Str → Option Value) (base : Heap) (ad : Nat → Addr) (b : Bool), Facts P w K mg base ad → Body P w K mg base (GG b K ad) 2 (ad 10) ["top", "bottom", "by"] "lowest" st_lowest ms :=
  ⟨_, fun P w K mg base ad b T cdv A fr s H E c => ss_cons (s_set (i := 2) c rfl (by mem_news) (v_calls (FnA.call c ((ok_common T).mono (by decide))) (by rfl) T.g_common (l_cons (v_var (i := 0) rfl (by leaf_len) (by decide) (by decide)) (l_cons (v_var (i := 1) rfl (by leaf_len) (by decide) (by decide)) l_nil rfl) rfl) rfl (by decide)) rfl (.inl rfl)) (ss_cons (s_ret (v_tup (l_cons (v_bin (o_fdiv) (v_var (i := 0) rfl (by leaf_len) (by decide) (by decide)) (v_var (i := 2) rfl (by leaf_len) (by decide) (by decide))) (l_cons (v_bin (o_fdiv) (v_var (i := 1) rfl (by leaf_len) (by decide) (by decide)) (v_var (i := 2) rfl (by leaf_len) (by decide) (by decide))) l_nil rfl) rfl) (by decide))) ss_nil)⟩
def sem_lowest : List D → M D := runFn 2 3 pk_lowest.1
theorem ok_lowest (T : Facts P w K mg base ad) : FnA P w K mg base (GG b K ad) 4 (ad 10) sem_lowest := by
  obtain ⟨fd, F⟩ := T.f_lowest
  exact fna_rule F sc_lowest (F.binds fun _ _ _ _ _ _ us hl => match us, hl with | [_, _], _ => rfl) rfl (pk_lowest.2 P w K mg base ad b T) rfl rfl (by decide)
def pk_shown : Σ' ms : MS, ∀ (P : Program) (w : World) (K : PySem.W.Frag) (mg : Str → Option Value) (base : Heap) (ad : Nat → Addr) (b : Bool), Facts P w K mg base ad → Body P w K mg base (GG b K ad) 4 (ad 11) ["chain", "pair", "top", "bottom"] "shown" st_shown ms :=
  ⟨_, fun P w K mg base ad b T cdv A fr s H E c => ss_cons (s_asg (v_calls (FnA.call c ((ok_led T).mono (by decide))) (by rfl) T.g_led (l_cons (v_var (i := 0) rfl (by leaf_len) (by decide) (by decide)) (l_cons (v_var (i := 1) rfl (by leaf_len) (by decide) (by decide)) l_nil rfl) rfl) rfl (by decide)) (g_tup c.cK c.calm (gs_cons (g_name (i := 2) c.nd rfl (by mem_news) (.inl rfl)) (gs_cons (g_name (i := 3) c.nd rfl (by mem_news) (.inl rfl)) gs_nil rfl) rfl) rfl rfl) rfl rfl rfl) (ss_cons (s_ret (v_calls (FnA.call c ((ok_lowest T).mono (by decide))) (by rfl) T.g_lowest (l_cons (v_var (i := 2) rfl (by leaf_len) (by decide) (by decide)) (l_cons (v_var (i := 3) rfl (by leaf_len) (by decide) (by decide)) l_nil rfl) rfl) rfl (by decide))) ss_nil)⟩
def sem_shown : List D → M D := runFn 2 4 pk_shown.1
theorem ok_shown (T : Facts P w K mg base ad) : FnA P w K mg base (GG b K ad) 6 (ad 11) sem_shown := by
  obtain ⟨fd, F⟩ := T.f_shown
  exact fna_rule F sc_shown (F.binds fun _ _ _ _ _ _ us hl => match us, hl with | [_, _], _ => rfl) rfl (pk_shown.2 P w K mg base ad b T) rfl rfl (by decide)
def pk_slim : Σ' ms : MS, ∀ (P : Program) (w : World) (K : PySem.W.Frag) (mg : Str → Option Value) (base : Heap) (ad : Nat → Addr) (b : Bool), Facts P w K mg base ad → Body P w K mg base (GG b K ad) 2 (ad 12) ["chain", "by", "number"] "slim" st_slim ms :=
  ⟨_, fun P w K mg base ad b T cdv A fr s H E c => ss_cons (s_set (i := 1) c rfl (by mem_news) (v_calls (FnA.call c ((ok_common T).mono (by decide))) (by rfl) T.g_common (l_cons (v_calls (FnA.call c ((ok_common T).mono (by decide))) (by rfl) T.g_common (l_cons (v_ix c.cK (v_var (i := 0) rfl (by leaf_len) (by decide) (by decide)) v_int rfl) (l_cons (v_ix c.cK (v_var (i := 0) rfl (by leaf_len) (by decide) (by decide)) v_int rfl) l_nil rfl) rfl) rfl (by decide)) (l_cons (v_calls (FnA.call c ((ok_common T).mono (by decide))) (by rfl) T.g_common (l_cons (v_ix c.cK (v_var (i := 0) rfl (by leaf_len) (by decide) (by decide)) v_int rfl) (l_cons (v_ix c.cK (v_var (i := 0) rfl (by leaf_len) (by decide) (by decide)) v_int rfl) l_nil rfl) rfl) rfl (by decide)) l_nil rfl) rfl) rfl (by decide)) rfl (.inl rfl)) (ss_cons (s_ret (v_callTy (c_tuple c.cK) (by rfl) T.z_tuple (by decide +kernel) (l_cons (v_lc c (own := [("number", 2)]) (i_seq c (v_var (i := 0) rfl (by leaf_len) (by decide) (by decide))) (blkOk_by (N := ["chain", "by", "number"]) (sc := defScope st_slim) (by decide +kernel)) (fun s H C cl fp => blkP c fun c => (p_name (i := 2) c.nd rfl (by mem_news) (.inr rfl))) (fun s H C cl fp => blkT c fun c => t_nil) (fun s H C cl fp => blkV c fun c => (v_bin (o_fdiv) (v_var (i := 2) rfl (by leaf_len) (by decide) (by decide)) (v_var (i := 1) rfl (by leaf_len) (by decide) (by decide)))) rfl (by decide)) l_nil rfl) rfl (by decide) (by decide))) ss_nil)⟩
def sem_slim : List D → M D := runFn 1 3 pk_slim.1
theorem ok_slim (T : Facts P w K mg base ad) : FnA P w K mg base (GG b K ad) 4 (ad 12) sem_slim := by
  obtain ⟨fd, F⟩ := T.f_slim
  exact fna_rule F sc_slim (F.binds fun _ _ _ _ _ _ us hl => match us, hl with | [_], _ => rfl) rfl (pk_slim.2 P w K mg base ad b T) rfl rfl (by decide)
def pk_repeated : Σ' ms : MS, ∀ (P : Program) (w : World) (K : PySem.W.Frag) (mg : Str → Option Value) (base : Heap) (ad : Nat → Addr) (b : Bool), Facts P w K mg base ad → Body P w K mg base (GG b K ad) 4 (ad 13) ["chain", "count", "found", "power"] "repeated" st_repeated ms :=
  ⟨_, fun P w K mg base ad b T cdv A fr s H E c => ss_cons (s_par (i := 2) (j := 3) c rfl rfl (by decide) rfl rfl (l_cons (v_glob (by rfl) (T.c_NOTHING _) (by decide)) (l_cons (v_var (i := 0) rfl (by leaf_len) (by decide) (by decide)) l_nil rfl) rfl) rfl) (ss_cons (s_while c (b_cmp (o_gt) (v_var (i := 1) rfl (by leaf_len) (by decide) (by decide)) v_int rfl) (ss_cons (s_if (b_cmp (o_eq c.cK c.rm) (v_bin (o_mod) (v_var (i := 1) rfl (by leaf_len) (by decide) (by decide)) v_int) v_int rfl) (ss_cons (s_set (i := 2) c rfl (by mem_news) (v_calls (FnA.call c ((ok_slim T).mono (by decide))) (by rfl) T.g_slim (l_cons (v_calls (FnA.call c ((ok_joined T).mono (by decide))) (by rfl) T.g_joined (l_cons (v_var (i := 2) rfl (by leaf_len) (by decide) (by decide)) (l_cons (v_var (i := 3) rfl (by leaf_len) (by decide) (by decide)) l_nil rfl) rfl) rfl (by decide)) l_nil rfl) rfl (by decide)) rfl (.inl rfl)) (ss_nil)) (ss_nil)) (ss_cons (s_set (i := 3) c rfl (by mem_news) (v_calls (FnA.call c ((ok_slim T).mono (by decide))) (by rfl) T.g_slim (l_cons (v_calls (FnA.call c ((ok_joined T).mono (by decide))) (by rfl) T.g_joined (l_cons (v_var (i := 3) rfl (by leaf_len) (by decide) (by decide)) (l_cons (v_var (i := 3) rfl (by leaf_len) (by decide) (by decide)) l_nil rfl) rfl) rfl (by decide)) l_nil rfl) rfl (by decide)) rfl (.inl rfl)) (ss_cons (s_set (i := 1) c rfl (by mem_news) (v_bin (o_fdiv) (v_var (i := 1) rfl (by leaf_len) (by decide) (by decide)) v_int) rfl (.inl rfl)) (ss_nil))))) (ss_cons (s_ret (v_var (i := 2) rfl (by leaf_len) (by decide) (by decide))) ss_nil))⟩
def sem_repeated : List D → M D := runFn 2 4 pk_repeated.1
theorem ok_repeated (T : Facts P w K mg base ad) : FnA P w K mg base (GG b K ad) 6 (ad 13) sem_repeated := by
  obtain ⟨fd, F⟩ := T.f_repeated
  exact fna_rule F sc_repeated (F.binds fun _ _ _ _ _ _ us hl => match us, hl with | [_, _], _ => rfl) rfl (pk_repeated.2 P w K mg base ad b T) rfl rfl (by decide)
def pk_Ladder_value_at : Σ' ms : MS, ∀ (P : Program) (w : World) (K : PySem.W.Frag) (mg : Str → Option Value) (base : Heap) (ad : Nat → Addr) (b : Bool), Facts P w K mg base ad → Body P w K mg base (GG b K ad) 6 (ad 14) ["self", "number"] "Ladder.value_at" st_Ladder_value_at ms :=
  ⟨_, fun P w K mg base ad b T cdv A fr s H E c => ss_cons (s_ret (v_calls (FnA.call c ((ok_shown T).mono (by decide))) (by rfl) T.g_shown (l_cons (v_calls (FnA.call c ((ok_repeated T).mono (by decide))) (by rfl) T.g_repeated (l_cons (v_attr c (T_attr_chain_1 T ⟨rfl, rfl, rfl, rfl, rfl⟩ (by decide)) (v_attr c (T_attr_pattern_5 T ⟨rfl, rfl, rfl, rfl, rfl⟩ (by decide)) (v_var (i := 0) rfl (by leaf_len) (by decide) (by decide)) rfl) rfl) (l_cons (v_var (i := 1) rfl (by leaf_len) (by decide) (by decide)) l_nil rfl) rfl) rfl (by decide)) (l_cons (v_attr c (T_attr_first_5 T ⟨rfl, rfl, rfl, rfl, rfl⟩ (by decide)) (v_var (i := 0) rfl (by leaf_len) (by decide) (by decide)) rfl) l_nil rfl) rfl) rfl (by decide))) ss_nil⟩
def sem_Ladder_value_at : List D → M D := runFn 2 2 pk_Ladder_value_at.1
theorem ok_Ladder_value_at (T : Facts P w K mg base ad) : FnA P w K mg base (GG b K ad) 8 (ad 14) sem_Ladder_value_at := by
  obtain ⟨fd, F⟩ := T.f_Ladder_value_at
  exact fna_rule F sc_Ladder_value_at (F.binds fun _ _ _ _ _ _ us hl => match us, hl with | [_, _], _ => rfl) rfl (pk_Ladder_value_at.2 P w K mg base ad b T) rfl rfl (by decide)
theorem T_meth_value_at_5 (T : Facts P w K mg base ad) {X : Cx} (h : Same X P w K mg base) {k : Nat} (hk : 8 ≤ k) : MethT X (GG b K ad) k "value_at" (tab [(5, sem_Ladder_value_at)]) := by
  obtain ⟨rfl, rfl, rfl, rfl, rfl⟩ := h
  exact ⟨(tab_cons ⟨_, T.cl_Ladder, T.t_Ladder_Ladder_value_at, (ok_Ladder_value_at T).mono (Nat.le_trans (by decide) hk), (show ("value_at" : Str) ∉ flds 5 by decide +kernel)⟩ tab_nil)⟩
def pk_RunX_callX : Σ' ms : MS, ∀ (P : Program) (w : World) (K : PySem.W.Frag) (mg : Str → Option Value) (base : Heap) (ad : Nat → Addr) (b : Bool), Facts P w K mg base ad → Body P w K mg base (GG b K ad) 8 (ad 15) ["self", "count"] "Run.__call__" st_RunX_callX ms :=
  ⟨_, fun P w K mg base ad b T cdv A fr s H E c => ss_cons (s_expr (v_calls (FnA.call c ((ok_check_count T).mono (by decide))) (by rfl) T.g_check_count (l_cons (v_var (i := 1) rfl (by leaf_len) (by decide) (by decide)) l_nil rfl) rfl (by decide)) rfl) (ss_cons (s_ret (v_meth c (T_meth_value_at_5 T ⟨rfl, rfl, rfl, rfl, rfl⟩ (by decide)) (v_var (i := 0) rfl (by leaf_len) (by decide) (by decide)) (l_cons (v_var (i := 1) rfl (by leaf_len) (by decide) (by decide)) l_nil rfl) rfl rfl (by decide) rfl)) ss_nil)⟩
def sem_RunX_callX : List D → M D := runFn 2 2 pk_RunX_callX.1
theorem ok_RunX_callX (T : Facts P w K mg base ad) : FnA P w K mg base (GG b K ad) 10 (ad 15) sem_RunX_callX := by
  obtain ⟨fd, F⟩ := T.f_RunX_callX
  exact fna_rule F sc_RunX_callX (F.binds fun _ _ _ _ _ _ us hl => match us, hl with | [_, _], _ => rfl) rfl (pk_RunX_callX.2 P w K mg base ad b T) rfl rfl (by decide)
theorem okk_RunX_callX_1_count (T : Facts P w K mg base ad) : FnK P w K mg base (GG b K ad) 10 (ad 15) 1 ["count"] (fun ds => sem_RunX_callX (perm [0, 1] ds)) := by
  obtain ⟨fd, F⟩ := T.f_RunX_callX
  exact fnk_rule (ix := [0, 1]) F sc_RunX_callX (fun _ _ _ _ _ _ us ws h1 h2 => match us, ws, h1, h2 with | [_], [_], _, _ => rfl) rfl (pk_RunX_callX.2 P w K mg base ad b T) rfl rfl (by decide)
theorem T_call_5 (T : Facts P w K mg base ad) {X : Cx} (h : Same X P w K mg base) {k : Nat} (hk : 10 ≤ k) : CallT X (GG b K ad) k (tab [(5, sem_RunX_callX)]) := by
  obtain ⟨rfl, rfl, rfl, rfl, rfl⟩ := h
  exact ⟨(tab_cons ⟨_, T.o_Ladder_RunX_callX, (ok_RunX_callX T).mono (Nat.le_trans (by decide) hk)⟩ tab_nil)⟩
theorem T_callk_5_count0 (T : Facts P w K mg base ad) {X : Cx} (h : Same X P w K mg base) {k : Nat} (hk : 10 ≤ k) : CallKT X (GG b K ad) k ["count"] (tab [(5, fun ds => sem_RunX_callX (perm [0, 1] ds))]) := by
  obtain ⟨rfl, rfl, rfl, rfl, rfl⟩ := h
  exact ⟨(tab_cons ⟨_, T.o_Ladder_RunX_callX, (okk_RunX_callX_1_count T).mono (Nat.le_trans (by decide) hk)⟩ tab_nil)⟩
def pk_check_pattern : Σ' ms : MS, ∀ (P : Program) (w : World) (K : PySem.W.Frag) (mg : Str → Option Value) (base : Heap) (ad : Nat → Addr) (b : Bool), Facts P w K mg base ad → Body P w K mg base (GG b K ad) 0 (ad 16) ["value"] "check_pattern" st_check_pattern ms :=
  ⟨_, fun P w K mg base ad b T cdv A fr s H E c => ss_cons (s_if (b_not (b_val (v_callB (c_isa c.cK (T.isa _ _ rfl)) (by rfl) T.z_isinstance (by decide +kernel) (l_cons (v_var (i := 0) rfl (by leaf_len) (by decide) (by decide)) (l_cons (v_glob (by rfl) (glob_cls (c := 1) T.k_Pattern) (by decide)) l_nil rfl) rfl) rfl (by decide) (by decide)) (fun _ => rfl))) (ss_never) (ss_nil)) (ss_nil)⟩
def sem_check_pattern : List D → M D := runFn 1 1 pk_check_pattern.1
theorem ok_check_pattern (T : Facts P w K mg base ad) : FnA P w K mg base (GG b K ad) 2 (ad 16) sem_check_pattern := by
  obtain ⟨fd, F⟩ := T.f_check_pattern
  exact fna_rule F sc_check_pattern (F.binds fun _ _ _ _ _ _ us hl => match us, hl with | [_], _ => rfl) rfl (pk_check_pattern.2 P w K mg base ad b T) rfl rfl (by decide)
def pk_is_fraction : Σ' ms : MS, ∀ (P : Program) (w : World) (K : PySem.W.Frag) (mg : Str → Option Value) (base : Heap) (ad : Nat → Addr) (b : Bool), Facts P w K mg base ad → Body P w K mg base (GG b K ad) 2 (ad 17) ["value"] "is_fraction" st_is_fraction ms :=
  ⟨_, fun P w K mg base ad b T cdv A fr s H E c => ss_cons (s_if (b_not (b_val (v_callB (c_isa c.cK (T.isa _ _ rfl)) (by rfl) T.z_isinstance (by decide +kernel) (l_cons (v_var (i := 0) rfl (by leaf_len) (by decide) (by decide)) (l_cons (v_ty (t := .tuple) (by rfl) T.z_tuple (by decide +kernel) (by decide) (by decide)) l_nil rfl) rfl) rfl (by decide) (by decide)) (fun _ => rfl))) (ss_cons (s_ret (v_and (v_calls (FnA.call c ((ok_is_integer T).mono (by decide))) (by rfl) T.g_is_integer (l_cons (v_var (i := 0) rfl (by leaf_len) (by decide) (by decide)) l_nil rfl) rfl (by decide)) (v_one (v_cmp (o_ge) (v_var (i := 0) rfl (by leaf_len) (by decide) (by decide)) v_int rfl)))) ss_nil) (ss_nil)) (ss_cons (s_ret (v_and (v_cmp (o_eq c.cK c.rm) (v_callB (c_len c.cK) (by rfl) T.z_len (by decide +kernel) (l_cons (v_var (i := 0) rfl (by leaf_len) (by decide) (by decide)) l_nil rfl) rfl (by decide) (by decide)) v_int rfl) (v_and (v_calls (FnA.call c ((ok_is_integer T).mono (by decide))) (by rfl) T.g_is_integer (l_cons (v_ix c.cK (v_var (i := 0) rfl (by leaf_len) (by decide) (by decide)) v_int rfl) l_nil rfl) rfl (by decide)) (v_and (v_calls (FnA.call c ((ok_is_integer T).mono (by decide))) (by rfl) T.g_is_integer (l_cons (v_ix c.cK (v_var (i := 0) rfl (by leaf_len) (by decide) (by decide)) v_int rfl) l_nil rfl) rfl (by decide)) (v_and (v_cmp (o_ge) (v_ix c.cK (v_var (i := 0) rfl (by leaf_len) (by decide) (by decide)) v_int rfl) v_int rfl) (v_one (v_cmp (o_ge) (v_ix c.cK (v_var (i := 0) rfl (by leaf_len) (by decide) (by decide)) v_int rfl) v_int rfl))))))) ss_nil)⟩
def sem_is_fraction : List D → M D := runFn 1 1 pk_is_fraction.1
theorem ok_is_fraction (T : Facts P w K mg base ad) : FnA P w K mg base (GG b K ad) 4 (ad 17) sem_is_fraction := by
  obtain ⟨fd, F⟩ := T.f_is_fraction
  exact fna_rule F sc_is_fraction (F.binds fun _ _ _ _ _ _ us hl => match us, hl with | [_], _ => rfl) rfl (pk_is_fraction.2 P w K mg base ad b T) rfl rfl (by decide)
def pk_is_number : Σ' ms : MS, ∀ (P : Program) (w : World) (K : PySem.W.Frag) (mg : Str → Option Value) (base : Heap) (ad : Nat → Addr) (b : Bool), Facts P w K mg base ad → Body P w K mg base (GG b K ad) 4 (ad 18) ["value"] "is_number" st_is_number ms :=
  ⟨_, fun P w K mg base ad b T cdv A fr s H E c => ss_cons (s_if (b_val (v_calls (FnA.call c ((ok_is_fraction T).mono (by decide))) (by rfl) T.g_is_fraction (l_cons (v_var (i := 0) rfl (by leaf_len) (by decide) (by decide)) l_nil rfl) rfl (by decide)) (fun _ => rfl)) (ss_cons (s_ret v_bool) ss_nil) (ss_nil)) (ss_cons (s_if (b_of (w_or (b_not (b_val (v_callB (c_isa c.cK (T.isa _ _ rfl)) (by rfl) T.z_isinstance (by decide +kernel) (l_cons (v_var (i := 0) rfl (by leaf_len) (by decide) (by decide)) (l_cons (v_ty (t := .tuple) (by rfl) T.z_tuple (by decide +kernel) (by decide) (by decide)) l_nil rfl) rfl) rfl (by decide) (by decide)) (fun _ => rfl))) (w_or1 (b_cmp (o_ne c.cK c.rm) (v_callB (c_len c.cK) (by rfl) T.z_len (by decide +kernel) (l_cons (v_var (i := 0) rfl (by leaf_len) (by decide) (by decide)) l_nil rfl) rfl (by decide) (by decide)) v_int rfl)))) (ss_cons (s_ret v_bool) ss_nil) (ss_nil)) (ss_cons (s_ret (v_and (v_calls (FnA.call c ((ok_is_integer T).mono (by decide))) (by rfl) T.g_is_integer (l_cons (v_ix c.cK (v_var (i := 0) rfl (by leaf_len) (by decide) (by decide)) v_int rfl) l_nil rfl) rfl (by decide)) (v_and (v_calls (FnA.call c ((ok_is_integer T).mono (by decide))) (by rfl) T.g_is_integer (l_cons (v_ix c.cK (v_var (i := 0) rfl (by leaf_len) (by decide) (by decide)) v_int rfl) l_nil rfl) rfl (by decide)) (v_one (v_cmp (o_eq c.cK c.rm) (v_var (i := 0) rfl (by leaf_len) (by decide) (by decide)) (v_glob (by rfl) (T.c_OPEN _) (by decide)) rfl))))) ss_nil))⟩
def sem_is_number : List D → M D := runFn 1 1 pk_is_number.1
theorem ok_is_number (T : Facts P w K mg base ad) : FnA P w K mg base (GG b K ad) 6 (ad 18) sem_is_number := by
  obtain ⟨fd, F⟩ := T.f_is_number
  exact fna_rule F sc_is_number (F.binds fun _ _ _ _ _ _ us hl => match us, hl with | [_], _ => rfl) rfl (pk_is_number.2 P w K mg base ad b T) rfl rfl (by decide)
def pk_is_resistance : Σ' ms : MS, ∀ (P : Program) (w : World) (K : PySem.W.Frag) (mg : Str → Option Value) (base : Heap) (ad : Nat → Addr) (b : Bool), Facts P w K mg base ad → Body P w K mg base (GG b K ad) 6 (ad 19) ["value"] "is_resistance" st_is_resistance ms :=
  ⟨_, fun P w K mg base ad b T cdv A fr s H E c => ss_cons (s_if (b_not (b_val (v_calls (FnA.call c ((ok_is_number T).mono (by decide))) (by rfl) T.g_is_number (l_cons (v_var (i := 0) rfl (by leaf_len) (by decide) (by decide)) l_nil rfl) rfl (by decide)) (fun _ => rfl))) (ss_cons (s_ret v_bool) ss_nil) (ss_nil)) (ss_cons (s_if (b_val (v_callB (c_isa c.cK (T.isa _ _ rfl)) (by rfl) T.z_isinstance (by decide +kernel) (l_cons (v_var (i := 0) rfl (by leaf_len) (by decide) (by decide)) (l_cons (v_ty (t := .tuple) (by rfl) T.z_tuple (by decide +kernel) (by decide) (by decide)) l_nil rfl) rfl) rfl (by decide) (by decide)) (fun _ => rfl)) (ss_cons (s_ret (v_and (v_cmp (o_le) (v_ix c.cK (v_var (i := 0) rfl (by leaf_len) (by decide) (by decide)) v_int rfl) (v_glob (by rfl) (T.c_GREATEST _) (by decide)) rfl) (v_one (v_cmp (o_le) (v_ix c.cK (v_var (i := 0) rfl (by leaf_len) (by decide) (by decide)) v_int rfl) (v_glob (by rfl) (T.c_GREATEST _) (by decide)) rfl)))) ss_nil) (ss_nil)) (ss_cons (s_ret (v_cmp (o_le) (v_var (i := 0) rfl (by leaf_len) (by decide) (by decide)) (v_glob (by rfl) (T.c_GREATEST _) (by decide)) rfl)) ss_nil))⟩
def sem_is_resistance : List D → M D := runFn 1 1 pk_is_resistance.1
theorem ok_is_resistance (T : Facts P w K mg base ad) : FnA P w K mg base (GG b K ad) 8 (ad 19) sem_is_resistance := by
  obtain ⟨fd, F⟩ := T.f_is_resistance
  exact fna_rule F sc_is_resistance (F.binds fun _ _ _ _ _ _ us hl => match us, hl with | [_], _ => rfl) rfl (pk_is_resistance.2 P w K mg base ad b T) rfl rfl (by decide)
def pk_check_resistance : Σ' ms : MS, ∀ (P : Program) (w : World) (K : PySem.W.Frag) (mg : Str → Option Value) (base : Heap) (ad : Nat → Addr) (b : Bool), Facts P w K mg base ad → Body P w K mg base (GG b K ad) 8 (ad 20) ["value"] "check_resistance" st_check_resistance ms :=
  ⟨_, fun P w K mg base ad b T cdv A fr s H E c => ss_cons (s_if (b_not (b_val (v_calls (FnA.call c ((ok_is_resistance T).mono (by decide))) (by rfl) T.g_is_resistance (l_cons (v_var (i := 0) rfl (by leaf_len) (by decide) (by decide)) l_nil rfl) rfl (by decide)) (fun _ => rfl))) (ss_never) (ss_nil)) (ss_nil)⟩
def sem_check_resistance : List D → M D := runFn 1 1 pk_check_resistance.1
theorem ok_check_resistance (T : Facts P w K mg base ad) : FnA P w K mg base (GG b K ad) 10 (ad 20) sem_check_resistance := by
  obtain ⟨fd, F⟩ := T.f_check_resistance
  exact fna_rule F sc_check_resistance (F.binds fun _ _ _ _ _ _ us hl => match us, hl with | [_], _ => rfl) rfl (pk_check_resistance.2 P w K mg base ad b T) rfl rfl (by decide)
def pk_RunX_initX : Σ' ms : MS, ∀ (P : Program) (w : World) (K : PySem.W.Frag) (mg : Str → Option Value) (base : Heap) (ad : Nat → Addr) (b : Bool), Facts P w K mg base ad → Body P w K mg base (GG b K ad) 0 (ad 21) ["self", "load"] "Run.__init__" st_RunX_initX ms :=
  ⟨_, fun P w K mg base ad b T cdv A fr s H E c => ss_cons (s_setF (i := 0) (T_fld_first T ⟨rfl, rfl, rfl, rfl, rfl⟩) rfl (by leaf_len) (by decide) (by decide) (v_var (i := 1) rfl (by leaf_len) (by decide) (by decide)) rfl) (ss_nil)⟩
def sem_RunX_initX : List D → M D := fun _ => M.stuck
def pk_pair_of : Σ' ms : MS, ∀ (P : Program) (w : World) (K : PySem.W.Frag) (mg : Str → Option Value) (base : Heap) (ad : Nat → Addr) (b : Bool), Facts P w K mg base ad → Body P w K mg base (GG b K ad) 4 (ad 22) ["number"] "pair_of" st_pair_of ms :=
  ⟨_, fun P w K mg base ad b T cdv A fr s H E c => ss_cons (s_ret (v_ite (b_val (v_callB (c_isa c.cK (T.isa _ _ rfl)) (by rfl) T.z_isinstance (by decide +kernel) (l_cons (v_var (i := 0) rfl (by leaf_len) (by decide) (by decide)) (l_cons (v_ty (t := .tuple) (by rfl) T.z_tuple (by decide +kernel) (by decide) (by decide)) l_nil rfl) rfl) rfl (by decide) (by decide)) (fun _ => rfl)) (v_calls (FnA.call c ((ok_lowest T).mono (by decide))) (by rfl) T.g_lowest (l_cons (v_ix c.cK (v_var (i := 0) rfl (by leaf_len) (by decide) (by decide)) v_int rfl) (l_cons (v_ix c.cK (v_var (i := 0) rfl (by leaf_len) (by decide) (by decide)) v_int rfl) l_nil rfl) rfl) rfl (by decide)) (v_tup (l_cons (v_var (i := 0) rfl (by leaf_len) (by decide) (by decide)) (l_cons v_int l_nil rfl) rfl) (by decide)))) ss_nil⟩
def sem_pair_of : List D → M D := runFn 1 1 pk_pair_of.1
theorem ok_pair_of (T : Facts P w K mg base ad) : FnA P w K mg base (GG b K ad) 6 (ad 22) sem_pair_of := by
  obtain ⟨fd, F⟩ := T.f_pair_of
  exact fna_rule F sc_pair_of (F.binds fun _ _ _ _ _ _ us hl => match us, hl with | [_], _ => rfl) rfl (pk_pair_of.2 P w K mg base ad b T) rfl rfl (by decide)
def pk_LadderX_initX : Σ' ms : MS, ∀ (P : Program) (w : World) (K : PySem.W.Frag) (mg : Str → Option Value) (base : Heap) (ad : Nat → Addr) (b : Bool), Facts P w K mg base ad → BodyS P w K mg base (GG b K ad) 10 (ad 23) (ad 2023) (ad 3023) ["self", "pattern", "load", "__class__"] "__init__" "Ladder.__init__" st_LadderX_initX ms :=
  ⟨_, fun P w K mg base ad b T A fr s H E c => sa_cons (sa_st (s_expr (v_calls (FnA.call c ((ok_check_pattern T).mono (by decide))) (by rfl) T.g_check_pattern (l_cons (v_var (i := 1) rfl (by leaf_len) (by decide) (by decide)) l_nil rfl) rfl (by decide)) rfl)) (sa_cons (sa_st (s_expr (v_calls (FnA.call c ((ok_check_resistance T).mono (by decide))) (by rfl) T.g_check_resistance (l_cons (v_var (i := 2) rfl (by leaf_len) (by decide) (by decide)) l_nil rfl) rfl (by decide)) rfl)) (sa_cons (s_super (c0 := 5) c T.u_LadderX_initX rfl (let ⟨_, F⟩ := T.f_RunX_initX; ((fns_rule F sc_RunX_initX (F.binds fun _ _ _ _ _ _ us hl => match us, hl with | [_, _], _ => rfl) rfl (pk_RunX_initX.2 P w K mg base ad b T)).mono (by decide))) rfl rfl (by decide) T.z_super (by decide +kernel) (by decide +kernel) rfl (by decide +kernel) rfl (l_cons (v_calls (FnA.call c ((ok_pair_of T).mono (by decide))) (by rfl) T.g_pair_of (l_cons (v_var (i := 2) rfl (by leaf_len) (by decide) (by decide)) l_nil rfl) rfl (by decide)) l_nil rfl) rfl rfl (swap_free rfl) rfl) (sa_of (ss_cons (s_setF (i := 0) (T_fld_pattern T ⟨rfl, rfl, rfl, rfl, rfl⟩) rfl (by leaf_len) (by decide) (by decide) (v_var (i := 1) rfl (by leaf_len) (by decide) (by decide)) rfl) (ss_nil)))))⟩
def sem_LadderX_initX : List D → M D := mkFn 5 3 4 pk_LadderX_initX.1
theorem mk_Ladder (T : Facts P w K mg base ad) : ClA P w K mg base (GG b K ad) 12 5 sem_LadderX_initX := by
  exact cla_super T.u_LadderX_initX sc_LadderX_initX rfl (pk_LadderX_initX.2 P w K mg base ad b T) (fun _ _ _ _ _ us hl => match us, hl with | [_, _, _], _ => rfl) T.m_Ladder rfl rfl (by decide)
def pk_Ladder_next_of : Σ' ms : MS, ∀ (P : Program) (w : World) (K : PySem.W.Frag) (mg : Str → Option Value) (base : Heap) (ad : Nat → Addr) (b : Bool), Facts P w K mg base ad → Body P w K mg base (GG b K ad) 2 (ad 24) ["self", "pair"] "Ladder.next_of" st_Ladder_next_of ms :=
  ⟨_, fun P w K mg base ad b T cdv A fr s H E c => ss_cons (s_ret (v_calls (FnA.call c ((ok_led T).mono (by decide))) (by rfl) T.g_led (l_cons (v_attr c (T_attr_chain_1 T ⟨rfl, rfl, rfl, rfl, rfl⟩ (by decide)) (v_attr c (T_attr_pattern_5 T ⟨rfl, rfl, rfl, rfl, rfl⟩ (by decide)) (v_var (i := 0) rfl (by leaf_len) (by decide) (by decide)) rfl) rfl) (l_cons (v_var (i := 1) rfl (by leaf_len) (by decide) (by decide)) l_nil rfl) rfl) rfl (by decide))) ss_nil⟩
def sem_Ladder_next_of : List D → M D := runFn 2 2 pk_Ladder_next_of.1
theorem ok_Ladder_next_of (T : Facts P w K mg base ad) : FnA P w K mg base (GG b K ad) 4 (ad 24) sem_Ladder_next_of := by
  obtain ⟨fd, F⟩ := T.f_Ladder_next_of
  exact fna_rule F sc_Ladder_next_of (F.binds fun _ _ _ _ _ _ us hl => match us, hl with | [_, _], _ => rfl) rfl (pk_Ladder_next_of.2 P w K mg base ad b T) rfl rfl (by decide)
theorem T_meth_next_of_5 (T : Facts P w K mg base ad) {X : Cx} (h : Same X P w K mg base) {k : Nat} (hk : 4 ≤ k) : MethT X (GG b K ad) k "next_of" (tab [(5, sem_Ladder_next_of)]) := by
  obtain ⟨rfl, rfl, rfl, rfl, rfl⟩ := h
  exact ⟨(tab_cons ⟨_, T.cl_Ladder, T.t_Ladder_Ladder_next_of, (ok_Ladder_next_of T).mono (Nat.le_trans (by decide) hk), (show ("next_of" : Str) ∉ flds 5 by decide +kernel)⟩ tab_nil)⟩
def pk_Run_opening : Σ' ms : MG, ∀ (P : Program) (w : World) (K : PySem.W.Frag) (mg : Str → Option Value) (base : Heap) (ad : Nat → Addr), Facts P w K mg base ad → GBody P w K mg base (GG false K ad) 6 (ad 25) ["self", "count", "pair", "turn"] "Run.opening" st_Run_opening ms :=
  ⟨_, fun P w K mg base ad T cdv A fr s H E pn c => sg_cons (sg_plain (s_expr (v_calls (FnA.call c ((ok_check_count T).mono (by decide))) (by rfl) T.g_check_count (l_cons (v_var (i := 1) rfl (by leaf_len) (by decide) (by decide)) l_nil rfl) rfl (by decide)) rfl)) (sg_cons (sg_plain (s_set (i := 2) c rfl (by mem_news) (v_attr c (T_attr_first_5 T ⟨rfl, rfl, rfl, rfl, rfl⟩ (by decide)) (v_var (i := 0) rfl (by leaf_len) (by decide) (by decide)) rfl) rfl (.inl rfl))) (sg_cons (sg_for c (i_rng1 (by rfl) T.z_range (l_cons (v_var (i := 1) rfl (by leaf_len) (by decide) (by decide)) l_nil rfl) rfl) (g_name (i := 3) c.nd rfl (by mem_news) (.inl rfl)) (sg_cons (sg_yield (v_calls (FnA.call c ((ok_lowest T).mono (by decide))) (by rfl) T.g_lowest (l_cons (v_ix c.cK (v_var (i := 2) rfl (by leaf_len) (by decide) (by decide)) v_int rfl) (l_cons (v_ix c.cK (v_var (i := 2) rfl (by leaf_len) (by decide) (by decide)) v_int rfl) l_nil rfl) rfl) rfl (by decide)) rfl rfl) (sg_cons (sg_plain (s_set (i := 2) c rfl (by mem_news) (v_meth c (T_meth_next_of_5 T ⟨rfl, rfl, rfl, rfl, rfl⟩ (by decide)) (v_var (i := 0) rfl (by leaf_len) (by decide) (by decide)) (l_cons (v_var (i := 2) rfl (by leaf_len) (by decide) (by decide)) l_nil rfl) rfl rfl (by decide) rfl) rfl (.inl rfl))) (sg_nil))) rfl) (sg_nil)))⟩
def sem_Run_opening : List D → M (List D) := genFn 2 4 pk_Run_opening.1
theorem okn_Run_opening_2_ (T : Facts P w K mg base ad) : GnK P w K mg base (GG true K ad) 8 (ad 25) 2 [] (fun ds => sem_Run_opening (perm [0, 1] ds)) := by
  obtain ⟨fd, F⟩ := T.f_Run_opening
  exact gnk_rule (G := GG true K ad) (ix := [0, 1]) F sc_Run_opening (fun _ _ _ _ _ _ us ws h1 h2 => match us, ws, h1, h2 with | [_, _], [], _, _ => rfl) rfl (pk_Run_opening.2 P w K mg base ad T) rfl rfl (by decide)
theorem okn_Run_opening_1_count (T : Facts P w K mg base ad) : GnK P w K mg base (GG true K ad) 8 (ad 25) 1 ["count"] (fun ds => sem_Run_opening (perm [0, 1] ds)) := by
  obtain ⟨fd, F⟩ := T.f_Run_opening
  exact gnk_rule (G := GG true K ad) (ix := [0, 1]) F sc_Run_opening (fun _ _ _ _ _ _ us ws h1 h2 => match us, ws, h1, h2 with | [_], [_], _, _ => rfl) rfl (pk_Run_opening.2 P w K mg base ad T) rfl rfl (by decide)
theorem T_gmeth_opening_5_1 (T : Facts P w K mg base ad) {X : Cx} (h : Same X P w K mg base) : GMethT X (GG true K ad) 8 "opening" 1 [] (tab [(5, fun ds => sem_Run_opening (perm [0, 1] ds))]) := by
  obtain ⟨rfl, rfl, rfl, rfl, rfl⟩ := h
  exact ⟨(tab_cons ⟨_, T.cl_Ladder, T.t_Ladder_Run_opening, okn_Run_opening_2_ T, (show ("opening" : Str) ∉ flds 5 by decide +kernel)⟩ tab_nil)⟩
theorem T_gmeth_opening_5_count0 (T : Facts P w K mg base ad) {X : Cx} (h : Same X P w K mg base) : GMethT X (GG true K ad) 8 "opening" 0 ["count"] (tab [(5, fun ds => sem_Run_opening (perm [0, 1] ds))]) := by
  obtain ⟨rfl, rfl, rfl, rfl, rfl⟩ := h
  exact ⟨(tab_cons ⟨_, T.cl_Ladder, T.t_Ladder_Run_opening, okn_Run_opening_1_count T, (show ("opening" : Str) ∉ flds 5 by decide +kernel)⟩ tab_nil)⟩
def pk__law_sip : Σ' ms : MS, ∀ (P : Program) (w : World) (K : PySem.W.Frag) (mg : Str → Option Value) (base : Heap) (ad : Nat → Addr) (b : Bool), Facts P w K mg base ad → Body P w K mg base (GG b K ad) 0 (ad 26) ["_law_cup_here", "_law_many", "_law_part"] "_law_sip" st__law_sip ms :=
  ⟨_, fun P w K mg base ad b T cdv A fr s H E c => ss_cons (s_asg (v_bin (o_mod) (v_callTy (c_int) (by rfl) T.z_int (by decide +kernel) (l_cons (v_bin (o_add c.cK) (v_bin (o_mul c.cK) (v_ix c.cK (v_var (i := 0) rfl (by leaf_len) (by decide) (by decide)) v_int rfl) v_int) v_int) l_nil rfl) rfl (by decide) (by decide)) v_int) (g_item (W := WF E) (v_var (i := 0) rfl (by leaf_len) (by decide) (by decide)) v_int rfl) rfl rfl rfl) (ss_cons (s_if (b_cmp (o_gt) (v_ix c.cK (v_var (i := 0) rfl (by leaf_len) (by decide) (by decide)) v_int rfl) v_int rfl) (ss_cons (s_asg (v_callB (c_divmod) (by rfl) T.z_divmod (by decide +kernel) (l_cons (v_ix c.cK (v_var (i := 0) rfl (by leaf_len) (by decide) (by decide)) v_int rfl) (l_cons (v_var (i := 1) rfl (by leaf_len) (by decide) (by decide)) l_nil rfl) rfl) rfl (by decide) (by decide)) (g_tup c.cK c.calm (gs_cons (g_item (W := WF E) (v_var (i := 0) rfl (by leaf_len) (by decide) (by decide)) v_int rfl) (gs_cons (g_name (i := 2) c.nd rfl (by mem_news) (.inl rfl)) gs_nil rfl) rfl) rfl rfl) rfl rfl rfl) (ss_cons (s_ret (v_var (i := 2) rfl (by leaf_len) (by decide) (by decide))) ss_nil)) (ss_nil)) (ss_cons (s_ret (v_bin (o_mod) (v_callTy (c_int) (by rfl) T.z_int (by decide +kernel) (l_cons (v_bin (o_fdiv) (v_ix c.cK (v_var (i := 0) rfl (by leaf_len) (by decide) (by decide)) v_int rfl) v_int) l_nil rfl) rfl (by decide) (by decide)) (v_var (i := 1) rfl (by leaf_len) (by decide) (by decide)))) ss_nil))⟩
def sem__law_sip : List D → M D := runFn 2 3 pk__law_sip.1
theorem ok__law_sip (T : Facts P w K mg base ad) : FnA P w K mg base (GG b K ad) 2 (ad 26) sem__law_sip := by
  obtain ⟨fd, F⟩ := T.f__law_sip
  exact fna_rule F sc__law_sip (F.binds fun _ _ _ _ _ _ us hl => match us, hl with | [_, _], _ => rfl) rfl (pk__law_sip.2 P w K mg base ad b T) rfl rfl (by decide)
def pk__law_pair : Σ' ms : MS, ∀ (P : Program) (w : World) (K : PySem.W.Frag) (mg : Str → Option Value) (base : Heap) (ad : Nat → Addr) (b : Bool), Facts P w K mg base ad → Body P w K mg base (GG b K ad) 0 (ad 27) ["_law_top", "_law_bottom", "_law_one", "_law_two"] "_law_pair" st__law_pair ms :=
  ⟨_, fun P w K mg base ad b T cdv A fr s H E c => ss_cons (s_par (i := 2) (j := 3) c rfl rfl (by decide) rfl rfl (l_cons (v_var (i := 0) rfl (by leaf_len) (by decide) (by decide)) (l_cons (v_var (i := 1) rfl (by leaf_len) (by decide) (by decide)) l_nil rfl) rfl) rfl) (ss_cons (s_while c (b_cmp (o_gt) (v_var (i := 3) rfl (by leaf_len) (by decide) (by decide)) v_int rfl) (ss_cons (s_par (i := 2) (j := 3) c rfl rfl (by decide) rfl rfl (l_cons (v_var (i := 3) rfl (by leaf_len) (by decide) (by decide)) (l_cons (v_bin (o_mod) (v_callTy (c_int) (by rfl) T.z_int (by decide +kernel) (l_cons (v_var (i := 2) rfl (by leaf_len) (by decide) (by decide)) l_nil rfl) rfl (by decide) (by decide)) (v_var (i := 3) rfl (by leaf_len) (by decide) (by decide))) l_nil rfl) rfl) rfl) (ss_nil))) (ss_cons (s_ret (v_tup (l_cons (v_bin (o_fdiv) (v_var (i := 0) rfl (by leaf_len) (by decide) (by decide)) (v_var (i := 2) rfl (by leaf_len) (by decide) (by decide))) (l_cons (v_bin (o_fdiv) (v_var (i := 1) rfl (by leaf_len) (by decide) (by decide)) (v_var (i := 2) rfl (by leaf_len) (by decide) (by decide))) l_nil rfl) rfl) (by decide))) ss_nil))⟩
def sem__law_pair : List D → M D := runFn 2 4 pk__law_pair.1
theorem ok__law_pair (T : Facts P w K mg base ad) : FnA P w K mg base (GG b K ad) 2 (ad 27) sem__law_pair := by
  obtain ⟨fd, F⟩ := T.f__law_pair
  exact fna_rule F sc__law_pair (F.binds fun _ _ _ _ _ _ us hl => match us, hl with | [_, _], _ => rfl) rfl (pk__law_pair.2 P w K mg base ad b T) rfl rfl (by decide)
def pk__law_end : Σ' ms : MS, ∀ (P : Program) (w : World) (K : PySem.W.Frag) (mg : Str → Option Value) (base : Heap) (ad : Nat → Addr) (b : Bool), Facts P w K mg base ad → Body P w K mg base (GG b K ad) 2 (ad 28) ["_law_cup_here", "_law_way", "_law_small"] "_law_end" st__law_end ms :=
  ⟨_, fun P w K mg base ad b T cdv A fr s H E c => ss_cons (s_par (i := 1) (j := 2) c rfl rfl (by decide) rfl rfl (l_cons (v_calls (FnA.call c ((ok__law_sip T).mono (by decide))) (by rfl) T.g__law_sip (l_cons (v_var (i := 0) rfl (by leaf_len) (by decide) (by decide)) (l_cons v_int l_nil rfl) rfl) rfl (by decide)) (l_cons (v_bin (o_add c.cK) v_int (v_calls (FnA.call c ((ok__law_sip T).mono (by decide))) (by rfl) T.g__law_sip (l_cons (v_var (i := 0) rfl (by leaf_len) (by decide) (by decide)) (l_cons v_int l_nil rfl) rfl) rfl (by decide))) l_nil rfl) rfl) rfl) (ss_cons (s_if (b_cmp (o_lt) (v_var (i := 1) rfl (by leaf_len) (by decide) (by decide)) v_int rfl) (ss_cons (s_ret (v_ix c.cK (v_lst (l_cons (v_tup (l_cons v_int (l_cons v_int l_nil rfl) rfl) (by decide)) (l_cons (v_tup (l_cons v_int (l_cons v_int l_nil rfl) rfl) (by decide)) l_nil rfl) rfl) (by decide)) (v_var (i := 1) rfl (by leaf_len) (by decide) (by decide)) rfl)) ss_nil) (ss_nil)) (ss_cons (s_if (b_cmp (o_lt) (v_var (i := 1) rfl (by leaf_len) (by decide) (by decide)) v_int rfl) (ss_cons (s_ret (v_calls (FnA.call c ((ok__law_pair T).mono (by decide))) (by rfl) T.g__law_pair (l_cons (v_calls (FnA.call c ((ok__law_sip T).mono (by decide))) (by rfl) T.g__law_sip (l_cons (v_var (i := 0) rfl (by leaf_len) (by decide) (by decide)) (l_cons v_int l_nil rfl) rfl) rfl (by decide)) (l_cons (v_var (i := 2) rfl (by leaf_len) (by decide) (by decide)) l_nil rfl) rfl) rfl (by decide))) ss_nil) (ss_nil)) (ss_cons (s_ret (v_ix c.cK (v_lst (l_cons (v_calls (FnA.call c ((ok__law_pair T).mono (by decide))) (by rfl) T.g__law_pair (l_cons (v_var (i := 2) rfl (by leaf_len) (by decide) (by decide)) (l_cons (v_bin (o_add c.cK) v_int (v_calls (FnA.call c ((ok__law_sip T).mono (by decide))) (by rfl) T.g__law_sip (l_cons (v_var (i := 0) rfl (by leaf_len) (by decide) (by decide)) (l_cons v_int l_nil rfl) rfl) rfl (by decide))) l_nil rfl) rfl) rfl (by decide)) (l_cons (v_calls (FnA.call c ((ok__law_pair T).mono (by decide))) (by rfl) T.g__law_pair (l_cons (v_bin (o_sub) (v_bin (o_pow) v_int v_int) (v_var (i := 2) rfl (by leaf_len) (by decide) (by decide))) (l_cons (v_var (i := 2) rfl (by leaf_len) (by decide) (by decide)) l_nil rfl) rfl) rfl (by decide)) (l_cons (v_tup (l_cons v_int (l_cons (v_bin (o_add c.cK) (v_bin (o_pow) v_int v_int) (v_var (i := 2) rfl (by leaf_len) (by decide) (by decide))) l_nil rfl) rfl) (by decide)) l_nil rfl) rfl) rfl) (by decide)) (v_bin (o_sub) (v_var (i := 1) rfl (by leaf_len) (by decide) (by decide)) v_int) rfl)) ss_nil)))⟩
def sem__law_end : List D → M D := runFn 1 3 pk__law_end.1
theorem ok__law_end (T : Facts P w K mg base ad) : FnA P w K mg base (GG b K ad) 4 (ad 28) sem__law_end := by
  obtain ⟨fd, F⟩ := T.f__law_end
  exact fna_rule F sc__law_end (F.binds fun _ _ _ _ _ _ us hl => match us, hl with | [_], _ => rfl) rfl (pk__law_end.2 P w K mg base ad b T) rfl rfl (by decide)
def pk__law_pick : Σ' ms : MS, ∀ (P : Program) (w : World) (K : PySem.W.Frag) (mg : Str → Option Value) (base : Heap) (ad : Nat → Addr) (b : Bool), Facts P w K mg base ad → Body P w K mg base (GG b K ad) 2 (ad 29) ["_law_cup_here", "_law_things"] "_law_pick" st__law_pick ms :=
  ⟨_, fun P w K mg base ad b T cdv A fr s H E c => ss_cons (s_ret (v_ix c.cK (v_var (i := 1) rfl (by leaf_len) (by decide) (by decide)) (v_calls (FnA.call c ((ok__law_sip T).mono (by decide))) (by rfl) T.g__law_sip (l_cons (v_var (i := 0) rfl (by leaf_len) (by decide) (by decide)) (l_cons (v_callB (c_len c.cK) (by rfl) T.z_len (by decide +kernel) (l_cons (v_var (i := 1) rfl (by leaf_len) (by decide) (by decide)) l_nil rfl) rfl (by decide) (by decide)) l_nil rfl) rfl) rfl (by decide)) rfl)) ss_nil⟩
def sem__law_pick : List D → M D := runFn 2 2 pk__law_pick.1
theorem ok__law_pick (T : Facts P w K mg base ad) : FnA P w K mg base (GG b K ad) 4 (ad 29) sem__law_pick := by
  obtain ⟨fd, F⟩ := T.f__law_pick
  exact fna_rule F sc__law_pick (F.binds fun _ _ _ _ _ _ us hl => match us, hl with | [_, _], _ => rfl) rfl (pk__law_pick.2 P w K mg base ad b T) rfl rfl (by decide)
def pk__law_row : Σ' ms : MS, ∀ (P : Program) (w : World) (K : PySem.W.Frag) (mg : Str → Option Value) (base : Heap) (ad : Nat → Addr) (b : Bool), Facts P w K mg base ad → Body P w K mg base (GG b K ad) 4 (ad 30) ["_law_cup_here", "_law_most", "_law_found", "_law_turn"] "_law_row" st__law_row ms :=
  ⟨_, fun P w K mg base ad b T cdv A fr s H E c => ss_cons (s_own (i := 2) c rfl (Or.inl rfl) (o_lst l_nil (by decide)) rfl (.inl rfl) (by decide)) (ss_cons (s_for c (i_rng1 (by rfl) T.z_range (l_cons (v_bin (o_add c.cK) v_int (v_calls (FnA.call c ((ok__law_sip T).mono (by decide))) (by rfl) T.g__law_sip (l_cons (v_var (i := 0) rfl (by leaf_len) (by decide) (by decide)) (l_cons (v_var (i := 1) rfl (by leaf_len) (by decide) (by decide)) l_nil rfl) rfl) rfl (by decide))) l_nil rfl) rfl) (g_name (i := 3) c.nd rfl (by mem_news) (.inl rfl)) (ss_cons (s_app (i := 2) rfl (by leaf_len) (by decide) (by decide) (v_tup (l_cons (v_calls (FnA.call c ((ok__law_pick T).mono (by decide))) (by rfl) T.g__law_pick (l_cons (v_var (i := 0) rfl (by leaf_len) (by decide) (by decide)) (l_cons (v_lst (l_cons v_str (l_cons v_str l_nil rfl) rfl) (by decide)) l_nil rfl) rfl) rfl (by decide)) (l_cons (v_bin (o_add c.cK) v_int (v_calls (FnA.call c ((ok__law_sip T).mono (by decide))) (by rfl) T.g__law_sip (l_cons (v_var (i := 0) rfl (by leaf_len) (by decide) (by decide)) (l_cons v_int l_nil rfl) rfl) rfl (by decide))) l_nil rfl) rfl) (by decide)) rfl rfl) (ss_nil)) rfl) (ss_frz (i := 2) (ss_cons (s_ret (v_var (i := 2) rfl (by leaf_len) (by decide) (by decide))) ss_nil)))⟩
def sem__law_row : List D → M D := runFn 2 4 pk__law_row.1
theorem ok__law_row (T : Facts P w K mg base ad) : FnA P w K mg base (GG b K ad) 6 (ad 30) sem__law_row := by
  obtain ⟨fd, F⟩ := T.f__law_row
  exact fna_rule F sc__law_row (F.binds fun _ _ _ _ _ _ us hl => match us, hl with | [_, _], _ => rfl) rfl (pk__law_row.2 P w K mg base ad b T) rfl rfl (by decide)
def pk_integer_in : Σ' ms : MS, ∀ (P : Program) (w : World) (K : PySem.W.Frag) (mg : Str → Option Value) (base : Heap) (ad : Nat → Addr) (b : Bool), Facts P w K mg base ad → Body P w K mg base (GG b K ad) 0 (ad 31) ["word", "digit"] "integer_in" st_integer_in ms :=
  ⟨_, fun P w K mg base ad b T cdv A fr s H E c => ss_cons (s_if (b_of (w_or (b_not (b_chain (o_le) (o_le) v_int (v_callB (c_len c.cK) (by rfl) T.z_len (by decide +kernel) (l_cons (v_var (i := 0) rfl (by leaf_len) (by decide) (by decide)) l_nil rfl) rfl (by decide) (by decide)) (v_glob (by rfl) (T.c_MOST_DIGITS _) (by decide)) rfl)) (w_or1 (b_val (v_callB (c_any c.calm) (by rfl) T.z_any (by decide +kernel) (l_cons (v_lc c (own := [("digit", 1)]) (i_str (v_var (i := 0) rfl (by leaf_len) (by decide) (by decide))) (blkOk_by (N := ["word", "digit"]) (sc := defScope st_integer_in) (by decide +kernel)) (fun s H C cl fp => blkP c fun c => (p_name (i := 1) c.nd rfl (by mem_news) (.inr rfl))) (fun s H C cl fp => blkT c fun c => t_nil) (fun s H C cl fp => blkV c fun c => (v_cmp (o_notin c.cK c.rm) (v_var (i := 1) rfl (by leaf_len) (by decide) (by decide)) (v_glob (by rfl) (T.c_DIGITS _) (by decide)) rfl)) rfl (by decide)) l_nil rfl) rfl (by decide) (by decide)) (fun _ => rfl))))) (ss_cons (s_ret v_none) ss_nil) (ss_nil)) (ss_cons (s_ret (v_ite (b_of (w_and (b_cmp (o_eq c.cK c.rm) (v_ix c.cK (v_var (i := 0) rfl (by leaf_len) (by decide) (by decide)) v_int rfl) v_str rfl) (w_and1 (b_cmp (o_ne c.cK c.rm) (v_var (i := 0) rfl (by leaf_len) (by decide) (by decide)) v_str rfl)))) v_none (v_callTy (c_int) (by rfl) T.z_int (by decide +kernel) (l_cons (v_var (i := 0) rfl (by leaf_len) (by decide) (by decide)) l_nil rfl) rfl (by decide) (by decide)))) ss_nil)⟩
def sem_integer_in : List D → M D := runFn 1 2 pk_integer_in.1
theorem ok_integer_in (T : Facts P w K mg base ad) : FnA P w K mg base (GG b K ad) 2 (ad 31) sem_integer_in := by
  obtain ⟨fd, F⟩ := T.f_integer_in
  exact fna_rule F sc_integer_in (F.binds fun _ _ _ _ _ _ us hl => match us, hl with | [_], _ => rfl) rfl (pk_integer_in.2 P w K mg base ad b T) rfl rfl (by decide)
def pk_piece_in : Σ' ms : MS, ∀ (P : Program) (w : World) (K : PySem.W.Frag) (mg : Str → Option Value) (base : Heap) (ad : Nat → Addr) (b : Bool), Facts P w K mg base ad → Body P w K mg base (GG b K ad) 4 (ad 32) ["text", "words", "ohms"] "piece_in" st_piece_in ms :=
  ⟨_, fun P w K mg base ad b T cdv A fr s H E c => ss_cons (s_set (i := 1) c rfl (by mem_news) (v_split (v_var (i := 0) rfl (by leaf_len) (by decide) (by decide)) v_str rfl rfl rfl) rfl (.inl rfl)) (ss_cons (s_if (b_of (w_or (b_cmp (o_ne c.cK c.rm) (v_callB (c_len c.cK) (by rfl) T.z_len (by decide +kernel) (l_cons (v_var (i := 1) rfl (by leaf_len) (by decide) (by decide)) l_nil rfl) rfl (by decide) (by decide)) v_int rfl) (w_or1 (b_cmp (o_notin c.cK c.rm) (v_ix c.cK (v_var (i := 1) rfl (by leaf_len) (by decide) (by decide)) v_int rfl) (v_glob (by rfl) (T.c_WORDS _) (by decide)) rfl)))) (ss_cons (s_ret v_none) ss_nil) (ss_nil)) (ss_cons (s_set (i := 2) c rfl (by mem_news) (v_calls (FnA.call c ((ok_integer_in T).mono (by decide))) (by rfl) T.g_integer_in (l_cons (v_ix c.cK (v_var (i := 1) rfl (by leaf_len) (by decide) (by decide)) v_int rfl) l_nil rfl) rfl (by decide)) rfl (.inl rfl)) (ss_cons (s_ret (v_ite (b_val (v_calls (FnA.call c ((ok_is_between T).mono (by decide))) (by rfl) T.g_is_between (l_cons (v_var (i := 2) rfl (by leaf_len) (by decide) (by decide)) (l_cons v_int (l_cons (v_glob (by rfl) (T.c_MOST_OHMS _) (by decide)) l_nil rfl) rfl) rfl) rfl (by decide)) (fun _ => rfl)) (v_tup (l_cons (v_ix c.cK (v_var (i := 1) rfl (by leaf_len) (by decide) (by decide)) v_int rfl) (l_cons (v_var (i := 2) rfl (by leaf_len) (by decide) (by decide)) l_nil rfl) rfl) (by decide)) v_none)) ss_nil)))⟩
def sem_piece_in : List D → M D := runFn 1 3 pk_piece_in.1
theorem ok_piece_in (T : Facts P w K mg base ad) : FnA P w K mg base (GG b K ad) 6 (ad 32) sem_piece_in := by
  obtain ⟨fd, F⟩ := T.f_piece_in
  exact fna_rule F sc_piece_in (F.binds fun _ _ _ _ _ _ us hl => match us, hl with | [_], _ => rfl) rfl (pk_piece_in.2 P w K mg base ad b T) rfl rfl (by decide)
def pk_RowX_initX : Σ' ms : MS, ∀ (P : Program) (w : World) (K : PySem.W.Frag) (mg : Str → Option Value) (base : Heap) (ad : Nat → Addr) (b : Bool), Facts P w K mg base ad → Body P w K mg base (GG b K ad) 0 (ad 33) ["self", "told"] "Row.__init__" st_RowX_initX ms :=
  ⟨_, fun P w K mg base ad b T cdv A fr s H E c => ss_cons (s_setF (i := 0) (T_fld_told T ⟨rfl, rfl, rfl, rfl, rfl⟩) rfl (by leaf_len) (by decide) (by decide) (v_var (i := 1) rfl (by leaf_len) (by decide) (by decide)) rfl) (ss_nil)⟩
def sem_RowX_initX : List D → M D := mkFn 0 2 2 pk_RowX_initX.1
theorem mk_Row (T : Facts P w K mg base ad) : ClA P w K mg base (GG b K ad) 2 0 sem_RowX_initX := by
  obtain ⟨fd, F⟩ := T.f_RowX_initX
  exact cla_rule F sc_RowX_initX (F.binds fun _ _ _ _ _ _ us hl => match us, hl with | [_, _], _ => rfl) rfl (pk_RowX_initX.2 P w K mg base ad b T) T.m_Row rfl rfl (by decide)
def pk_pattern_in : Σ' ms : MS, ∀ (P : Program) (w : World) (K : PySem.W.Frag) (mg : Str → Option Value) (base : Heap) (ad : Nat → Addr) (b : Bool), Facts P w K mg base ad → Body P w K mg base (GG b K ad) 10 (ad 34) ["text", "pieces", "part"] "pattern_in" st_pattern_in ms :=
  ⟨_, fun P w K mg base ad b T cdv A fr s H E c => ss_cons (s_lc (i := 1) c rfl rfl rfl (own := [("part", 2)]) (i_seq c (v_split (v_var (i := 0) rfl (by leaf_len) (by decide) (by decide)) v_str rfl rfl rfl)) (blkOk_by (N := ["text", "pieces", "part"]) (sc := defScope st_pattern_in) (by decide +kernel)) (fun s H C cl fp => blkP c fun c => (p_name (i := 2) c.nd rfl (by mem_news) (.inr rfl))) (fun s H C cl fp => blkT c fun c => t_nil) (fun s H C cl fp => blkV c fun c => (v_calls (FnA.call c ((ok_piece_in T).mono (by decide))) (by rfl) T.g_piece_in (l_cons (v_var (i := 2) rfl (by leaf_len) (by decide) (by decide)) l_nil rfl) rfl (by decide))) rfl (by decide)) (ss_cons (s_if (b_of (w_or (b_cmp (o_in c.cK c.rm) v_none (v_var (i := 1) rfl (by leaf_len) (by decide) (by decide)) rfl) (w_or1 (b_cmp (o_gt) (v_callB (c_len c.cK) (by rfl) T.z_len (by decide +kernel) (l_cons (v_var (i := 1) rfl (by leaf_len) (by decide) (by decide)) l_nil rfl) rfl (by decide) (by decide)) (v_glob (by rfl) (T.c_MOST_JOINED _) (by decide)) rfl)))) (ss_cons (s_ret v_none) ss_nil) (ss_nil)) (ss_cons (s_ret (v_calls (ClA.call c ((mk_Pattern T).mono (by decide))) (by rfl) T.k_Pattern (l_cons (v_calls (ClA.call c ((mk_Row T).mono (by decide))) (by rfl) T.k_Row (l_cons (v_callTy (c_tuple c.cK) (by rfl) T.z_tuple (by decide +kernel) (l_cons (v_var (i := 1) rfl (by leaf_len) (by decide) (by decide)) l_nil rfl) rfl (by decide) (by decide)) l_nil rfl) rfl (by decide)) l_nil rfl) rfl (by decide))) ss_nil))⟩
def sem_pattern_in : List D → M D := runFn 1 3 pk_pattern_in.1
theorem ok_pattern_in (T : Facts P w K mg base ad) : FnA P w K mg base (GG b K ad) 12 (ad 34) sem_pattern_in := by
  obtain ⟨fd, F⟩ := T.f_pattern_in
  exact fna_rule F sc_pattern_in (F.binds fun _ _ _ _ _ _ us hl => match us, hl with | [_], _ => rfl) rfl (pk_pattern_in.2 P w K mg base ad b T) rfl rfl (by decide)
def pk_Pattern_read : Σ' ms : MS, ∀ (P : Program) (w : World) (K : PySem.W.Frag) (mg : Str → Option Value) (base : Heap) (ad : Nat → Addr) (b : Bool), Facts P w K mg base ad → Body P w K mg base (GG b K ad) 12 (ad 35) ["text", "found"] "Pattern.read" st_Pattern_read ms :=
  ⟨_, fun P w K mg base ad b T cdv A fr s H E c => ss_cons (s_set (i := 1) c rfl (by mem_news) (v_ite (b_val (v_callB (c_isa c.cK (T.isa _ _ rfl)) (by rfl) T.z_isinstance (by decide +kernel) (l_cons (v_var (i := 0) rfl (by leaf_len) (by decide) (by decide)) (l_cons (v_ty (t := .str) (by rfl) T.z_str (by decide +kernel) (by decide) (by decide)) l_nil rfl) rfl) rfl (by decide) (by decide)) (fun _ => rfl)) (v_calls (FnA.call c ((ok_pattern_in T).mono (by decide))) (by rfl) T.g_pattern_in (l_cons (v_var (i := 0) rfl (by leaf_len) (by decide) (by decide)) l_nil rfl) rfl (by decide)) v_none) rfl (.inl rfl)) (ss_cons (s_if (b_cmp (o_is) (v_var (i := 1) rfl (by leaf_len) (by decide) (by decide)) v_none rfl) (ss_never) (ss_nil)) (ss_cons (s_ret (v_var (i := 1) rfl (by leaf_len) (by decide) (by decide))) ss_nil))⟩
def sem_Pattern_read : List D → M D := runFn 1 2 pk_Pattern_read.1
theorem ok_Pattern_read (T : Facts P w K mg base ad) : FnA P w K mg base (GG b K ad) 14 (ad 35) sem_Pattern_read := by
  obtain ⟨fd, F⟩ := T.f_Pattern_read
  exact fna_rule F sc_Pattern_read (F.binds fun _ _ _ _ _ _ us hl => match us, hl with | [_], _ => rfl) rfl (pk_Pattern_read.2 P w K mg base ad b T) rfl rfl (by decide)
def pk__law_words : Σ' ms : MS, ∀ (P : Program) (w : World) (K : PySem.W.Frag) (mg : Str → Option Value) (base : Heap) (ad : Nat → Addr) (b : Bool), Facts P w K mg base ad → Body P w K mg base (GG b K ad) 0 (ad 36) ["_law_row_here", "_law_word", "_law_ohms"] "_law_words" st__law_words ms :=
  ⟨_, fun P w K mg base ad b T cdv A fr s H E c => ss_cons (s_ret (v_join c.cK v_str (v_lc c (own := [("_law_word", 1), ("_law_ohms", 2)]) (i_seq c (v_var (i := 0) rfl (by leaf_len) (by decide) (by decide))) (blkOk_by (N := ["_law_row_here", "_law_word", "_law_ohms"]) (sc := defScope st__law_words) (by decide +kernel)) (fun s H C cl fp => blkP c fun c => (p_tup c.cK c.calm (ps_consP (p_name (i := 1) c.nd rfl (by mem_news) (.inr rfl)) (ps_consP (p_name (i := 2) c.nd rfl (by mem_news) (.inr rfl)) ps_nilP rfl) rfl) rfl rfl)) (fun s H C cl fp => blkT c fun c => t_nil) (fun s H C cl fp => blkV c fun c => (v_bin (o_add c.cK) (v_bin (o_add c.cK) (v_var (i := 1) rfl (by leaf_len) (by decide) (by decide)) v_str) (v_callTy (c_str) (by rfl) T.z_str (by decide +kernel) (l_cons (v_var (i := 2) rfl (by leaf_len) (by decide) (by decide)) l_nil rfl) rfl (by decide) (by decide)))) rfl (by decide)) rfl rfl rfl)) ss_nil⟩
def sem__law_words : List D → M D := runFn 1 3 pk__law_words.1
theorem ok__law_words (T : Facts P w K mg base ad) : FnA P w K mg base (GG b K ad) 2 (ad 36) sem__law_words := by
  obtain ⟨fd, F⟩ := T.f__law_words
  exact fna_rule F sc__law_words (F.binds fun _ _ _ _ _ _ us hl => match us, hl with | [_], _ => rfl) rfl (pk__law_words.2 P w K mg base ad b T) rfl rfl (by decide)
def pk__law_read : Σ' ms : MS, ∀ (P : Program) (w : World) (K : PySem.W.Frag) (mg : Str → Option Value) (base : Heap) (ad : Nat → Addr) (b : Bool), Facts P w K mg base ad → Body P w K mg base (GG b K ad) 14 (ad 37) ["_law_row_here"] "_law_read" st__law_read ms :=
  ⟨_, fun P w K mg base ad b T cdv A fr s H E c => ss_cons (s_ret (v_stat ⟨T.s_Pattern_read⟩ (FnA.call c ((ok_Pattern_read T).mono (by decide))) (by rfl) T.k_Pattern (l_cons (v_calls (FnA.call c ((ok__law_words T).mono (by decide))) (by rfl) T.g__law_words (l_cons (v_var (i := 0) rfl (by leaf_len) (by decide) (by decide)) l_nil rfl) rfl (by decide)) l_nil rfl) rfl (by decide) (by decide) rfl)) ss_nil⟩
def sem__law_read : List D → M D := runFn 1 1 pk__law_read.1
theorem ok__law_read (T : Facts P w K mg base ad) : FnA P w K mg base (GG b K ad) 16 (ad 37) sem__law_read := by
  obtain ⟨fd, F⟩ := T.f__law_read
  exact fna_rule F sc__law_read (F.binds fun _ _ _ _ _ _ us hl => match us, hl with | [_], _ => rfl) rfl (pk__law_read.2 P w K mg base ad b T) rfl rfl (by decide)
def pk__law_told : Σ' ms : MS, ∀ (P : Program) (w : World) (K : PySem.W.Frag) (mg : Str → Option Value) (base : Heap) (ad : Nat → Addr) (b : Bool), Facts P w K mg base ad → Body P w K mg base (GG b K ad) 2 (ad 38) ["_law_cup_here", "_law_pair_here", "_law_by"] "_law_told" st__law_told ms :=
  ⟨_, fun P w K mg base ad b T cdv A fr s H E c => ss_cons (s_if (b_cmp (o_eq c.cK c.rm) (v_ix c.cK (v_var (i := 1) rfl (by leaf_len) (by decide) (by decide)) v_int rfl) v_int rfl) (ss_cons (s_ret (v_var (i := 1) rfl (by leaf_len) (by decide) (by decide))) ss_nil) (ss_nil)) (ss_cons (s_if (b_of (w_and (b_cmp (o_eq c.cK c.rm) (v_ix c.cK (v_var (i := 1) rfl (by leaf_len) (by decide) (by decide)) v_int rfl) v_int rfl) (w_and1 (b_cmp (o_eq c.cK c.rm) (v_calls (FnA.call c ((ok__law_sip T).mono (by decide))) (by rfl) T.g__law_sip (l_cons (v_var (i := 0) rfl (by leaf_len) (by decide) (by decide)) (l_cons v_int l_nil rfl) rfl) rfl (by decide)) v_int rfl)))) (ss_cons (s_ret (v_ix c.cK (v_var (i := 1) rfl (by leaf_len) (by decide) (by decide)) v_int rfl)) ss_nil) (ss_nil)) (ss_cons (s_set (i := 2) c rfl (by mem_news) (v_bin (o_add c.cK) v_int (v_calls (FnA.call c ((ok__law_sip T).mono (by decide))) (by rfl) T.g__law_sip (l_cons (v_var (i := 0) rfl (by leaf_len) (by decide) (by decide)) (l_cons v_int l_nil rfl) rfl) rfl (by decide))) rfl (.inl rfl)) (ss_cons (s_ret (v_ite (b_of (w_or (b_cmp (o_gt) (v_ix c.cK (v_var (i := 1) rfl (by leaf_len) (by decide) (by decide)) v_int rfl) (v_bin (o_pow) v_int v_int) rfl) (w_or1 (b_cmp (o_gt) (v_ix c.cK (v_var (i := 1) rfl (by leaf_len) (by decide) (by decide)) v_int rfl) (v_bin (o_pow) v_int v_int) rfl)))) (v_var (i := 1) rfl (by leaf_len) (by decide) (by decide)) (v_tup (l_cons (v_bin (o_mul c.cK) (v_var (i := 2) rfl (by leaf_len) (by decide) (by decide)) (v_ix c.cK (v_var (i := 1) rfl (by leaf_len) (by decide) (by decide)) v_int rfl)) (l_cons (v_bin (o_mul c.cK) (v_var (i := 2) rfl (by leaf_len) (by decide) (by decide)) (v_ix c.cK (v_var (i := 1) rfl (by leaf_len) (by decide) (by decide)) v_int rfl)) l_nil rfl) rfl) (by decide)))) ss_nil)))⟩
def sem__law_told : List D → M D := runFn 2 3 pk__law_told.1
theorem ok__law_told (T : Facts P w K mg base ad) : FnA P w K mg base (GG b K ad) 4 (ad 38) sem__law_told := by
  obtain ⟨fd, F⟩ := T.f__law_told
  exact fna_rule F sc__law_told (F.binds fun _ _ _ _ _ _ us hl => match us, hl with | [_, _], _ => rfl) rfl (pk__law_told.2 P w K mg base ad b T) rfl rfl (by decide)
def pk__law_front : Σ' ms : MS, ∀ (P : Program) (w : World) (K : PySem.W.Frag) (mg : Str → Option Value) (base : Heap) (ad : Nat → Addr) (b : Bool), Facts P w K mg base ad → Body P w K mg base (GG b K ad) 2 (ad 39) ["_law_row_here", "_law_pair_here", "_law_top", "_law_bottom", "_law_word", "_law_ohms"] "_law_front" st__law_front ms :=
  ⟨_, fun P w K mg base ad b T cdv A fr s H E c => ss_cons (s_asg (v_var (i := 1) rfl (by leaf_len) (by decide) (by decide)) (g_tup c.cK c.calm (gs_cons (g_name (i := 2) c.nd rfl (by mem_news) (.inl rfl)) (gs_cons (g_name (i := 3) c.nd rfl (by mem_news) (.inl rfl)) gs_nil rfl) rfl) rfl rfl) rfl rfl rfl) (ss_cons (s_for c (i_seq c (v_rev c.cK (v_var (i := 0) rfl (by leaf_len) (by decide) (by decide)))) (g_tup c.cK c.calm (gs_cons (g_name (i := 4) c.nd rfl (by mem_news) (.inl rfl)) (gs_cons (g_name (i := 5) c.nd rfl (by mem_news) (.inl rfl)) gs_nil rfl) rfl) rfl rfl) (ss_cons (s_if (b_cmp (o_eq c.cK c.rm) (v_var (i := 4) rfl (by leaf_len) (by decide) (by decide)) v_str rfl) (ss_cons (s_set (i := 2) c rfl (by mem_news) (v_bin (o_add c.cK) (v_var (i := 2) rfl (by leaf_len) (by decide) (by decide)) (v_bin (o_mul c.cK) (v_var (i := 5) rfl (by leaf_len) (by decide) (by decide)) (v_var (i := 3) rfl (by leaf_len) (by decide) (by decide)))) rfl (.inl rfl)) (ss_nil)) (ss_cons (s_if (b_cmp (o_eq c.cK c.rm) (v_var (i := 3) rfl (by leaf_len) (by decide) (by decide)) v_int rfl) (ss_cons (s_par (i := 2) (j := 3) c rfl rfl (by decide) rfl rfl (l_cons (v_var (i := 5) rfl (by leaf_len) (by decide) (by decide)) (l_cons v_int l_nil rfl) rfl) rfl) (ss_nil)) (ss_cons (s_par (i := 2) (j := 3) c rfl rfl (by decide) rfl rfl (l_cons (v_bin (o_mul c.cK) (v_var (i := 5) rfl (by leaf_len) (by decide) (by decide)) (v_var (i := 2) rfl (by leaf_len) (by decide) (by decide))) (l_cons (v_bin (o_add c.cK) (v_bin (o_mul c.cK) (v_var (i := 5) rfl (by leaf_len) (by decide) (by decide)) (v_var (i := 3) rfl (by leaf_len) (by decide) (by decide))) (v_var (i := 2) rfl (by leaf_len) (by decide) (by decide))) l_nil rfl) rfl) rfl) (ss_nil))) (ss_nil))) (ss_nil)) rfl) (ss_cons (s_ret (v_calls (FnA.call c ((ok__law_pair T).mono (by decide))) (by rfl) T.g__law_pair (l_cons (v_var (i := 2) rfl (by leaf_len) (by decide) (by decide)) (l_cons (v_var (i := 3) rfl (by leaf_len) (by decide) (by decide)) l_nil rfl) rfl) rfl (by decide))) ss_nil))⟩
def sem__law_front : List D → M D := runFn 2 6 pk__law_front.1
theorem ok__law_front (T : Facts P w K mg base ad) : FnA P w K mg base (GG b K ad) 4 (ad 39) sem__law_front := by
  obtain ⟨fd, F⟩ := T.f__law_front
  exact fna_rule F sc__law_front (F.binds fun _ _ _ _ _ _ us hl => match us, hl with | [_, _], _ => rfl) rfl (pk__law_front.2 P w K mg base ad b T) rfl rfl (by decide)
def pk__law_walk : Σ' ms : MS, ∀ (P : Program) (w : World) (K : PySem.W.Frag) (mg : Str → Option Value) (base : Heap) (ad : Nat → Addr) (b : Bool), Facts P w K mg base ad → Body P w K mg base (GG b K ad) 4 (ad 40) ["_law_row_here", "_law_pair_here", "_law_many", "_law_found", "_law_turn"] "_law_walk" st__law_walk ms :=
  ⟨_, fun P w K mg base ad b T cdv A fr s H E c => ss_cons (s_own (i := 3) c rfl (Or.inl rfl) (o_lst (l_cons (v_var (i := 1) rfl (by leaf_len) (by decide) (by decide)) l_nil rfl) (by decide)) rfl (.inl rfl) (by decide)) (ss_cons (s_for c (i_rng1 (by rfl) T.z_range (l_cons (v_var (i := 2) rfl (by leaf_len) (by decide) (by decide)) l_nil rfl) rfl) (g_name (i := 4) c.nd rfl (by mem_news) (.inl rfl)) (ss_cons (s_app (i := 3) rfl (by leaf_len) (by decide) (by decide) (v_calls (FnA.call c ((ok__law_front T).mono (by decide))) (by rfl) T.g__law_front (l_cons (v_var (i := 0) rfl (by leaf_len) (by decide) (by decide)) (l_cons (v_ownIx (i := 3) rfl (by leaf_len) (by decide) (by decide) (v_neg v_int) rfl) l_nil rfl) rfl) rfl (by decide)) rfl rfl) (ss_nil)) rfl) (ss_frz (i := 3) (ss_cons (s_ret (v_var (i := 3) rfl (by leaf_len) (by decide) (by decide))) ss_nil)))⟩
def sem__law_walk : List D → M D := runFn 3 5 pk__law_walk.1
theorem ok__law_walk (T : Facts P w K mg base ad) : FnA P w K mg base (GG b K ad) 6 (ad 40) sem__law_walk := by
  obtain ⟨fd, F⟩ := T.f__law_walk
  exact fna_rule F sc__law_walk (F.binds fun _ _ _ _ _ _ us hl => match us, hl with | [_, _, _], _ => rfl) rfl (pk__law_walk.2 P w K mg base ad b T) rfl rfl (by decide)
def pk_sign_of : Σ' ms : MS, ∀ (P : Program) (w : World) (K : PySem.W.Frag) (mg : Str → Option Value) (base : Heap) (ad : Nat → Addr) (b : Bool), Facts P w K mg base ad → Body P w K mg base (GG b K ad) 0 (ad 41) ["number"] "sign_of" st_sign_of ms :=
  ⟨_, fun P w K mg base ad b T cdv A fr s H E c => ss_cons (s_ret (v_ite (b_cmp (o_gt) (v_var (i := 0) rfl (by leaf_len) (by decide) (by decide)) v_int rfl) v_int (v_ite (b_cmp (o_lt) (v_var (i := 0) rfl (by leaf_len) (by decide) (by decide)) v_int rfl) (v_neg v_int) v_int))) ss_nil⟩
def sem_sign_of : List D → M D := runFn 1 1 pk_sign_of.1
theorem ok_sign_of (T : Facts P w K mg base ad) : FnA P w K mg base (GG b K ad) 2 (ad 41) sem_sign_of := by
  obtain ⟨fd, F⟩ := T.f_sign_of
  exact fna_rule F sc_sign_of (F.binds fun _ _ _ _ _ _ us hl => match us, hl with | [_], _ => rfl) rfl (pk_sign_of.2 P w K mg base ad b T) rfl rfl (by decide)
def pk_compare : Σ' ms : MS, ∀ (P : Program) (w : World) (K : PySem.W.Frag) (mg : Str → Option Value) (base : Heap) (ad : Nat → Addr) (b : Bool), Facts P w K mg base ad → Body P w K mg base (GG b K ad) 2 (ad 42) ["one", "other"] "compare" st_compare ms :=
  ⟨_, fun P w K mg base ad b T cdv A fr s H E c => ss_cons (s_ret (v_calls (FnA.call c ((ok_sign_of T).mono (by decide))) (by rfl) T.g_sign_of (l_cons (v_bin (o_sub) (v_bin (o_mul c.cK) (v_ix c.cK (v_var (i := 0) rfl (by leaf_len) (by decide) (by decide)) v_int rfl) (v_ix c.cK (v_var (i := 1) rfl (by leaf_len) (by decide) (by decide)) v_int rfl)) (v_bin (o_mul c.cK) (v_ix c.cK (v_var (i := 1) rfl (by leaf_len) (by decide) (by decide)) v_int rfl) (v_ix c.cK (v_var (i := 0) rfl (by leaf_len) (by decide) (by decide)) v_int rfl))) l_nil rfl) rfl (by decide))) ss_nil⟩
def sem_compare : List D → M D := runFn 2 2 pk_compare.1
theorem ok_compare (T : Facts P w K mg base ad) : FnA P w K mg base (GG b K ad) 4 (ad 42) sem_compare := by
  obtain ⟨fd, F⟩ := T.f_compare
  exact fna_rule F sc_compare (F.binds fun _ _ _ _ _ _ us hl => match us, hl with | [_, _], _ => rfl) rfl (pk_compare.2 P w K mg base ad b T) rfl rfl (by decide)
def pk_Run_goes : Σ' ms : MS, ∀ (P : Program) (w : World) (K : PySem.W.Frag) (mg : Str → Option Value) (base : Heap) (ad : Nat → Addr) (b : Bool), Facts P w K mg base ad → Body P w K mg base (GG b K ad) 4 (ad 43) ["self"] "Run.goes" st_Run_goes ms :=
  ⟨_, fun P w K mg base ad b T cdv A fr s H E c => ss_cons (s_ret (v_calls (FnA.call c ((ok_compare T).mono (by decide))) (by rfl) T.g_compare (l_cons (v_meth c (T_meth_next_of_5 T ⟨rfl, rfl, rfl, rfl, rfl⟩ (by decide)) (v_var (i := 0) rfl (by leaf_len) (by decide) (by decide)) (l_cons (v_attr c (T_attr_first_5 T ⟨rfl, rfl, rfl, rfl, rfl⟩ (by decide)) (v_var (i := 0) rfl (by leaf_len) (by decide) (by decide)) rfl) l_nil rfl) rfl rfl (by decide) rfl) (l_cons (v_attr c (T_attr_first_5 T ⟨rfl, rfl, rfl, rfl, rfl⟩ (by decide)) (v_var (i := 0) rfl (by leaf_len) (by decide) (by decide)) rfl) l_nil rfl) rfl) rfl (by decide))) ss_nil⟩
def sem_Run_goes : List D → M D := runFn 1 1 pk_Run_goes.1
theorem ok_Run_goes (T : Facts P w K mg base ad) : FnA P w K mg base (GG b K ad) 6 (ad 43) sem_Run_goes := by
  obtain ⟨fd, F⟩ := T.f_Run_goes
  exact fna_rule F sc_Run_goes (F.binds fun _ _ _ _ _ _ us hl => match us, hl with | [_], _ => rfl) rfl (pk_Run_goes.2 P w K mg base ad b T) rfl rfl (by decide)
theorem T_attr_goes_5 (T : Facts P w K mg base ad) {X : Cx} (h : Same X P w K mg base) {k : Nat} (hk : 6 ≤ k) : AttrT X (GG b K ad) k "goes" (tab [(5, .prop sem_Run_goes)]) := by
  obtain ⟨rfl, rfl, rfl, rfl, rfl⟩ := h
  exact AttrT.of (tab_cons (let ⟨q, hq⟩ := T.p_Ladder_Run_goes; ⟨q, _, T.cl_Ladder, hq, (ok_Run_goes T).mono (Nat.le_trans (by decide) hk)⟩) tab_nil)
def pk_Run_load : Σ' ms : MS, ∀ (P : Program) (w : World) (K : PySem.W.Frag) (mg : Str → Option Value) (base : Heap) (ad : Nat → Addr) (b : Bool), Facts P w K mg base ad → Body P w K mg base (GG b K ad) 0 (ad 44) ["self"] "Run.load" st_Run_load ms :=
  ⟨_, fun P w K mg base ad b T cdv A fr s H E c => ss_cons (s_ret (v_attr c (T_attr_first_5 T ⟨rfl, rfl, rfl, rfl, rfl⟩ (by decide)) (v_var (i := 0) rfl (by leaf_len) (by decide) (by decide)) rfl)) ss_nil⟩
def sem_Run_load : List D → M D := runFn 1 1 pk_Run_load.1
theorem ok_Run_load (T : Facts P w K mg base ad) : FnA P w K mg base (GG b K ad) 2 (ad 44) sem_Run_load := by
  obtain ⟨fd, F⟩ := T.f_Run_load
  exact fna_rule F sc_Run_load (F.binds fun _ _ _ _ _ _ us hl => match us, hl with | [_], _ => rfl) rfl (pk_Run_load.2 P w K mg base ad b T) rfl rfl (by decide)
theorem T_attr_load_5 (T : Facts P w K mg base ad) {X : Cx} (h : Same X P w K mg base) {k : Nat} (hk : 2 ≤ k) : AttrT X (GG b K ad) k "load" (tab [(5, .prop sem_Run_load)]) := by
  obtain ⟨rfl, rfl, rfl, rfl, rfl⟩ := h
  exact AttrT.of (tab_cons (let ⟨q, hq⟩ := T.p_Ladder_Run_load; ⟨q, _, T.cl_Ladder, hq, (ok_Run_load T).mono (Nat.le_trans (by decide) hk)⟩) tab_nil)
def pk__law_below : Σ' ms : MS, ∀ (P : Program) (w : World) (K : PySem.W.Frag) (mg : Str → Option Value) (base : Heap) (ad : Nat → Addr) (b : Bool), Facts P w K mg base ad → Body P w K mg base (GG b K ad) 0 (ad 45) ["_law_one", "_law_two"] "_law_below" st__law_below ms :=
  ⟨_, fun P w K mg base ad b T cdv A fr s H E c => ss_cons (s_ret (v_cmp (o_lt) (v_bin (o_mul c.cK) (v_ix c.cK (v_var (i := 0) rfl (by leaf_len) (by decide) (by decide)) v_int rfl) (v_ix c.cK (v_var (i := 1) rfl (by leaf_len) (by decide) (by decide)) v_int rfl)) (v_bin (o_mul c.cK) (v_ix c.cK (v_var (i := 1) rfl (by leaf_len) (by decide) (by decide)) v_int rfl) (v_ix c.cK (v_var (i := 0) rfl (by leaf_len) (by decide) (by decide)) v_int rfl)) rfl)) ss_nil⟩
def sem__law_below : List D → M D := runFn 2 2 pk__law_below.1
theorem ok__law_below (T : Facts P w K mg base ad) : FnA P w K mg base (GG b K ad) 2 (ad 45) sem__law_below := by
  obtain ⟨fd, F⟩ := T.f__law_below
  exact fna_rule F sc__law_below (F.binds fun _ _ _ _ _ _ us hl => match us, hl with | [_, _], _ => rfl) rfl (pk__law_below.2 P w K mg base ad b T) rfl rfl (by decide)
def pk__law_goes : Σ' ms : MS, ∀ (P : Program) (w : World) (K : PySem.W.Frag) (mg : Str → Option Value) (base : Heap) (ad : Nat → Addr) (b : Bool), Facts P w K mg base ad → Body P w K mg base (GG b K ad) 2 (ad 46) ["_law_one", "_law_two"] "_law_goes" st__law_goes ms :=
  ⟨_, fun P w K mg base ad b T cdv A fr s H E c => ss_cons (s_ret (v_ite (b_val (v_calls (FnA.call c ((ok__law_below T).mono (by decide))) (by rfl) T.g__law_below (l_cons (v_var (i := 0) rfl (by leaf_len) (by decide) (by decide)) (l_cons (v_var (i := 1) rfl (by leaf_len) (by decide) (by decide)) l_nil rfl) rfl) rfl (by decide)) (fun _ => rfl)) v_int (v_ite (b_val (v_calls (FnA.call c ((ok__law_below T).mono (by decide))) (by rfl) T.g__law_below (l_cons (v_var (i := 1) rfl (by leaf_len) (by decide) (by decide)) (l_cons (v_var (i := 0) rfl (by leaf_len) (by decide) (by decide)) l_nil rfl) rfl) rfl (by decide)) (fun _ => rfl)) (v_neg v_int) v_int))) ss_nil⟩
def sem__law_goes : List D → M D := runFn 2 2 pk__law_goes.1
theorem ok__law_goes (T : Facts P w K mg base ad) : FnA P w K mg base (GG b K ad) 4 (ad 46) sem__law_goes := by
  obtain ⟨fd, F⟩ := T.f__law_goes
  exact fna_rule F sc__law_goes (F.binds fun _ _ _ _ _ _ us hl => match us, hl with | [_, _], _ => rfl) rfl (pk__law_goes.2 P w K mg base ad b T) rfl rfl (by decide)
def pk_PatternX_strX : Σ' ms : MS, ∀ (P : Program) (w : World) (K : PySem.W.Frag) (mg : Str → Option Value) (base : Heap) (ad : Nat → Addr) (b : Bool), Facts P w K mg base ad → Body P w K mg base (GG b K ad) 0 (ad 47) ["self", "word", "ohms"] "Pattern.__str__" st_PatternX_strX ms :=
  ⟨_, fun P w K mg base ad b T cdv A fr s H E c => ss_cons (s_ret (v_join c.cK v_str (v_lc c (own := [("word", 1), ("ohms", 2)]) (i_seq c (v_attr c (T_attr_row_1 T ⟨rfl, rfl, rfl, rfl, rfl⟩ (by decide)) (v_var (i := 0) rfl (by leaf_len) (by decide) (by decide)) rfl)) (blkOk_by (N := ["self", "word", "ohms"]) (sc := defScope st_PatternX_strX) (by decide +kernel)) (fun s H C cl fp => blkP c fun c => (p_tup c.cK c.calm (ps_consP (p_name (i := 1) c.nd rfl (by mem_news) (.inr rfl)) (ps_consP (p_name (i := 2) c.nd rfl (by mem_news) (.inr rfl)) ps_nilP rfl) rfl) rfl rfl)) (fun s H C cl fp => blkT c fun c => t_nil) (fun s H C cl fp => blkV c fun c => (v_joined (.cons (v_fmt (v_var (i := 1) rfl (by leaf_len) (by decide) (by decide))) (.cons v_str (.cons (v_fmt (v_var (i := 2) rfl (by leaf_len) (by decide) (by decide))) .nil))))) rfl (by decide)) rfl rfl rfl)) ss_nil⟩
def sem_PatternX_strX : List D → M D := runFn 1 3 pk_PatternX_strX.1
theorem ok_PatternX_strX (T : Facts P w K mg base ad) : FnA P w K mg base (GG b K ad) 2 (ad 47) sem_PatternX_strX := by
  obtain ⟨fd, F⟩ := T.f_PatternX_strX
  exact fna_rule F sc_PatternX_strX (F.binds fun _ _ _ _ _ _ us hl => match us, hl with | [_], _ => rfl) rfl (pk_PatternX_strX.2 P w K mg base ad b T) rfl rfl (by decide)
theorem T_str_1 (T : Facts P w K mg base ad) {X : Cx} (h : Same X P w K mg base) {k : Nat} (hk : 2 ≤ k) : TxT X (GG b K ad) k "__str__" (tab [(1, sem_PatternX_strX)]) := by
  obtain ⟨rfl, rfl, rfl, rfl, rfl⟩ := h
  exact ⟨(tab_cons ⟨_, T.x_Pattern_PatternX_strX.1, T.x_Pattern_PatternX_strX.2.1, T.x_Pattern_PatternX_strX.2.2.1, T.x_Pattern_PatternX_strX.2.2.2, (ok_PatternX_strX T).mono (Nat.le_trans (by decide) hk)⟩ tab_nil)⟩
def pk_Pattern_numbers : Σ' ms : MS, ∀ (P : Program) (w : World) (K : PySem.W.Frag) (mg : Str → Option Value) (base : Heap) (ad : Nat → Addr) (b : Bool), Facts P w K mg base ad → Body P w K mg base (GG b K ad) 4 (ad 48) ["self", "number"] "Pattern.numbers" st_Pattern_numbers ms :=
  ⟨_, fun P w K mg base ad b T cdv A fr s H E c => ss_cons (s_ret (v_callTy (c_tuple c.cK) (by rfl) T.z_tuple (by decide +kernel) (l_cons (v_lc c (own := [("number", 1)]) (i_seq c (v_attr c (T_attr_chain_1 T ⟨rfl, rfl, rfl, rfl, rfl⟩ (by decide)) (v_var (i := 0) rfl (by leaf_len) (by decide) (by decide)) rfl)) (blkOk_by (N := ["self", "number"]) (sc := defScope st_Pattern_numbers) (by decide +kernel)) (fun s H C cl fp => blkP c fun c => (p_name (i := 1) c.nd rfl (by mem_news) (.inr rfl))) (fun s H C cl fp => blkT c fun c => t_nil) (fun s H C cl fp => blkV c fun c => (v_calls (FnA.call c ((ok_lowest T).mono (by decide))) (by rfl) T.g_lowest (l_cons (v_var (i := 1) rfl (by leaf_len) (by decide) (by decide)) (l_cons (v_attr c (T_attr_scale_1 T ⟨rfl, rfl, rfl, rfl, rfl⟩ (by decide)) (v_var (i := 0) rfl (by leaf_len) (by decide) (by decide)) rfl) l_nil rfl) rfl) rfl (by decide))) rfl (by decide)) l_nil rfl) rfl (by decide) (by decide))) ss_nil⟩
def sem_Pattern_numbers : List D → M D := runFn 1 2 pk_Pattern_numbers.1
theorem ok_Pattern_numbers (T : Facts P w K mg base ad) : FnA P w K mg base (GG b K ad) 6 (ad 48) sem_Pattern_numbers := by
  obtain ⟨fd, F⟩ := T.f_Pattern_numbers
  exact fna_rule F sc_Pattern_numbers (F.binds fun _ _ _ _ _ _ us hl => match us, hl with | [_], _ => rfl) rfl (pk_Pattern_numbers.2 P w K mg base ad b T) rfl rfl (by decide)
theorem T_attr_numbers_1 (T : Facts P w K mg base ad) {X : Cx} (h : Same X P w K mg base) {k : Nat} (hk : 6 ≤ k) : AttrT X (GG b K ad) k "numbers" (tab [(1, .prop sem_Pattern_numbers)]) := by
  obtain ⟨rfl, rfl, rfl, rfl, rfl⟩ := h
  exact AttrT.of (tab_cons (let ⟨q, hq⟩ := T.p_Pattern_Pattern_numbers; ⟨q, _, T.cl_Pattern, hq, (ok_Pattern_numbers T).mono (Nat.le_trans (by decide) hk)⟩) tab_nil)
def pk_PatternX_eqX : Σ' ms : MS, ∀ (P : Program) (w : World) (K : PySem.W.Frag) (mg : Str → Option Value) (base : Heap) (ad : Nat → Addr) (b : Bool), Facts P w K mg base ad → Body P w K mg base (GG b K ad) 6 (ad 49) ["self", "other"] "Pattern.__eq__" st_PatternX_eqX ms :=
  ⟨_, fun P w K mg base ad b T cdv A fr s H E c => ss_cons (s_if (b_not (b_val (v_callB (c_isa c.cK (T.isa _ _ rfl)) (by rfl) T.z_isinstance (by decide +kernel) (l_cons (v_var (i := 1) rfl (by leaf_len) (by decide) (by decide)) (l_cons (v_glob (by rfl) (glob_cls (c := 1) T.k_Pattern) (by decide)) l_nil rfl) rfl) rfl (by decide) (by decide)) (fun _ => rfl))) (ss_cons (s_never) ss_nil) (ss_nil)) (ss_cons (s_ret (v_cmp (o_eq c.cK c.rm) (v_attr c (T_attr_numbers_1 T ⟨rfl, rfl, rfl, rfl, rfl⟩ (by decide)) (v_var (i := 0) rfl (by leaf_len) (by decide) (by decide)) rfl) (v_attr c (T_attr_numbers_1 T ⟨rfl, rfl, rfl, rfl, rfl⟩ (by decide)) (v_var (i := 1) rfl (by leaf_len) (by decide) (by decide)) rfl) rfl)) ss_nil)⟩
def sem_PatternX_eqX : List D → M D := runFn 2 2 pk_PatternX_eqX.1
theorem ok_PatternX_eqX (T : Facts P w K mg base ad) : FnA P w K mg base (GG b K ad) 8 (ad 49) sem_PatternX_eqX := by
  obtain ⟨fd, F⟩ := T.f_PatternX_eqX
  exact fna_rule F sc_PatternX_eqX (F.binds fun _ _ _ _ _ _ us hl => match us, hl with | [_, _], _ => rfl) rfl (pk_PatternX_eqX.2 P w K mg base ad b T) rfl rfl (by decide)
def pkd_PatternX_eqX : Σ' fc : List SV → M Bool, ∀ (P : Program) (w : World) (K : PySem.W.Frag) (mg : Str → Option Value) (base : Heap) (ad : Nat → Addr) (b : Bool), Facts P w K mg base ad → ∀ (cdv : Value) (A : Around) (fr : List Env) (s : Shared) (H : Hp) (E : XK), Ctx (GG b K ad) (XF P w K mg base ["self", "other"] "Pattern.__eq__" st_PatternX_eqX (ad 49) cdv A fr s H E) (WF E) 6 → Gl (XF P w K mg base ["self", "other"] "Pattern.__eq__" st_PatternX_eqX (ad 49) cdv A fr s H E) "NotImplemented" ∧ PB (GG b K ad) (XF P w K mg base ["self", "other"] "Pattern.__eq__" st_PatternX_eqX (ad 49) cdv A fr s H E) (WF E) (ifC (defBody st_PatternX_eqX)) fc :=
  ⟨_, fun P w K mg base ad b T cdv A fr s H E c => ⟨by rfl, (b_not (b_val (v_callB (c_isa c.cK (T.isa _ _ rfl)) (by rfl) T.z_isinstance (by decide +kernel) (l_cons (v_var (i := 1) rfl (by leaf_len) (by decide) (by decide)) (l_cons (v_glob (by rfl) (glob_cls (c := 1) T.k_Pattern) (by decide)) l_nil rfl) rfl) rfl (by decide) (by decide)) (fun _ => rfl)))⟩⟩
theorem okd_PatternX_eqX (T : Facts P w K mg base ad) : DecS P w K mg base (GG b K ad) 8 2 2 (ad 49) pkd_PatternX_eqX.1 := by
  obtain ⟨fd, F⟩ := T.f_PatternX_eqX
  exact dec_rule F sc_PatternX_eqX (F.binds fun _ _ _ _ _ _ us hl => match us, hl with | [_, _], _ => rfl) rfl rfl T.z_NotImplemented rfl rfl (by decide) (pkd_PatternX_eqX.2 P w K mg base ad b T)
theorem T_eq_1 (T : Facts P w K mg base ad) {X : Cx} (h : Same X P w K mg base) {k : Nat} (hk : 8 ≤ k) : EqT X (GG b K ad) k (tab [(1, sem_PatternX_eqX)]) := by
  obtain ⟨rfl, rfl, rfl, rfl, rfl⟩ := h
  exact ⟨(tab_cons ⟨_, T.e_Pattern_PatternX_eqX.1, T.e_Pattern_PatternX_eqX.2.1, T.e_Pattern_PatternX_eqX.2.2.1, T.e_Pattern_PatternX_eqX.2.2.2, (ok_PatternX_eqX T).mono (Nat.le_trans (by decide) hk)⟩ tab_nil)⟩
theorem T_dec_1 (T : Facts P w K mg base ad) {X : Cx} (h : Same X P w K mg base) {k : Nat} (hk : 8 ≤ k) : DecT X (GG b K ad) k (tab [(1, (2, pkd_PatternX_eqX.1))]) := by
  obtain ⟨rfl, rfl, rfl, rfl, rfl⟩ := h
  exact ⟨(tab_cons ⟨_, T.e_Pattern_PatternX_eqX.1, T.e_Pattern_PatternX_eqX.2.1, T.e_Pattern_PatternX_eqX.2.2.1, T.e_Pattern_PatternX_eqX.2.2.2, T.d_Pattern_PatternX_eqX.1, T.d_Pattern_PatternX_eqX.2.1, T.d_Pattern_PatternX_eqX.2.2, (okd_PatternX_eqX T).mono (Nat.le_trans (by decide) hk)⟩ tab_nil)⟩
def pk__law_right : Σ' ms : MS, ∀ (P : Program) (w : World) (K : PySem.W.Frag) (mg : Str → Option Value) (base : Heap) (ad : Nat → Addr), Facts P w K mg base ad → Body P w K mg base (GG true K ad) 16 (ad 50) ["_law_cup_here", "_law_turn", "_law_row_here", "_law_end_here", "_law_mine", "_law_way", "_law_many", "_law_due", "_law_again", "_law_at"] "_law_right" st__law_right ms :=
  ⟨_, fun P w K mg base ad T cdv A fr s H E c => ss_cons (s_for c (i_rng1 (by rfl) T.z_range (l_cons v_int l_nil rfl) rfl) (g_name (i := 1) c.nd rfl (by mem_news) (.inl rfl)) (ss_cons (s_par (i := 2) (j := 3) c rfl rfl (by decide) rfl rfl (l_cons (v_calls (FnA.call c ((ok__law_row T).mono (by decide))) (by rfl) T.g__law_row (l_cons (v_var (i := 0) rfl (by leaf_len) (by decide) (by decide)) (l_cons (v_ite (b_cmp (o_gt) (v_var (i := 1) rfl (by leaf_len) (by decide) (by decide)) v_int rfl) v_int v_int) l_nil rfl) rfl) rfl (by decide)) (l_cons (v_calls (FnA.call c ((ok__law_end T).mono (by decide))) (by rfl) T.g__law_end (l_cons (v_var (i := 0) rfl (by leaf_len) (by decide) (by decide)) l_nil rfl) rfl (by decide)) l_nil rfl) rfl) rfl) (ss_cons (s_set (i := 4) c rfl (by mem_news) (v_calls (FnA.call c ((ok__law_read T).mono (by decide))) (by rfl) T.g__law_read (l_cons (v_var (i := 2) rfl (by leaf_len) (by decide) (by decide)) l_nil rfl) rfl (by decide)) rfl (.inl rfl)) (ss_cons (s_set (i := 5) c rfl (by mem_news) (v_calls (ClA.call c ((mk_Ladder T).mono (by decide))) (by rfl) T.k_Ladder (l_cons (v_var (i := 4) rfl (by leaf_len) (by decide) (by decide)) (l_cons (v_calls (FnA.call c ((ok__law_told T).mono (by decide))) (by rfl) T.g__law_told (l_cons (v_var (i := 0) rfl (by leaf_len) (by decide) (by decide)) (l_cons (v_var (i := 3) rfl (by leaf_len) (by decide) (by decide)) l_nil rfl) rfl) rfl (by decide)) l_nil rfl) rfl) rfl (by decide)) rfl (.inl rfl)) (ss_cons (s_set (i := 6) c rfl (by mem_news) (v_ite (b_of (w_and (b_cmp (o_eq c.cK c.rm) (v_var (i := 1) rfl (by leaf_len) (by decide) (by decide)) v_int rfl) (w_and1 (b_cmp (o_eq c.cK c.rm) (v_calls (FnA.call c ((ok__law_sip T).mono (by decide))) (by rfl) T.g__law_sip (l_cons (v_var (i := 0) rfl (by leaf_len) (by decide) (by decide)) (l_cons v_int l_nil rfl) rfl) rfl (by decide)) v_int rfl)))) v_int (v_calls (FnA.call c ((ok__law_sip T).mono (by decide))) (by rfl) T.g__law_sip (l_cons (v_var (i := 0) rfl (by leaf_len) (by decide) (by decide)) (l_cons v_int l_nil rfl) rfl) rfl (by decide))) rfl (.inl rfl)) (ss_cons (s_set (i := 7) c rfl (by mem_news) (v_calls (FnA.call c ((ok__law_walk T).mono (by decide))) (by rfl) T.g__law_walk (l_cons (v_var (i := 2) rfl (by leaf_len) (by decide) (by decide)) (l_cons (v_var (i := 3) rfl (by leaf_len) (by decide) (by decide)) (l_cons (v_bin (o_add c.cK) (v_var (i := 6) rfl (by leaf_len) (by decide) (by decide)) v_int) l_nil rfl) rfl) rfl) rfl (by decide)) rfl (.inl rfl)) (ss_cons (s_if (b_of (w_or (b_cmp (o_ne c.cK c.rm) (v_callB (c_repr c.cK c.rm) (by rfl) T.z_repr (by decide +kernel) (l_cons (v_listN (gl_meth (T_gmeth_opening_5_1 T ⟨rfl, rfl, rfl, rfl, rfl⟩) (c.rm.room.mono (by decide)) (v_var (i := 5) rfl (by leaf_len) (by decide) (by decide)) (l_cons (v_var (i := 6) rfl (by leaf_len) (by decide) (by decide)) l_nil rfl) rfl rfl (by decide) rfl) (c.rm.room.mono (by decide)) (by rfl) T.z_list (by decide +kernel) rfl (by decide) (by decide)) l_nil rfl) rfl (by decide) (by decide)) (v_callB (c_repr c.cK c.rm) (by rfl) T.z_repr (by decide +kernel) (l_cons (v_slice c.cK (v_var (i := 7) rfl (by leaf_len) (by decide) (by decide)) q_none (q_some (v_var (i := 6) rfl (by leaf_len) (by decide) (by decide)))) l_nil rfl) rfl (by decide) (by decide)) rfl) (w_or1 (b_cmp (o_ne c.cK c.rm) (v_callB (c_repr c.cK c.rm) (by rfl) T.z_repr (by decide +kernel) (l_cons (v_listN (gl_methK0 (T_gmeth_opening_5_count0 T ⟨rfl, rfl, rfl, rfl, rfl⟩) (c.rm.room.mono (by decide)) (v_var (i := 5) rfl (by leaf_len) (by decide) (by decide)) (k_cons (v_var (i := 6) rfl (by leaf_len) (by decide) (by decide)) k_nil) rfl rfl (by decide) rfl rfl rfl) (c.rm.room.mono (by decide)) (by rfl) T.z_list (by decide +kernel) rfl (by decide) (by decide)) l_nil rfl) rfl (by decide) (by decide)) (v_callB (c_repr c.cK c.rm) (by rfl) T.z_repr (by decide +kernel) (l_cons (v_slice c.cK (v_var (i := 7) rfl (by leaf_len) (by decide) (by decide)) q_none (q_some (v_var (i := 6) rfl (by leaf_len) (by decide) (by decide)))) l_nil rfl) rfl (by decide) (by decide)) rfl)))) (ss_cons (s_ret v_bool) ss_nil) (ss_nil)) (ss_cons (s_for c (i_rng1 (by rfl) T.z_range (l_cons v_int l_nil rfl) rfl) (g_name (i := 8) c.nd rfl (by mem_news) (.inl rfl)) (ss_cons (s_set (i := 9) c rfl (by mem_news) (v_calls (FnA.call c ((ok__law_sip T).mono (by decide))) (by rfl) T.g__law_sip (l_cons (v_var (i := 0) rfl (by leaf_len) (by decide) (by decide)) (l_cons (v_bin (o_add c.cK) (v_var (i := 6) rfl (by leaf_len) (by decide) (by decide)) v_int) l_nil rfl) rfl) rfl (by decide)) rfl (.inl rfl)) (ss_cons (s_if (b_cmp (o_ne c.cK c.rm) (v_callB (c_repr c.cK c.rm) (by rfl) T.z_repr (by decide +kernel) (l_cons (v_lst (l_cons (v_callO c (T_call_5 T ⟨rfl, rfl, rfl, rfl, rfl⟩ (by decide)) (v_var (i := 5) rfl (by leaf_len) (by decide) (by decide)) (l_cons (v_var (i := 9) rfl (by leaf_len) (by decide) (by decide)) l_nil rfl) rfl rfl) (l_cons (v_callOK c (T_callk_5_count0 T ⟨rfl, rfl, rfl, rfl, rfl⟩ (by decide)) (v_var (i := 5) rfl (by leaf_len) (by decide) (by decide)) (k_cons (v_var (i := 9) rfl (by leaf_len) (by decide) (by decide)) k_nil) rfl rfl rfl rfl) l_nil rfl) rfl) (by decide)) l_nil rfl) rfl (by decide) (by decide)) (v_callB (c_repr c.cK c.rm) (by rfl) T.z_repr (by decide +kernel) (l_cons (v_lst (l_cons (v_ix c.cK (v_var (i := 7) rfl (by leaf_len) (by decide) (by decide)) (v_var (i := 9) rfl (by leaf_len) (by decide) (by decide)) rfl) (l_cons (v_ix c.cK (v_var (i := 7) rfl (by leaf_len) (by decide) (by decide)) (v_var (i := 9) rfl (by leaf_len) (by decide) (by decide)) rfl) l_nil rfl) rfl) (by decide)) l_nil rfl) rfl (by decide) (by decide)) rfl) (ss_cons (s_ret v_bool) ss_nil) (ss_nil)) (ss_nil))) rfl) (ss_cons (s_if (b_cmp (o_ne c.cK c.rm) (v_callB (c_repr c.cK c.rm) (by rfl) T.z_repr (by decide +kernel) (l_cons (v_lst (l_cons (v_attr c (T_attr_load_5 T ⟨rfl, rfl, rfl, rfl, rfl⟩ (by decide)) (v_var (i := 5) rfl (by leaf_len) (by decide) (by decide)) rfl) (l_cons (v_attr c (T_attr_goes_5 T ⟨rfl, rfl, rfl, rfl, rfl⟩ (by decide)) (v_var (i := 5) rfl (by leaf_len) (by decide) (by decide)) rfl) (l_cons (v_callO c (T_call_5 T ⟨rfl, rfl, rfl, rfl, rfl⟩ (by decide)) (v_var (i := 5) rfl (by leaf_len) (by decide) (by decide)) (l_cons (v_var (i := 6) rfl (by leaf_len) (by decide) (by decide)) l_nil rfl) rfl rfl) l_nil rfl) rfl) rfl) (by decide)) l_nil rfl) rfl (by decide) (by decide)) (v_callB (c_repr c.cK c.rm) (by rfl) T.z_repr (by decide +kernel) (l_cons (v_lst (l_cons (v_var (i := 3) rfl (by leaf_len) (by decide) (by decide)) (l_cons (v_calls (FnA.call c ((ok__law_goes T).mono (by decide))) (by rfl) T.g__law_goes (l_cons (v_ix c.cK (v_var (i := 7) rfl (by leaf_len) (by decide) (by decide)) v_int rfl) (l_cons (v_ix c.cK (v_var (i := 7) rfl (by leaf_len) (by decide) (by decide)) v_int rfl) l_nil rfl) rfl) rfl (by decide)) (l_cons (v_ix c.cK (v_var (i := 7) rfl (by leaf_len) (by decide) (by decide)) (v_var (i := 6) rfl (by leaf_len) (by decide) (by decide)) rfl) l_nil rfl) rfl) rfl) (by decide)) l_nil rfl) rfl (by decide) (by decide)) rfl) (ss_cons (s_ret v_bool) ss_nil) (ss_nil)) (ss_cons (s_if (b_cmp (o_ne c.cK c.rm) (v_lc c (own := [("_law_at", 9)]) (i_rng1 (by rfl) T.z_range (l_cons (v_var (i := 6) rfl (by leaf_len) (by decide) (by decide)) l_nil rfl) rfl) (blkOk_by (N := ["_law_cup_here", "_law_turn", "_law_row_here", "_law_end_here", "_law_mine", "_law_way", "_law_many", "_law_due", "_law_again", "_law_at"]) (sc := defScope st__law_right) (by decide +kernel)) (fun s H C cl fp => blkP c fun c => (p_name (i := 9) c.nd rfl (by mem_news) (.inr rfl))) (fun s H C cl fp => blkT c fun c => (t_one (b_cmp (o_ne c.cK c.rm) (v_calls (FnA.call c ((ok__law_goes T).mono (by decide))) (by rfl) T.g__law_goes (l_cons (v_ix c.cK (v_var (i := 7) rfl (by leaf_len) (by decide) (by decide)) (v_var (i := 9) rfl (by leaf_len) (by decide) (by decide)) rfl) (l_cons (v_ix c.cK (v_var (i := 7) rfl (by leaf_len) (by decide) (by decide)) (v_bin (o_add c.cK) (v_var (i := 9) rfl (by leaf_len) (by decide) (by decide)) v_int) rfl) l_nil rfl) rfl) rfl (by decide)) (v_attr c (T_attr_goes_5 T ⟨rfl, rfl, rfl, rfl, rfl⟩ (by decide)) (v_var (i := 5) rfl (by leaf_len) (by decide) (by decide)) rfl) rfl))) (fun s H C cl fp => blkV c fun c => (v_var (i := 9) rfl (by leaf_len) (by decide) (by decide))) rfl (by decide)) (v_lst l_nil (by decide)) rfl) (ss_cons (s_ret v_bool) ss_nil) (ss_nil)) (ss_cons (s_if (b_of (w_or (b_not (b_cmp (o_eqXN c (T_eq_1 T ⟨rfl, rfl, rfl, rfl, rfl⟩ (by decide)) (T_dec_1 T ⟨rfl, rfl, rfl, rfl, rfl⟩ (by decide))) (v_attr c (T_attr_pattern_5 T ⟨rfl, rfl, rfl, rfl, rfl⟩ (by decide)) (v_var (i := 5) rfl (by leaf_len) (by decide) (by decide)) rfl) (v_var (i := 4) rfl (by leaf_len) (by decide) (by decide)) rfl)) (w_or (b_cmp (o_ne c.cK c.rm) (v_callTy (c_strX (j := 2) c (by decide) (T_str_1 T ⟨rfl, rfl, rfl, rfl, rfl⟩ (by decide))) (by rfl) T.z_str (by decide +kernel) (l_cons (v_attr c (T_attr_pattern_5 T ⟨rfl, rfl, rfl, rfl, rfl⟩ (by decide)) (v_var (i := 5) rfl (by leaf_len) (by decide) (by decide)) rfl) l_nil rfl) rfl (by decide) (by decide)) (v_callTy (c_strX (j := 2) c (by decide) (T_str_1 T ⟨rfl, rfl, rfl, rfl, rfl⟩ (by decide))) (by rfl) T.z_str (by decide +kernel) (l_cons (v_var (i := 4) rfl (by leaf_len) (by decide) (by decide)) l_nil rfl) rfl (by decide) (by decide)) rfl) (w_or1 (b_cmp (o_ne c.cK c.rm) (v_listN (gl_meth (T_gmeth_opening_5_1 T ⟨rfl, rfl, rfl, rfl, rfl⟩) (c.rm.room.mono (by decide)) (v_var (i := 5) rfl (by leaf_len) (by decide) (by decide)) (l_cons v_int l_nil rfl) rfl rfl (by decide) rfl) (c.rm.room.mono (by decide)) (by rfl) T.z_list (by decide +kernel) rfl (by decide) (by decide)) (v_lst l_nil (by decide)) rfl))))) (ss_cons (s_ret v_bool) ss_nil) (ss_nil)) (ss_nil))))))))))) rfl) (ss_cons (s_ret v_bool) ss_nil)⟩
def sem__law_right : List D → M D := runFn 1 10 pk__law_right.1
theorem ok__law_right (T : Facts P w K mg base ad) : FnA P w K mg base (GG true K ad) 18 (ad 50) sem__law_right := by
  obtain ⟨fd, F⟩ := T.f__law_right
  exact fna_rule F sc__law_right (F.binds fun _ _ _ _ _ _ us hl => match us, hl with | [_], _ => rfl) rfl (pk__law_right.2 P w K mg base ad T) rfl rfl (by decide)
def pk__law_cup : Σ' ms : MS, ∀ (P : Program) (w : World) (K : PySem.W.Frag) (mg : Str → Option Value) (base : Heap) (ad : Nat → Addr) (b : Bool), Facts P w K mg base ad → Body P w K mg base (GG b K ad) 0 (ad 51) ["_law_script", "_law_spot", "_law_cell", "_law_one"] "_law_cup" st__law_cup ms :=
  ⟨_, fun P w K mg base ad b T cdv A fr s H E c => ss_cons (s_set (i := 2) c rfl (by mem_news) (v_ite (b_cmp (o_lt) (v_var (i := 1) rfl (by leaf_len) (by decide) (by decide)) (v_callB (c_len c.cK) (by rfl) T.z_len (by decide +kernel) (l_cons (v_var (i := 0) rfl (by leaf_len) (by decide) (by decide)) l_nil rfl) rfl (by decide) (by decide)) rfl) (v_ix c.cK (v_var (i := 0) rfl (by leaf_len) (by decide) (by decide)) (v_var (i := 1) rfl (by leaf_len) (by decide) (by decide)) rfl) (v_bin (o_add c.cK) (v_bin (o_mul c.cK) v_int (v_var (i := 1) rfl (by leaf_len) (by decide) (by decide))) v_int)) rfl (.inl rfl)) (ss_cons (s_for c (i_seq c (v_ite (b_cmp (o_ge) (v_var (i := 1) rfl (by leaf_len) (by decide) (by decide)) (v_callB (c_len c.cK) (by rfl) T.z_len (by decide +kernel) (l_cons (v_var (i := 0) rfl (by leaf_len) (by decide) (by decide)) l_nil rfl) rfl (by decide) (by decide)) rfl) (v_slice c.cK (v_var (i := 0) rfl (by leaf_len) (by decide) (by decide)) q_none (q_some v_int)) (v_lst l_nil (by decide)))) (g_name (i := 3) c.nd rfl (by mem_news) (.inl rfl)) (ss_cons (s_set (i := 2) c rfl (by mem_news) (v_bin (o_mod) (v_callTy (c_int) (by rfl) T.z_int (by decide +kernel) (l_cons (v_bin (o_add c.cK) (v_bin (o_mul c.cK) (v_var (i := 2) rfl (by leaf_len) (by decide) (by decide)) v_int) (v_var (i := 3) rfl (by leaf_len) (by decide) (by decide))) l_nil rfl) rfl (by decide) (by decide)) v_int) rfl (.inl rfl)) (ss_nil)) rfl) (ss_cons (s_ret (v_shr (o_lst (l_cons (v_bin (o_mod) (v_callTy (c_int) (by rfl) T.z_int (by decide +kernel) (l_cons (v_bin (o_add c.cK) (v_bin (o_add c.cK) (v_bin (o_mul c.cK) (v_var (i := 2) rfl (by leaf_len) (by decide) (by decide)) v_int) (v_bin (o_mul c.cK) v_int (v_var (i := 1) rfl (by leaf_len) (by decide) (by decide)))) v_int) l_nil rfl) rfl (by decide) (by decide)) v_int) (l_cons (v_ite (b_of (w_or (b_cmp (o_lt) (v_var (i := 2) rfl (by leaf_len) (by decide) (by decide)) v_int rfl) (w_or1 (b_cmp (o_ge) (v_var (i := 2) rfl (by leaf_len) (by decide) (by decide)) (v_bin (o_pow) v_int v_int) rfl)))) (v_callB (c_abs) (by rfl) T.z_abs (by decide +kernel) (l_cons (v_var (i := 2) rfl (by leaf_len) (by decide) (by decide)) l_nil rfl) rfl (by decide) (by decide)) v_int) l_nil rfl) rfl) (by decide)))) ss_nil))⟩
def sem__law_cup : List D → M D := runFn 2 4 pk__law_cup.1
theorem ok__law_cup (T : Facts P w K mg base ad) : FnA P w K mg base (GG b K ad) 2 (ad 51) sem__law_cup := by
  obtain ⟨fd, F⟩ := T.f__law_cup
  exact fna_rule F sc__law_cup (F.binds fun _ _ _ _ _ _ us hl => match us, hl with | [_, _], _ => rfl) rfl (pk__law_cup.2 P w K mg base ad b T) rfl rfl (by decide)
def pk_law : Σ' ms : MS, ∀ (P : Program) (w : World) (K : PySem.W.Frag) (mg : Str → Option Value) (base : Heap) (ad : Nat → Addr), Facts P w K mg base ad → Body P w K mg base (GG true K ad) 18 (ad 52) ["_law_script", "_law_golden", "_law_told_here", "_law_spot"] "law" st_law ms :=
  ⟨_, fun P w K mg base ad T cdv A fr s H E c => ss_cons (s_set (i := 1) c rfl (by mem_news) (v_calls (ClA.call c ((mk_Pattern T).mono (by decide))) (by rfl) T.k_Pattern (l_cons (v_tup (l_cons v_str (l_cons v_int l_nil rfl) rfl) (by decide)) (l_cons (v_tup (l_cons v_str (l_cons v_int l_nil rfl) rfl) (by decide)) l_nil rfl) rfl) rfl (by decide)) rfl (.inl rfl)) (ss_cons (s_set (i := 2) c rfl (by mem_news) (v_lst (l_cons (v_listN (gl_meth (T_gmeth_opening_5_1 T ⟨rfl, rfl, rfl, rfl, rfl⟩) (c.rm.room.mono (by decide)) (v_calls (ClA.call c ((mk_Ladder T).mono (by decide))) (by rfl) T.k_Ladder (l_cons (v_var (i := 1) rfl (by leaf_len) (by decide) (by decide)) (l_cons v_int l_nil rfl) rfl) rfl (by decide)) (l_cons v_int l_nil rfl) rfl rfl (by decide) rfl) (c.rm.room.mono (by decide)) (by rfl) T.z_list (by decide +kernel) rfl (by decide) (by decide)) (l_cons (v_ix c.cK (v_callO c (T_call_5 T ⟨rfl, rfl, rfl, rfl, rfl⟩ (by decide)) (v_calls (ClA.call c ((mk_Ladder T).mono (by decide))) (by rfl) T.k_Ladder (l_cons (v_var (i := 1) rfl (by leaf_len) (by decide) (by decide)) (l_cons (v_tup (l_cons v_int (l_cons v_int l_nil rfl) rfl) (by decide)) l_nil rfl) rfl) rfl (by decide)) (l_cons v_int l_nil rfl) rfl rfl) v_int rfl) (l_cons (v_callO c (T_call_5 T ⟨rfl, rfl, rfl, rfl, rfl⟩ (by decide)) (v_calls (ClA.call c ((mk_Ladder T).mono (by decide))) (by rfl) T.k_Ladder (l_cons (v_calls (ClA.call c ((mk_Pattern T).mono (by decide))) (by rfl) T.k_Pattern (l_cons (v_tup (l_cons v_str (l_cons v_int l_nil rfl) rfl) (by decide)) l_nil rfl) rfl (by decide)) (l_cons (v_tup (l_cons v_int (l_cons v_int l_nil rfl) rfl) (by decide)) l_nil rfl) rfl) rfl (by decide)) (l_cons v_int l_nil rfl) rfl rfl) l_nil rfl) rfl) rfl) (by decide)) rfl (.inl rfl)) (ss_cons (s_if (b_cmp (o_ne c.cK c.rm) (v_callB (c_repr c.cK c.rm) (by rfl) T.z_repr (by decide +kernel) (l_cons (v_var (i := 2) rfl (by leaf_len) (by decide) (by decide)) l_nil rfl) rfl (by decide) (by decide)) (v_callB (c_repr c.cK c.rm) (by rfl) T.z_repr (by decide +kernel) (l_cons (v_lst (l_cons (v_lst (l_cons (v_tup (l_cons v_int (l_cons v_int l_nil rfl) rfl) (by decide)) (l_cons (v_tup (l_cons v_int (l_cons v_int l_nil rfl) rfl) (by decide)) (l_cons (v_tup (l_cons v_int (l_cons v_int l_nil rfl) rfl) (by decide)) (l_cons (v_tup (l_cons v_int (l_cons v_int l_nil rfl) rfl) (by decide)) l_nil rfl) rfl) rfl) rfl) (by decide)) (l_cons v_int (l_cons (v_tup (l_cons v_int (l_cons v_int l_nil rfl) rfl) (by decide)) l_nil rfl) rfl) rfl) (by decide)) l_nil rfl) rfl (by decide) (by decide)) rfl) (ss_cons (s_ret v_bool) ss_nil) (ss_nil)) (ss_cons (s_ret (v_callB (c_all c.calm) (by rfl) T.z_all (by decide +kernel) (l_cons (v_lc c (own := [("_law_spot", 3)]) (i_rng1 (by rfl) T.z_range (l_cons (v_callB (c_max c.calm) (by rfl) T.z_max (by decide +kernel) (l_cons v_int (l_cons (v_callB (c_min c.calm) (by rfl) T.z_min (by decide +kernel) (l_cons (v_callB (c_len c.cK) (by rfl) T.z_len (by decide +kernel) (l_cons (v_var (i := 0) rfl (by leaf_len) (by decide) (by decide)) l_nil rfl) rfl (by decide) (by decide)) (l_cons v_int l_nil rfl) rfl) rfl (by decide) (by decide)) l_nil rfl) rfl) rfl (by decide) (by decide)) l_nil rfl) rfl) (blkOk_by (N := ["_law_script", "_law_golden", "_law_told_here", "_law_spot"]) (sc := defScope st_law) (by decide +kernel)) (fun s H C cl fp => blkP c fun c => (p_name (i := 3) c.nd rfl (by mem_news) (.inr rfl))) (fun s H C cl fp => blkT c fun c => t_nil) (fun s H C cl fp => blkV c fun c => (v_calls (FnA.call c ((ok__law_right T).mono (by decide))) (by rfl) T.g__law_right (l_cons (v_calls (FnA.call c ((ok__law_cup T).mono (by decide))) (by rfl) T.g__law_cup (l_cons (v_var (i := 0) rfl (by leaf_len) (by decide) (by decide)) (l_cons (v_var (i := 3) rfl (by leaf_len) (by decide) (by decide)) l_nil rfl) rfl) rfl (by decide)) l_nil rfl) rfl (by decide))) rfl (by decide)) l_nil rfl) rfl (by decide) (by decide))) ss_nil)))⟩
def sem_law : List D → M D := runFn 1 4 pk_law.1
theorem ok_law (T : Facts P w K mg base ad) : FnA P w K mg base (GG true K ad) 20 (ad 52) sem_law := by
  obtain ⟨fd, F⟩ := T.f_law
  exact fna_rule F sc_law (F.binds fun _ _ _ _ _ _ us hl => match us, hl with | [_], _ => rfl) rfl (pk_law.2 P w K mg base ad T) rfl rfl (by decide)
end K15
set_option maxRecDepth 100000
set_option maxHeartbeats 1000000
set_option exponentiation.threshold 4000
namespace K15
open PySem Ev
theorem runS_expr {α : Type} {g : List SV → M α} {sd : List SV} {S : List Ob} {N : List SV → List Ob → Prop} {R : D → List Ob → Prop} {B C : List SV → List Ob → Prop} : RunS (exS g fun _ => nextS) sd S N R B C ↔ Ev.Run (g sd) S fun _ S' => N sd S' := by
  rw [runS_ex]
  exact Iff.rfl
theorem gcd_step (x y : Int) (hx : 0 ≤ x) (hy : 0 < y) : Int.gcd y (x % y) = Int.gcd x y := by
  show Nat.gcd y.natAbs (x % y).natAbs = Nat.gcd x.natAbs y.natAbs
  rw [Int.natAbs_emod_of_nonneg hx, Nat.gcd_comm y.natAbs, ← Nat.gcd_rec, Nat.gcd_comm]
def Left (x y : Int) (n : Nat) : Prop := ∃ m : Nat, x * y < 2 ^ m ∧ (if x < y then m + 2 else m + 1) ≤ n
theorem left_step {x y : Int} {n : Nat} (hx : 0 ≤ x) (hy : 0 < y) (h : Left x y n) : ∃ n', n' < n ∧ Left y (x % y) n' := by
  obtain ⟨m, h1, h2⟩ := h
  have r0 := Int.emod_nonneg x (show y ≠ 0 by omega)
  have r1 := Int.emod_lt_of_pos x hy
  by_cases l : x < y
  · rw [if_pos l] at h2
    refine ⟨m + 1, by omega, m, ?_, ?_⟩
    · rw [Int.emod_eq_of_lt hx l, Int.mul_comm]
      exact h1
    · rw [if_neg (by omega)]
      exact Nat.le_refl _
  · rw [if_neg l] at h2
    have m0 : m ≠ 0 := by
      rintro rfl
      have z : 0 < x * y := Int.mul_pos (by omega) hy
      simp at h1
      omega
    obtain ⟨m', rfl⟩ : ∃ m', m = m' + 1 := ⟨m - 1, by omega⟩
    refine ⟨m' + 1, by omega, m', ?_, ?_⟩
    · have r2 : x % y ≤ x - y := by
        have q : 1 ≤ x / y := Int.le_ediv_of_mul_le hy (by omega)
        have e := Int.emod_add_mul_ediv x y
        have e2 : y * 1 ≤ y * (x / y) := Int.mul_le_mul_of_nonneg_left q (by omega)
        omega
      have r3 : 2 * (x % y) < x := by omega
      have r4 : y * (2 * (x % y)) < y * x := Int.mul_lt_mul_of_pos_left r3 hy
      have e5 : y * (2 * (x % y)) = 2 * (y * (x % y)) := by grind
      have e6 : y * x = x * y := Int.mul_comm _ _
      have e7 : (2 : Int) ^ (m' + 1) = 2 * 2 ^ m' := by rw [Int.pow_succ, Int.mul_comm]
      omega
    · rw [if_neg (by omega)]
      exact Nat.le_refl _
theorem left_start {x y : Int} (hx : 0 ≤ x) (hy : 0 ≤ y) (bx : x < 2 ^ 1000) (by_ : y < 2 ^ 1000) : ∃ n, n < bigW ∧ Left x y n := by
  refine ⟨2002, by decide, 2000, ?_, by split <;> omega⟩
  have a : x * y ≤ x * 2 ^ 1000 := Int.mul_le_mul_of_nonneg_left (by omega) hx
  have b : x * 2 ^ 1000 < 2 ^ 1000 * 2 ^ 1000 := Int.mul_lt_mul_of_pos_right bx (by decide)
  have c : (2 : Int) ^ 1000 * 2 ^ 1000 = 2 ^ 2000 := by decide
  omega
theorem common_ok (a b : Int) (ha : 0 ≤ a) (hb : 0 ≤ b) (sa : a < 2 ^ 1000) (sb : b < 2 ^ 1000) : sem_common [.int a, .int b] = M.pure (.int (Int.gcd a b)) := by
  refine pure_of fun S => ?_
  obtain ⟨n, hn, hl⟩ := left_start ha hb sa sb
  unfold sem_common
  rw [run_fn]
  refine ⟨rfl, ?_⟩
  unfold pk_common
  rw [runS_seq]
  refine iter_rule (J := fun n sd S' => S' = S ∧ ∃ x y : Int, sd = [.val (.int x), .val (.int y)] ∧ 0 ≤ x ∧ 0 ≤ y ∧ Int.gcd x y = Int.gcd a b ∧ Left x y n) ?_ bigW n _ _ hn ⟨rfl, a, b, rfl, ha, hb, rfl, hl⟩
  rintro n sd S' ⟨rfl, x, y, rfl, hx, hy, hg, hn⟩
  simp only [run_pure, run_bind, run_ite, run_noErr, run_stuck, runS_next, runS_stuck, runS_seq, runS_ret, runS_par, runS_own, runS_for, runS_if, runS_tgt, runS_expr, setT, tupT, consT, getv, on1, on2, toB_bl, add_int, sub_int, cmp_int, int_int, List.getElem?_cons_zero, List.getElem?_cons_succ, List.set_cons_zero, List.set_cons_succ, List.length_cons, List.length_nil, if_true, reduceIte, Nat.reduceAdd, Nat.reduceEqDiff]
  by_cases h : 0 < y
  · simp only [h, decide_true, if_true]
    try simp only [run_pure, run_bind, run_ite, run_noErr, run_stuck, runS_next, runS_stuck, runS_seq, runS_ret, runS_par, runS_own, runS_for, runS_if, runS_tgt, runS_expr, setT, tupT, consT, getv, on1, on2, toB_bl, add_int, sub_int, cmp_int, int_int, List.getElem?_cons_zero, List.getElem?_cons_succ, List.set_cons_zero, List.set_cons_succ, List.length_cons, List.length_nil, if_true, reduceIte, Nat.reduceAdd, Nat.reduceEqDiff]
    simp only [mod_int h]
    try simp only [run_pure, run_bind, run_ite, run_noErr, run_stuck, runS_next, runS_stuck, runS_seq, runS_ret, runS_par, runS_own, runS_for, runS_if, runS_tgt, runS_expr, setT, tupT, consT, getv, on1, on2, toB_bl, add_int, sub_int, cmp_int, int_int, List.getElem?_cons_zero, List.getElem?_cons_succ, List.set_cons_zero, List.set_cons_succ, List.length_cons, List.length_nil, if_true, reduceIte, Nat.reduceAdd, Nat.reduceEqDiff]
    obtain ⟨n', l', h'⟩ := left_step hx h hn
    exact ⟨n', l', trivial, y, x % y, rfl, hy, Int.emod_nonneg x (by omega), (gcd_step x y hx h).trans hg, h'⟩
  · have y0 : y = 0 := by omega
    subst y0
    simp only [h, decide_false]
    try simp only [run_pure, run_bind, run_ite, run_noErr, run_stuck, runS_next, runS_stuck, runS_seq, runS_ret, runS_par, runS_own, runS_for, runS_if, runS_tgt, runS_expr, setT, tupT, consT, getv, on1, on2, toB_bl, add_int, sub_int, cmp_int, int_int, List.getElem?_cons_zero, List.getElem?_cons_succ, List.set_cons_zero, List.set_cons_succ, List.length_cons, List.length_nil, if_true, reduceIte, Nat.reduceAdd, Nat.reduceEqDiff]
    simp only [Int.gcd_zero] at hg
    refine ⟨?_, trivial⟩
    rw [← hg]
    congr 1
    omega
def lowT (t : Int) (b : Int) : Int := t / (Int.gcd t b : Int)
def lowB (t : Int) (b : Int) : Int := b / (Int.gcd t b : Int)
theorem divOk_gcd {t b : Int} (ht : 0 ≤ t) (hb : 0 ≤ b) (h : 0 < t + b) (st : t < 2 ^ 1000) (sb : b < 2 ^ 1000) : divOk (Int.gcd t b : Int) = true := by
  have g0 : 0 < Int.gcd t b := by
    rw [Int.gcd_pos_iff]
    omega
  have g1 : Int.gcd t b < 2 ^ 1000 := by
    by_cases e : t = 0
    · subst e
      rw [Int.gcd_zero_left]
      omega
    · have := Nat.le_of_dvd (by omega) (Int.gcd_dvd_natAbs_left t b)
      omega
  unfold divOk
  rw [Bool.and_eq_true]
  refine ⟨decide_eq_true (by omega), decide_eq_true ?_⟩
  rw [Int.natAbs_natCast]
  have := (Nat.log2_lt (by omega)).mpr g1
  omega
theorem lowest_ok (t b : Int) (ht : 0 ≤ t) (hb : 0 ≤ b) (h : 0 < t + b) (st : t < 2 ^ 1000) (sb : b < 2 ^ 1000) : sem_lowest [.int t, .int b] = M.pure (.tup [.int (lowT t b), .int (lowB t b)]) := by
  refine pure_of fun S => ?_
  have d := divOk_gcd ht hb h st sb
  unfold sem_lowest
  rw [run_fn]
  refine ⟨rfl, ?_⟩
  show RunS pk_lowest.1 [.val (.int t), .val (.int b), .no] S _ _ _ _
  unfold pk_lowest
  simp only [run_pure, run_bind, run_ite, run_noErr, run_stuck, runS_next, runS_stuck, runS_seq, runS_ret, runS_par, runS_own, runS_for, runS_if, runS_tgt, runS_expr, setT, tupT, consT, getv, on1, on2, toB_bl, add_int, sub_int, cmp_int, int_int, List.getElem?_cons_zero, List.getElem?_cons_succ, List.set_cons_zero, List.set_cons_succ, List.length_cons, List.length_nil, if_true, reduceIte, Nat.reduceAdd, Nat.reduceEqDiff]
  simp only [common_ok t b ht hb st sb]
  simp only [run_pure, run_bind, run_ite, run_noErr, run_stuck, runS_next, runS_stuck, runS_seq, runS_ret, runS_par, runS_own, runS_for, runS_if, runS_tgt, runS_expr, setT, tupT, consT, getv, on1, on2, toB_bl, add_int, sub_int, cmp_int, int_int, List.getElem?_cons_zero, List.getElem?_cons_succ, List.set_cons_zero, List.set_cons_succ, List.length_cons, List.length_nil, if_true, reduceIte, Nat.reduceAdd, Nat.reduceEqDiff]
  simp only [fdiv_int d]
  try simp only [run_pure, run_bind, run_ite, run_noErr, run_stuck, runS_next, runS_stuck, runS_seq, runS_ret, runS_par, runS_own, runS_for, runS_if, runS_tgt, runS_expr, setT, tupT, consT, getv, on1, on2, toB_bl, add_int, sub_int, cmp_int, int_int, List.getElem?_cons_zero, List.getElem?_cons_succ, List.set_cons_zero, List.set_cons_succ, List.length_cons, List.length_nil, if_true, reduceIte, Nat.reduceAdd, Nat.reduceEqDiff]
  exact ⟨rfl, trivial⟩
def Sm (k : Nat) (x : Int) : Prop := 0 ≤ x ∧ x < 2 ^ k
theorem Sm.mono {j k : Nat} {x : Int} (h : Sm j x) (l : j ≤ k) : Sm k x := ⟨h.1, Int.lt_of_lt_of_le h.2 (by exact_mod_cast Nat.pow_le_pow_right (by decide) l)⟩
theorem Sm.mul {j k : Nat} {x y : Int} (h : Sm j x) (l : Sm k y) : Sm (j + k) (x * y) := by
  refine ⟨Int.mul_nonneg h.1 l.1, ?_⟩
  have a : x * y ≤ x * 2 ^ k := Int.mul_le_mul_of_nonneg_left (by have := l.2; omega) h.1
  have p : (0 : Int) < 2 ^ k := Int.pow_pos (by decide)
  have b : x * 2 ^ k < 2 ^ j * 2 ^ k := Int.mul_lt_mul_of_pos_right h.2 p
  rw [Int.pow_add]
  omega
theorem Sm.add {k : Nat} {x y : Int} (h : Sm k x) (l : Sm k y) : Sm (k + 1) (x + y) := by
  have a := h.1
  have b := h.2
  have c := l.1
  have d := l.2
  refine ⟨by omega, ?_⟩
  rw [Int.pow_succ]
  omega
theorem Sm.nat {k : Nat} {x : Int} (h : Sm k x) : x.natAbs < 2 ^ k := by
  have a := h.1
  have b := h.2
  have e : ((x.natAbs : Nat) : Int) = x := by omega
  have c : ((x.natAbs : Nat) : Int) < ((2 ^ k : Nat) : Int) := by
    rw [e]
    simpa using b
  exact_mod_cast c
theorem mulS {j k : Nat} {x y : Int} (h : Sm j x) (l : Sm k y) (c : j + k ≤ 134217728) : dMul (.int x) (.int y) = M.pure (.int (x * y)) := mul_int (mulOk_by h.nat l.nat c)
structure Mx where
  a : Int
  b : Int
  c : Int
  d : Int
def Mx.D (m : Mx) : Ev.D := .tup [.int m.a, .int m.b, .int m.c, .int m.d]
def Mx.mul (m n : Mx) : Mx := ⟨m.a * n.a + m.b * n.c, m.a * n.b + m.b * n.d, m.c * n.a + m.d * n.c, m.c * n.b + m.d * n.d⟩
structure Mx.S (k : Nat) (m : Mx) : Prop where
  a : Sm k m.a
  b : Sm k m.b
  c : Sm k m.c
  d : Sm k m.d
theorem joined_ok {k : Nat} (m n : Mx) (hm : m.S k) (hn : n.S k) (hk : k ≤ 10000) : sem_joined [m.D, n.D] = M.pure (m.mul n).D := by
  refine pure_of fun S => ?_
  have l : k + k ≤ 134217728 := by omega
  unfold sem_joined
  rw [run_fn]
  refine ⟨rfl, ?_⟩
  show RunS pk_joined.1 [.val m.D, .val n.D, .no, .no, .no, .no, .no, .no, .no, .no] S _ _ _ _
  unfold pk_joined Mx.D
  simp only [run_pure, run_bind, run_ite, run_noErr, run_stuck, runS_next, runS_stuck, runS_seq, runS_ret, runS_par, runS_own, runS_for, runS_if, runS_tgt, runS_expr, setT, tupT, consT, getv, on1, on2, toB_bl, add_int, sub_int, cmp_int, int_int, List.getElem?_cons_zero, List.getElem?_cons_succ, List.set_cons_zero, List.set_cons_succ, List.length_cons, List.length_nil, if_true, reduceIte, Nat.reduceAdd, Nat.reduceEqDiff]
  simp only [mulS hm.a hn.a l, mulS hm.b hn.c l, mulS hm.a hn.b l, mulS hm.b hn.d l, mulS hm.c hn.a l, mulS hm.d hn.c l, mulS hm.c hn.b l, mulS hm.d hn.d l]
  simp only [run_pure, run_bind, run_ite, run_noErr, run_stuck, runS_next, runS_stuck, runS_seq, runS_ret, runS_par, runS_own, runS_for, runS_if, runS_tgt, runS_expr, setT, tupT, consT, getv, on1, on2, toB_bl, add_int, sub_int, cmp_int, int_int, List.getElem?_cons_zero, List.getElem?_cons_succ, List.set_cons_zero, List.set_cons_succ, List.length_cons, List.length_nil, if_true, reduceIte, Nat.reduceAdd, Nat.reduceEqDiff]
  exact ⟨rfl, trivial⟩
structure Pc where
  rail : Bool
  o : Int
def Pc.ok (p : Pc) : Prop := 1 ≤ p.o ∧ p.o ≤ 12
def Pc.w (p : Pc) : Str := if p.rail then "rail" else "rung"
def Pc.D (p : Pc) : Ev.D := .tup [.str p.w, .int p.o]
def Pc.m (p : Pc) : Mx := if p.rail then ⟨1, p.o, 0, 1⟩ else ⟨p.o, 0, 1, p.o⟩
def rowD (r : List Pc) : Ev.D := .tup (r.map Pc.D)
theorem Pc.sm {p : Pc} (h : p.ok) : Sm 4 p.o := ⟨by have := h.1; omega, by have := h.2; show p.o < 16; omega⟩
theorem Pc.ms {p : Pc} (h : p.ok) : p.m.S 4 := by
  have s := Pc.sm h
  have z : Sm 4 0 := ⟨by decide, by decide⟩
  have u : Sm 4 1 := ⟨by decide, by decide⟩
  unfold Pc.m
  split
  · exact ⟨u, s, z, u⟩
  · exact ⟨s, z, u, s⟩
theorem Mx.S.mul {j k : Nat} {m n : Mx} (h : m.S j) (l : n.S k) : (m.mul n).S (j + k + 1) :=
  ⟨(h.a.mul l.a).add (h.b.mul l.c), (h.a.mul l.b).add (h.b.mul l.d), (h.c.mul l.a).add (h.d.mul l.c), (h.c.mul l.b).add (h.d.mul l.d)⟩
theorem Mx.S.mono {j k : Nat} {m : Mx} (h : m.S j) (l : j ≤ k) : m.S k := ⟨h.a.mono l, h.b.mono l, h.c.mono l, h.d.mono l⟩
def chainM : Mx → Int → List Pc → Mx × Int
  | m, t, [] => (m, t)
  | m, t, p :: r => chainM (m.mul p.m) (if p.rail then t else t * p.o) r
def one : Mx := ⟨1, 0, 0, 1⟩
theorem eq_str (x y : Str) : dEq false (.str x) (.str y) = M.pure (.bl (decide (x = y))) := rfl
theorem rail_eq : decide (("rail" : Str) = "rail") = true := by decide
theorem rung_ne : decide (("rung" : Str) = "rail") = false := by decide
theorem chain_ok (r : List Pc) (hr : ∀ p ∈ r, p.ok) (hl : r.length ≤ 8) : sem_chain_of [rowD r] = M.pure (.tup [(chainM one 1 r).1.D, .int (chainM one 1 r).2]) := by
  refine pure_of fun S => ?_
  unfold sem_chain_of
  rw [run_fn]
  refine ⟨rfl, ?_⟩
  show RunS pk_chain_of.1 [.val (rowD r), .no, .no, .no, .no] S _ _ _ _
  unfold pk_chain_of rowD
  simp only [run_pure, run_bind, run_ite, run_noErr, run_stuck, runS_next, runS_stuck, runS_seq, runS_ret, runS_par, runS_own, runS_for, runS_if, runS_tgt, runS_expr, setT, tupT, consT, getv, on1, on2, toB_bl, add_int, sub_int, cmp_int, int_int, List.getElem?_cons_zero, List.getElem?_cons_succ, List.set_cons_zero, List.set_cons_succ, List.length_cons, List.length_nil, if_true, reduceIte, Nat.reduceAdd, Nat.reduceEqDiff]
  unfold seqOf
  simp only [run_pure, run_bind, run_ite, run_noErr, run_stuck, runS_next, runS_stuck, runS_seq, runS_ret, runS_par, runS_own, runS_for, runS_if, runS_tgt, runS_expr, setT, tupT, consT, getv, on1, on2, toB_bl, add_int, sub_int, cmp_int, int_int, List.getElem?_cons_zero, List.getElem?_cons_succ, List.set_cons_zero, List.set_cons_succ, List.length_cons, List.length_nil, if_true, reduceIte, Nat.reduceAdd, Nat.reduceEqDiff]
  refine loop_rule (J := fun ds sd S' => S' = S ∧ ∃ (r' : List Pc) (m : Mx) (t : Int) (k : Nat) (u v : SV), ds = r'.map Pc.D ∧ sd = [.val (.tup (r.map Pc.D)), .val m.D, .val (.int t), u, v] ∧ chainM m t r' = chainM one 1 r ∧ m.S k ∧ Sm k t ∧ k + 5 * r'.length ≤ 100 ∧ ∀ p ∈ r', p.ok) ?_ ?_ _ _ _ ?_
  · rintro d ds sd S' ⟨rfl, r', m, t, k, u, v, e, rfl, ch, hm, ht, hk, ho⟩
    rcases r' with _ | ⟨p, r'⟩
    · cases e
    rw [List.map_cons] at e
    cases e
    have hp := ho p List.mem_cons_self
    have hk : k + 5 * (r'.length + 1) ≤ 100 := by simpa using hk
    refine ⟨_, _, rfl, ?_⟩
    have jm := joined_ok m p.m (hm.mono (by omega : k ≤ k + 4)) ((Pc.ms hp).mono (by omega : 4 ≤ k + 4)) (by omega)
    have hm2 : (m.mul p.m).S (k + 5) := hm.mul (Pc.ms hp)
    have hr2 : ∀ q ∈ r', q.ok := fun q hq => ho q (List.mem_cons_of_mem _ hq)
    rcases p with ⟨_ | _, o⟩
    · simp only [run_pure, run_bind, run_ite, run_noErr, run_stuck, runS_next, runS_stuck, runS_seq, runS_ret, runS_par, runS_own, runS_for, runS_if, runS_tgt, runS_expr, setT, tupT, consT, getv, on1, on2, toB_bl, add_int, sub_int, cmp_int, int_int, List.getElem?_cons_zero, List.getElem?_cons_succ, List.set_cons_zero, List.set_cons_succ, List.length_cons, List.length_nil, if_true, reduceIte, Nat.reduceAdd, Nat.reduceEqDiff]
      simp only [eq_str, Pc.w, Bool.false_eq_true, if_false, rung_ne]
      simp only [run_pure, run_bind, run_ite, run_noErr, run_stuck, runS_next, runS_stuck, runS_seq, runS_ret, runS_par, runS_own, runS_for, runS_if, runS_tgt, runS_expr, setT, tupT, consT, getv, on1, on2, toB_bl, add_int, sub_int, cmp_int, int_int, List.getElem?_cons_zero, List.getElem?_cons_succ, List.set_cons_zero, List.set_cons_succ, List.length_cons, List.length_nil, if_true, reduceIte, Nat.reduceAdd, Nat.reduceEqDiff]
      rw [if_neg Bool.false_ne_true]
      have jm : sem_joined [m.D, .tup [.int o, .int 0, .int 1, .int o]] = M.pure (m.mul (Pc.m ⟨false, o⟩)).D := jm
      have so : Sm 4 o := Pc.sm hp
      rw [jm]
      simp only [run_pure, run_bind, run_ite, run_noErr, run_stuck, runS_next, runS_stuck, runS_seq, runS_ret, runS_par, runS_own, runS_for, runS_if, runS_tgt, runS_expr, setT, tupT, consT, getv, on1, on2, toB_bl, add_int, sub_int, cmp_int, int_int, List.getElem?_cons_zero, List.getElem?_cons_succ, List.set_cons_zero, List.set_cons_succ, List.length_cons, List.length_nil, if_true, reduceIte, Nat.reduceAdd, Nat.reduceEqDiff]
      rw [mulS ht so (by omega)]
      simp only [run_pure, run_bind, run_ite, run_noErr, run_stuck, runS_next, runS_stuck, runS_seq, runS_ret, runS_par, runS_own, runS_for, runS_if, runS_tgt, runS_expr, setT, tupT, consT, getv, on1, on2, toB_bl, add_int, sub_int, cmp_int, int_int, List.getElem?_cons_zero, List.getElem?_cons_succ, List.set_cons_zero, List.set_cons_succ, List.length_cons, List.length_nil, if_true, reduceIte, Nat.reduceAdd, Nat.reduceEqDiff]
      exact ⟨trivial, r', _, _, k + 5, _, _, rfl, rfl, ch, hm2, (ht.mul so).mono (by omega), by omega, hr2⟩
    · simp only [run_pure, run_bind, run_ite, run_noErr, run_stuck, runS_next, runS_stuck, runS_seq, runS_ret, runS_par, runS_own, runS_for, runS_if, runS_tgt, runS_expr, setT, tupT, consT, getv, on1, on2, toB_bl, add_int, sub_int, cmp_int, int_int, List.getElem?_cons_zero, List.getElem?_cons_succ, List.set_cons_zero, List.set_cons_succ, List.length_cons, List.length_nil, if_true, reduceIte, Nat.reduceAdd, Nat.reduceEqDiff]
      simp only [eq_str, Pc.w, if_true, rail_eq]
      simp only [run_pure, run_bind, run_ite, run_noErr, run_stuck, runS_next, runS_stuck, runS_seq, runS_ret, runS_par, runS_own, runS_for, runS_if, runS_tgt, runS_expr, setT, tupT, consT, getv, on1, on2, toB_bl, add_int, sub_int, cmp_int, int_int, List.getElem?_cons_zero, List.getElem?_cons_succ, List.set_cons_zero, List.set_cons_succ, List.length_cons, List.length_nil, if_true, reduceIte, Nat.reduceAdd, Nat.reduceEqDiff]
      rw [if_pos (decide_eq_true trivial)]
      have jm : sem_joined [m.D, .tup [.int 1, .int o, .int 0, .int 1]] = M.pure (m.mul (Pc.m ⟨true, o⟩)).D := jm
      rw [jm]
      simp only [run_pure, run_bind, run_ite, run_noErr, run_stuck, runS_next, runS_stuck, runS_seq, runS_ret, runS_par, runS_own, runS_for, runS_if, runS_tgt, runS_expr, setT, tupT, consT, getv, on1, on2, toB_bl, add_int, sub_int, cmp_int, int_int, List.getElem?_cons_zero, List.getElem?_cons_succ, List.set_cons_zero, List.set_cons_succ, List.length_cons, List.length_nil, if_true, reduceIte, Nat.reduceAdd, Nat.reduceEqDiff]
      exact ⟨trivial, r', _, _, k + 5, _, _, rfl, rfl, ch, hm2, ht.mono (by omega), by omega, hr2⟩
  · rintro sd S' ⟨rfl, r', m, t, k, u, v, e, rfl, ch, hm, ht, hk, ho⟩
    rcases r' with _ | ⟨p, r'⟩
    · simp only [run_pure, run_bind, run_ite, run_noErr, run_stuck, runS_next, runS_stuck, runS_seq, runS_ret, runS_par, runS_own, runS_for, runS_if, runS_tgt, runS_expr, setT, tupT, consT, getv, on1, on2, toB_bl, add_int, sub_int, cmp_int, int_int, List.getElem?_cons_zero, List.getElem?_cons_succ, List.set_cons_zero, List.set_cons_succ, List.length_cons, List.length_nil, if_true, reduceIte, Nat.reduceAdd, Nat.reduceEqDiff]
      have ch : (m, t) = chainM one 1 r := ch
      rw [← ch]
      exact ⟨rfl, trivial⟩
    · cases e
  · exact ⟨rfl, r, one, 1, 1, _, _, rfl, rfl, rfl, ⟨⟨by decide, by decide⟩, ⟨by decide, by decide⟩, ⟨by decide, by decide⟩, ⟨by decide, by decide⟩⟩, ⟨by decide, by decide⟩, by omega, hr⟩
theorem led_ok {k : Nat} (m : Mx) (t b : Int) (hm : m.S k) (ht : Sm k t) (hb : Sm k b) (hk : k ≤ 10000) : sem_led [m.D, .tup [.int t, .int b]] = M.pure (.tup [.int (m.a * t + m.b * b), .int (m.c * t + m.d * b)]) := by
  refine pure_of fun S => ?_
  have l : k + k ≤ 134217728 := by omega
  unfold sem_led
  rw [run_fn]
  refine ⟨rfl, ?_⟩
  show RunS pk_led.1 [.val m.D, .val (.tup [.int t, .int b]), .no, .no, .no, .no] S _ _ _ _
  unfold pk_led Mx.D
  have i0 : dIx (.tup [.int t, .int b]) (.int 0) = M.pure (.int t) := ix_tup rfl
  have i1 : dIx (.tup [.int t, .int b]) (.int 1) = M.pure (.int b) := ix_tup rfl
  simp only [run_pure, run_bind, run_ite, run_noErr, run_stuck, runS_next, runS_stuck, runS_seq, runS_ret, runS_par, runS_own, runS_for, runS_if, runS_tgt, runS_expr, setT, tupT, consT, getv, on1, on2, toB_bl, add_int, sub_int, cmp_int, int_int, List.getElem?_cons_zero, List.getElem?_cons_succ, List.set_cons_zero, List.set_cons_succ, List.length_cons, List.length_nil, if_true, reduceIte, Nat.reduceAdd, Nat.reduceEqDiff]
  simp only [i0, i1]
  simp only [run_pure, run_bind, run_ite, run_noErr, run_stuck, runS_next, runS_stuck, runS_seq, runS_ret, runS_par, runS_own, runS_for, runS_if, runS_tgt, runS_expr, setT, tupT, consT, getv, on1, on2, toB_bl, add_int, sub_int, cmp_int, int_int, List.getElem?_cons_zero, List.getElem?_cons_succ, List.set_cons_zero, List.set_cons_succ, List.length_cons, List.length_nil, if_true, reduceIte, Nat.reduceAdd, Nat.reduceEqDiff]
  simp only [mulS hm.a ht l, mulS hm.b hb l, mulS hm.c ht l, mulS hm.d hb l]
  simp only [run_pure, run_bind, run_ite, run_noErr, run_stuck, runS_next, runS_stuck, runS_seq, runS_ret, runS_par, runS_own, runS_for, runS_if, runS_tgt, runS_expr, setT, tupT, consT, getv, on1, on2, toB_bl, add_int, sub_int, cmp_int, int_int, List.getElem?_cons_zero, List.getElem?_cons_succ, List.set_cons_zero, List.set_cons_succ, List.length_cons, List.length_nil, if_true, reduceIte, Nat.reduceAdd, Nat.reduceEqDiff]
  exact ⟨trivial, trivial⟩
def Mx.top (m : Mx) (t b : Int) : Int := m.a * t + m.b * b
def Mx.bot (m : Mx) (t b : Int) : Int := m.c * t + m.d * b
theorem shown_ok {k : Nat} (m : Mx) (t b : Int) (hm : m.S k) (ht : Sm k t) (hb : Sm k b) (hk : k ≤ 400) (h0 : 0 < m.top t b + m.bot t b) : sem_shown [m.D, .tup [.int t, .int b]] = M.pure (.tup [.int (lowT (m.top t b) (m.bot t b)), .int (lowB (m.top t b) (m.bot t b))]) := by
  refine pure_of fun S => ?_
  have s1 : Sm 1000 (m.top t b) := ((hm.a.mul ht).add (hm.b.mul hb)).mono (by omega)
  have s2 : Sm 1000 (m.bot t b) := ((hm.c.mul ht).add (hm.d.mul hb)).mono (by omega)
  have lo := lowest_ok (m.top t b) (m.bot t b) s1.1 s2.1 h0 s1.2 s2.2
  unfold sem_shown
  rw [run_fn]
  refine ⟨rfl, ?_⟩
  show RunS pk_shown.1 [.val m.D, .val (.tup [.int t, .int b]), .no, .no] S _ _ _ _
  unfold pk_shown
  simp only [run_pure, run_bind, run_ite, run_noErr, run_stuck, runS_next, runS_stuck, runS_seq, runS_ret, runS_par, runS_own, runS_for, runS_if, runS_tgt, runS_expr, setT, tupT, consT, getv, on1, on2, toB_bl, add_int, sub_int, cmp_int, int_int, List.getElem?_cons_zero, List.getElem?_cons_succ, List.set_cons_zero, List.set_cons_succ, List.length_cons, List.length_nil, if_true, reduceIte, Nat.reduceAdd, Nat.reduceEqDiff]
  simp only [led_ok m t b hm ht hb (by omega)]
  simp only [run_pure, run_bind, run_ite, run_noErr, run_stuck, runS_next, runS_stuck, runS_seq, runS_ret, runS_par, runS_own, runS_for, runS_if, runS_tgt, runS_expr, setT, tupT, consT, getv, on1, on2, toB_bl, add_int, sub_int, cmp_int, int_int, List.getElem?_cons_zero, List.getElem?_cons_succ, List.set_cons_zero, List.set_cons_succ, List.length_cons, List.length_nil, if_true, reduceIte, Nat.reduceAdd, Nat.reduceEqDiff]
  have lo : sem_lowest [.int (m.a * t + m.b * b), .int (m.c * t + m.d * b)] = _ := lo
  simp only [lo]
  simp only [run_pure, run_bind, run_ite, run_noErr, run_stuck, runS_next, runS_stuck, runS_seq, runS_ret, runS_par, runS_own, runS_for, runS_if, runS_tgt, runS_expr, setT, tupT, consT, getv, on1, on2, toB_bl, add_int, sub_int, cmp_int, int_int, List.getElem?_cons_zero, List.getElem?_cons_succ, List.set_cons_zero, List.set_cons_succ, List.length_cons, List.length_nil, if_true, reduceIte, Nat.reduceAdd, Nat.reduceEqDiff]
  exact ⟨trivial, trivial⟩
theorem isa_int_int (kn : Nat → Bool) (sb : Nat → Nat → Option Bool) (i : Int) : dIsa kn sb (.int i) (.ty .int) = M.pure (.bl true) := rfl
theorem isa_int_bool (kn : Nat → Bool) (sb : Nat → Nat → Option Bool) (i : Int) : dIsa kn sb (.int i) (.ty .bool) = M.pure (.bl false) := rfl
theorem isa_int_tup (kn : Nat → Bool) (sb : Nat → Nat → Option Bool) (i : Int) : dIsa kn sb (.int i) (.ty .tuple) = M.pure (.bl false) := rfl
theorem isa_tup_tup (kn : Nat → Bool) (sb : Nat → Nat → Option Bool) (ds : List D) : dIsa kn sb (.tup ds) (.ty .tuple) = M.pure (.bl true) := rfl
theorem isa_str_str (kn : Nat → Bool) (sb : Nat → Nat → Option Bool) (x : Str) : dIsa kn sb (.str x) (.ty .str) = M.pure (.bl true) := rfl
theorem is_integer_ok (i : Int) : sem_is_integer [.int i] = M.pure (.bl true) := by
  refine pure_of fun S => ?_
  unfold sem_is_integer
  rw [run_fn]
  refine ⟨rfl, ?_⟩
  show RunS pk_is_integer.1 [.val (.int i)] S _ _ _ _
  unfold pk_is_integer
  simp only [run_pure, run_bind, run_ite, run_noErr, run_stuck, runS_next, runS_stuck, runS_seq, runS_ret, runS_par, runS_own, runS_for, runS_if, runS_tgt, runS_expr, setT, tupT, consT, getv, on1, on2, toB_bl, add_int, sub_int, cmp_int, int_int, List.getElem?_cons_zero, List.getElem?_cons_succ, List.set_cons_zero, List.set_cons_succ, List.length_cons, List.length_nil, if_true, reduceIte, Nat.reduceAdd, Nat.reduceEqDiff]
  simp only [isa_int_int, isa_int_bool]
  simp only [run_pure, run_bind, run_ite, run_noErr, run_stuck, runS_next, runS_stuck, runS_seq, runS_ret, runS_par, runS_own, runS_for, runS_if, runS_tgt, runS_expr, setT, tupT, consT, getv, on1, on2, toB_bl, add_int, sub_int, cmp_int, int_int, List.getElem?_cons_zero, List.getElem?_cons_succ, List.set_cons_zero, List.set_cons_succ, List.length_cons, List.length_nil, if_true, reduceIte, Nat.reduceAdd, Nat.reduceEqDiff]
  simp
theorem len_tup (ds : List D) : dLen (.tup ds) = M.pure (.int ds.length) := rfl
theorem eq_int (i j : Int) : dEq false (.int i) (.int j) = M.pure (.bl (decide (i = j))) := rfl
theorem ne_int (i j : Int) : dEq true (.int i) (.int j) = M.pure (.bl (!decide (i = j))) := rfl
def LoadT (t b : Int) : Prop := 0 ≤ t ∧ t ≤ 10 ^ 12 ∧ 0 ≤ b ∧ b ≤ 10 ^ 12 ∧ (b = 0 → t = 1)
theorem is_fraction_tup (t b : Int) (h : LoadT t b) : sem_is_fraction [.tup [.int t, .int b]] = M.pure (.bl (decide (1 ≤ b))) := by
  refine pure_of fun S => ?_
  have i0 : dIx (.tup [.int t, .int b]) (.int 0) = M.pure (.int t) := ix_tup rfl
  have i1 : dIx (.tup [.int t, .int b]) (.int 1) = M.pure (.int b) := ix_tup rfl
  unfold sem_is_fraction
  rw [run_fn]
  refine ⟨rfl, ?_⟩
  show RunS pk_is_fraction.1 [.val (.tup [.int t, .int b])] S _ _ _ _
  unfold pk_is_fraction
  simp only [run_pure, run_bind, run_ite, run_noErr, run_stuck, runS_next, runS_stuck, runS_seq, runS_ret, runS_par, runS_own, runS_for, runS_if, runS_tgt, runS_expr, setT, tupT, consT, getv, on1, on2, toB_bl, add_int, sub_int, cmp_int, int_int, List.getElem?_cons_zero, List.getElem?_cons_succ, List.set_cons_zero, List.set_cons_succ, List.length_cons, List.length_nil, if_true, reduceIte, Nat.reduceAdd, Nat.reduceEqDiff]
  have e2 : ([D.int t, D.int b].length : Int) = 2 := rfl
  simp only [run_pure, run_bind, run_ite, run_noErr, run_stuck, runS_next, runS_stuck, runS_seq, runS_ret, runS_par, runS_own, runS_for, runS_if, runS_tgt, runS_expr, setT, tupT, consT, getv, on1, on2, toB_bl, add_int, sub_int, cmp_int, int_int, List.getElem?_cons_zero, List.getElem?_cons_succ, List.set_cons_zero, List.set_cons_succ, List.length_cons, List.length_nil, if_true, reduceIte, Nat.reduceAdd, Nat.reduceEqDiff, Bool.not_true, Bool.not_false, Bool.false_eq_true, if_false, decide_true, decide_false, Bool.true_eq_false, and_true, true_and, isa_tup_tup, len_tup, eq_int, is_integer_ok, i0, i1, e2]
  have h0 : decide ((0 : Int) ≤ t) = true := decide_eq_true h.1
  simp only [h0, if_true]
  trivial
theorem eq_open : dEq false (.tup [.int 1, .int 0]) (.tup [.int 1, .int 0]) = M.pure (.bl true) := by
  with_unfolding_all rfl
theorem is_number_tup (t b : Int) (h : LoadT t b) : sem_is_number [.tup [.int t, .int b]] = M.pure (.bl true) := by
  refine pure_of fun S => ?_
  have i0 : dIx (.tup [.int t, .int b]) (.int 0) = M.pure (.int t) := ix_tup rfl
  have i1 : dIx (.tup [.int t, .int b]) (.int 1) = M.pure (.int b) := ix_tup rfl
  unfold sem_is_number
  rw [run_fn]
  refine ⟨rfl, ?_⟩
  show RunS pk_is_number.1 [.val (.tup [.int t, .int b])] S _ _ _ _
  unfold pk_is_number
  have e2 : ([D.int t, D.int b].length : Int) = 2 := rfl
  by_cases hb : 1 ≤ b
  · have hd : decide (1 ≤ b) = true := decide_eq_true hb
    simp only [run_pure, run_bind, run_ite, run_noErr, run_stuck, runS_next, runS_stuck, runS_seq, runS_ret, runS_par, runS_own, runS_for, runS_if, runS_tgt, runS_expr, setT, tupT, consT, getv, on1, on2, toB_bl, add_int, sub_int, cmp_int, int_int, List.getElem?_cons_zero, List.getElem?_cons_succ, List.set_cons_zero, List.set_cons_succ, List.length_cons, List.length_nil, if_true, reduceIte, Nat.reduceAdd, Nat.reduceEqDiff, Bool.not_true, Bool.not_false, Bool.false_eq_true, if_false, decide_true, decide_false, Bool.true_eq_false, and_true, true_and, is_fraction_tup t b h, hd]
  · have hd : decide (1 ≤ b) = false := decide_eq_false hb
    have b0 : b = 0 := by have := h.2.2.1; omega
    have t1 : t = 1 := h.2.2.2.2 b0
    subst b0 t1
    simp only [run_pure, run_bind, run_ite, run_noErr, run_stuck, runS_next, runS_stuck, runS_seq, runS_ret, runS_par, runS_own, runS_for, runS_if, runS_tgt, runS_expr, setT, tupT, consT, getv, on1, on2, toB_bl, add_int, sub_int, cmp_int, int_int, List.getElem?_cons_zero, List.getElem?_cons_succ, List.set_cons_zero, List.set_cons_succ, List.length_cons, List.length_nil, if_true, reduceIte, Nat.reduceAdd, Nat.reduceEqDiff, Bool.not_true, Bool.not_false, Bool.false_eq_true, if_false, decide_true, decide_false, Bool.true_eq_false, and_true, true_and, is_fraction_tup 1 0 h, hd, isa_tup_tup, len_tup, ne_int, is_integer_ok, i0, i1, e2, eq_open]
    trivial
theorem is_resistance_tup (t b : Int) (h : LoadT t b) : sem_is_resistance [.tup [.int t, .int b]] = M.pure (.bl true) := by
  refine pure_of fun S => ?_
  have i0 : dIx (.tup [.int t, .int b]) (.int 0) = M.pure (.int t) := ix_tup rfl
  have i1 : dIx (.tup [.int t, .int b]) (.int 1) = M.pure (.int b) := ix_tup rfl
  unfold sem_is_resistance
  rw [run_fn]
  refine ⟨rfl, ?_⟩
  show RunS pk_is_resistance.1 [.val (.tup [.int t, .int b])] S _ _ _ _
  unfold pk_is_resistance
  have h1 : decide (t ≤ 1000000000000) = true := decide_eq_true h.2.1
  have h2 : decide (b ≤ 1000000000000) = true := decide_eq_true h.2.2.2.1
  simp only [run_pure, run_bind, run_ite, run_noErr, run_stuck, runS_next, runS_stuck, runS_seq, runS_ret, runS_par, runS_own, runS_for, runS_if, runS_tgt, runS_expr, setT, tupT, consT, getv, on1, on2, toB_bl, add_int, sub_int, cmp_int, int_int, List.getElem?_cons_zero, List.getElem?_cons_succ, List.set_cons_zero, List.set_cons_succ, List.length_cons, List.length_nil, if_true, reduceIte, Nat.reduceAdd, Nat.reduceEqDiff, Bool.not_true, Bool.not_false, Bool.false_eq_true, if_false, decide_true, decide_false, Bool.true_eq_false, and_true, true_and, is_number_tup t b h, isa_tup_tup, i0, i1, h1, h2]
theorem check_tup (t b : Int) (h : LoadT t b) : sem_check_resistance [.tup [.int t, .int b]] = M.pure .non := by
  refine pure_of fun S => ?_
  unfold sem_check_resistance
  rw [run_fn]
  refine ⟨rfl, ?_⟩
  show RunS pk_check_resistance.1 [.val (.tup [.int t, .int b])] S _ _ _ _
  unfold pk_check_resistance
  simp only [run_pure, run_bind, run_ite, run_noErr, run_stuck, runS_next, runS_stuck, runS_seq, runS_ret, runS_par, runS_own, runS_for, runS_if, runS_tgt, runS_expr, setT, tupT, consT, getv, on1, on2, toB_bl, add_int, sub_int, cmp_int, int_int, List.getElem?_cons_zero, List.getElem?_cons_succ, List.set_cons_zero, List.set_cons_succ, List.length_cons, List.length_nil, if_true, reduceIte, Nat.reduceAdd, Nat.reduceEqDiff, Bool.not_true, Bool.not_false, Bool.false_eq_true, if_false, decide_true, decide_false, Bool.true_eq_false, and_true, true_and, is_resistance_tup t b h]
theorem is_fraction_int (n : Int) (h : 0 ≤ n) : sem_is_fraction [.int n] = M.pure (.bl true) := by
  refine pure_of fun S => ?_
  unfold sem_is_fraction
  rw [run_fn]
  refine ⟨rfl, ?_⟩
  show RunS pk_is_fraction.1 [.val (.int n)] S _ _ _ _
  unfold pk_is_fraction
  have h1 : decide (0 ≤ n) = true := decide_eq_true h
  simp only [run_pure, run_bind, run_ite, run_noErr, run_stuck, runS_next, runS_stuck, runS_seq, runS_ret, runS_par, runS_own, runS_for, runS_if, runS_tgt, runS_expr, setT, tupT, consT, getv, on1, on2, toB_bl, add_int, sub_int, cmp_int, int_int, List.getElem?_cons_zero, List.getElem?_cons_succ, List.set_cons_zero, List.set_cons_succ, List.length_cons, List.length_nil, if_true, reduceIte, Nat.reduceAdd, Nat.reduceEqDiff, Bool.not_true, Bool.not_false, Bool.false_eq_true, if_false, decide_true, decide_false, Bool.true_eq_false, and_true, true_and, isa_int_tup, is_integer_ok, h1]
theorem is_resistance_int (n : Int) (h : 0 ≤ n) (h2 : n ≤ 10 ^ 12) : sem_is_resistance [.int n] = M.pure (.bl true) := by
  refine pure_of fun S => ?_
  have num : sem_is_number [.int n] = M.pure (.bl true) := by
    refine pure_of fun S => ?_
    unfold sem_is_number
    rw [run_fn]
    refine ⟨rfl, ?_⟩
    show RunS pk_is_number.1 [.val (.int n)] S _ _ _ _
    unfold pk_is_number
    simp only [run_pure, run_bind, run_ite, run_noErr, run_stuck, runS_next, runS_stuck, runS_seq, runS_ret, runS_par, runS_own, runS_for, runS_if, runS_tgt, runS_expr, setT, tupT, consT, getv, on1, on2, toB_bl, add_int, sub_int, cmp_int, int_int, List.getElem?_cons_zero, List.getElem?_cons_succ, List.set_cons_zero, List.set_cons_succ, List.length_cons, List.length_nil, if_true, reduceIte, Nat.reduceAdd, Nat.reduceEqDiff, Bool.not_true, Bool.not_false, Bool.false_eq_true, if_false, decide_true, decide_false, Bool.true_eq_false, and_true, true_and, is_fraction_int n h]
  unfold sem_is_resistance
  rw [run_fn]
  refine ⟨rfl, ?_⟩
  show RunS pk_is_resistance.1 [.val (.int n)] S _ _ _ _
  unfold pk_is_resistance
  have h1 : decide (n ≤ 1000000000000) = true := decide_eq_true h2
  simp only [run_pure, run_bind, run_ite, run_noErr, run_stuck, runS_next, runS_stuck, runS_seq, runS_ret, runS_par, runS_own, runS_for, runS_if, runS_tgt, runS_expr, setT, tupT, consT, getv, on1, on2, toB_bl, add_int, sub_int, cmp_int, int_int, List.getElem?_cons_zero, List.getElem?_cons_succ, List.set_cons_zero, List.set_cons_succ, List.length_cons, List.length_nil, if_true, reduceIte, Nat.reduceAdd, Nat.reduceEqDiff, Bool.not_true, Bool.not_false, Bool.false_eq_true, if_false, decide_true, decide_false, Bool.true_eq_false, and_true, true_and, num, isa_int_tup, h1]
theorem check_int (n : Int) (h : 0 ≤ n) (h2 : n ≤ 10 ^ 12) : sem_check_resistance [.int n] = M.pure .non := by
  refine pure_of fun S => ?_
  unfold sem_check_resistance
  rw [run_fn]
  refine ⟨rfl, ?_⟩
  show RunS pk_check_resistance.1 [.val (.int n)] S _ _ _ _
  unfold pk_check_resistance
  simp only [run_pure, run_bind, run_ite, run_noErr, run_stuck, runS_next, runS_stuck, runS_seq, runS_ret, runS_par, runS_own, runS_for, runS_if, runS_tgt, runS_expr, setT, tupT, consT, getv, on1, on2, toB_bl, add_int, sub_int, cmp_int, int_int, List.getElem?_cons_zero, List.getElem?_cons_succ, List.set_cons_zero, List.set_cons_succ, List.length_cons, List.length_nil, if_true, reduceIte, Nat.reduceAdd, Nat.reduceEqDiff, Bool.not_true, Bool.not_false, Bool.false_eq_true, if_false, decide_true, decide_false, Bool.true_eq_false, and_true, true_and, is_resistance_int n h h2]
theorem pair_of_int (n : Int) : sem_pair_of [.int n] = M.pure (.tup [.int n, .int 1]) := by
  refine pure_of fun S => ?_
  unfold sem_pair_of
  rw [run_fn]
  refine ⟨rfl, ?_⟩
  show RunS pk_pair_of.1 [.val (.int n)] S _ _ _ _
  unfold pk_pair_of
  simp only [run_pure, run_bind, run_ite, run_noErr, run_stuck, runS_next, runS_stuck, runS_seq, runS_ret, runS_par, runS_own, runS_for, runS_if, runS_tgt, runS_expr, setT, tupT, consT, getv, on1, on2, toB_bl, add_int, sub_int, cmp_int, int_int, List.getElem?_cons_zero, List.getElem?_cons_succ, List.set_cons_zero, List.set_cons_succ, List.length_cons, List.length_nil, if_true, reduceIte, Nat.reduceAdd, Nat.reduceEqDiff, Bool.not_true, Bool.not_false, Bool.false_eq_true, if_false, decide_true, decide_false, Bool.true_eq_false, and_true, true_and, isa_int_tup]
theorem pair_of_tup (t b : Int) (ht : 0 ≤ t) (hb : 0 ≤ b) (h : 0 < t + b) (st : t < 2 ^ 1000) (sb : b < 2 ^ 1000) : sem_pair_of [.tup [.int t, .int b]] = M.pure (.tup [.int (lowT t b), .int (lowB t b)]) := by
  refine pure_of fun S => ?_
  have i0 : dIx (.tup [.int t, .int b]) (.int 0) = M.pure (.int t) := ix_tup rfl
  have i1 : dIx (.tup [.int t, .int b]) (.int 1) = M.pure (.int b) := ix_tup rfl
  unfold sem_pair_of
  rw [run_fn]
  refine ⟨rfl, ?_⟩
  show RunS pk_pair_of.1 [.val (.tup [.int t, .int b])] S _ _ _ _
  unfold pk_pair_of
  simp only [run_pure, run_bind, run_ite, run_noErr, run_stuck, runS_next, runS_stuck, runS_seq, runS_ret, runS_par, runS_own, runS_for, runS_if, runS_tgt, runS_expr, setT, tupT, consT, getv, on1, on2, toB_bl, add_int, sub_int, cmp_int, int_int, List.getElem?_cons_zero, List.getElem?_cons_succ, List.set_cons_zero, List.set_cons_succ, List.length_cons, List.length_nil, if_true, reduceIte, Nat.reduceAdd, Nat.reduceEqDiff, Bool.not_true, Bool.not_false, Bool.false_eq_true, if_false, decide_true, decide_false, Bool.true_eq_false, and_true, true_and, isa_tup_tup, i0, i1, lowest_ok t b ht hb h st sb]
section
variable {S : List Ob} {c m n : Nat} {ms : MS} {ds : List D} {Q : D → List Ob → Prop} {sd : List SV} {N : List SV → List Ob → Prop} {R : D → List Ob → Prop} {B C : List SV → List Ob → Prop}
theorem run_mkFn : Run (mkFn c m n ms ds) S Q ↔ ds.length + 1 = m ∧ RunS ms (slots n (.own (.ins c []) :: ds.map .val)) S (fun sd S' => match sd[0]? with | some (SV.own (Ob.ins c' es)) => if c' = c then Q (.ins c es) S' else False | _ => False) (fun _ _ => False) (fun _ _ => False) (fun _ _ => False) := by
  unfold Ev.Run mkFn RunS
  by_cases h : ds.length + 1 = m
  · simp only [h, if_true, true_and]
    rcases ms (slots n (.own (.ins c []) :: ds.map .val)) S with _ | ⟨sd | _ | _ | _ | _, S'⟩
    · exact Iff.rfl
    · unfold mkR
      simp only
      rcases sd[0]? with _ | _ | _ | ⟨_ | _ | ⟨c', es⟩⟩
      · exact Iff.rfl
      · exact Iff.rfl
      · exact Iff.rfl
      · exact Iff.rfl
      · exact Iff.rfl
      · simp only
        by_cases e : c' = c
        · rw [if_pos e, if_pos e]
        · rw [if_neg e, if_neg e]
    · exact Iff.rfl
    · exact Iff.rfl
    · exact Iff.rfl
    · exact Iff.rfl
  · simp only [h, if_false, false_and]
theorem runS_setF {i : Nat} {tbl : Nat → Option Nat} {g : List SV → M D} : RunS (setFS i tbl g) sd S N R B C ↔ Run (g sd) S fun d S' => match sd[i]? with
    | some (SV.own (Ob.ins c ds)) => (match tbl c with
      | some j => (match putL ds j d with
        | some es => N (sd.set i (.own (.ins c es))) S'
        | none => False)
      | none => False)
    | _ => False := by
  unfold setFS
  rw [runS_ex]
  unfold Ev.Run
  rcases g sd S with _ | ⟨_ | d, S'⟩
  · exact Iff.rfl
  · exact Iff.rfl
  · unfold RunS
    simp only
    rcases sd[i]? with _ | _ | _ | ⟨_ | _ | ⟨c', es⟩⟩
    · exact Iff.rfl
    · exact Iff.rfl
    · exact Iff.rfl
    · exact Iff.rfl
    · exact Iff.rfl
    · simp only
      rcases tbl c' with _ | j
      · exact Iff.rfl
      · simp only
        rcases putL es j d with _ | es2
        · exact Iff.rfl
        · exact Iff.rfl
end
def patD (r : List Pc) : D := .ins 1 [rowD r, (chainM one 1 r).1.D, .int (chainM one 1 r).2]
theorem row_ok (d : D) : sem_RowX_initX [d] = M.pure (.ins 0 [d]) := by
  refine pure_of fun S => ?_
  unfold sem_RowX_initX
  rw [run_mkFn]
  refine ⟨rfl, ?_⟩
  show RunS pk_RowX_initX.1 [.own (.ins 0 []), .val d] S _ _ _ _
  unfold pk_RowX_initX
  simp only [run_pure, run_bind, run_ite, run_noErr, run_stuck, runS_next, runS_stuck, runS_seq, runS_ret, runS_par, runS_own, runS_for, runS_if, runS_tgt, runS_expr, setT, tupT, consT, getv, on1, on2, toB_bl, add_int, sub_int, cmp_int, int_int, List.getElem?_cons_zero, List.getElem?_cons_succ, List.set_cons_zero, List.set_cons_succ, List.length_cons, List.length_nil, if_true, reduceIte, Nat.reduceAdd, Nat.reduceEqDiff, Bool.not_true, Bool.not_false, Bool.false_eq_true, if_false, decide_true, decide_false, Bool.true_eq_false, and_true, true_and, runS_setF]
  rfl
theorem isa_row (d : D) : dIsa (fun c => decide (c < 2)) (fun a b => if a < 2 ∧ b < 2 then some (decide (a = b)) else none) (.ins 0 [d]) (.cls 0) = M.pure (.bl true) := rfl
theorem attr_told (d : D) : attr (tab [(0, .fld 0)]) (.ins 0 [d]) = M.pure d := rfl
theorem pat_of_row (r : List Pc) (hr : ∀ p ∈ r, p.ok) (hl : r.length ≤ 8) : sem_PatternX_initX [.ins 0 [rowD r]] = M.pure (patD r) := by
  refine pure_of fun S => ?_
  unfold sem_PatternX_initX mkStar
  rw [if_pos (show 1 ≤ [D.ins 0 [rowD r]].length + 1 ∧ [D.ins 0 [rowD r]].length + 1 < 1 + lim from (show 1 ≤ 2 ∧ 2 < 1 + lim by decide))]
  rw [run_mkFn]
  refine ⟨rfl, ?_⟩
  show RunS pk_PatternX_initX.1 [.own (.ins 1 []), .val (.tup [.ins 0 [rowD r]])] S _ _ _ _
  unfold pk_PatternX_initX
  have l1 : ([D.ins 0 [rowD r]].length : Int) = 1 := rfl
  have i0 : dIx (.tup [.ins 0 [rowD r]]) (.int 0) = M.pure (.ins 0 [rowD r]) := ix_tup rfl
  simp only [run_pure, run_bind, run_ite, run_noErr, run_stuck, runS_next, runS_stuck, runS_seq, runS_ret, runS_par, runS_own, runS_for, runS_if, runS_tgt, runS_expr, setT, tupT, consT, getv, on1, on2, toB_bl, add_int, sub_int, cmp_int, int_int, List.getElem?_cons_zero, List.getElem?_cons_succ, List.set_cons_zero, List.set_cons_succ, List.length_cons, List.length_nil, if_true, reduceIte, Nat.reduceAdd, Nat.reduceEqDiff, Bool.not_true, Bool.not_false, Bool.false_eq_true, if_false, decide_true, decide_false, Bool.true_eq_false, and_true, true_and, runS_setF, len_tup, eq_int, l1, i0, isa_row, attr_told]
  rw [if_pos (by decide)]
  show Ev.Run (sem_chain_of [rowD r]) S _
  rw [chain_ok r hr hl]
  exact ⟨rfl, rfl⟩
theorem attr_row (r : List Pc) : attr (tab [(1, .fld 0)]) (patD r) = M.pure (rowD r) := rfl
theorem attr_chain (r : List Pc) : attr (tab [(1, .fld 1)]) (patD r) = M.pure (chainM one 1 r).1.D := rfl
theorem attr_scale (r : List Pc) : attr (tab [(1, .fld 2)]) (patD r) = M.pure (.int (chainM one 1 r).2) := rfl
theorem chain_sm : ∀ (r : List Pc) (m : Mx) (t : Int) (k : Nat), (∀ p ∈ r, p.ok) → m.S k → Sm k t → (chainM m t r).1.S (k + 5 * r.length) ∧ Sm (k + 5 * r.length) (chainM m t r).2
  | [], m, t, k, _, hm, ht => ⟨hm, ht⟩
  | p :: r, m, t, k, hr, hm, ht => by
    have hp := hr p List.mem_cons_self
    have z := chain_sm r (m.mul p.m) (if p.rail then t else t * p.o) (k + 5) (fun q hq => hr q (List.mem_cons_of_mem _ hq)) (hm.mul (Pc.ms hp)) (by
      split
      · exact ht.mono (by omega)
      · exact (ht.mul (Pc.sm hp)).mono (by omega))
    have e : k + 5 * (p :: r).length = k + 5 + 5 * r.length := by rw [List.length_cons]; omega
    rw [e]
    exact z
theorem one_sm : one.S 1 := ⟨⟨by decide, by decide⟩, ⟨by decide, by decide⟩, ⟨by decide, by decide⟩, ⟨by decide, by decide⟩⟩
def Row (r : List Pc) : Prop := (∀ p ∈ r, p.ok) ∧ r.length ≤ 8
theorem Row.sm {r : List Pc} (h : Row r) : (chainM one 1 r).1.S 50 ∧ Sm 50 (chainM one 1 r).2 := by
  have z := chain_sm r one 1 1 h.1 one_sm ⟨by decide, by decide⟩
  have l := h.2
  exact ⟨z.1.mono (by omega), z.2.mono (by omega)⟩
def shows (r : List Pc) (t b : Int) : Int × Int := (lowT ((chainM one 1 r).1.top t b) ((chainM one 1 r).1.bot t b), lowB ((chainM one 1 r).1.top t b) ((chainM one 1 r).1.bot t b))
def pairD (p : Int × Int) : D := .tup [.int p.1, .int p.2]
theorem low_sm {k : Nat} {t b : Int} (ht : Sm k t) (hb : Sm k b) (h : 0 < t + b) : Sm k (lowT t b) ∧ Sm k (lowB t b) := by
  have g0 : 0 < Int.gcd t b := by
    rw [Int.gcd_pos_iff]
    have := ht.1
    have := hb.1
    omega
  have a := Int.ediv_le_self (Int.gcd t b : Int) ht.1
  have b2 := Int.ediv_le_self (Int.gcd t b : Int) hb.1
  have c := Int.ediv_nonneg ht.1 (show (0 : Int) ≤ (Int.gcd t b : Int) by omega)
  have d := Int.ediv_nonneg hb.1 (show (0 : Int) ≤ (Int.gcd t b : Int) by omega)
  exact ⟨⟨c, Int.lt_of_le_of_lt a ht.2⟩, ⟨d, Int.lt_of_le_of_lt b2 hb.2⟩⟩
theorem row_app (r q : List Pc) : dAdd (rowD r) (rowD q) = if r.length + q.length ≤ lim then M.pure (rowD (r ++ q)) else M.stuck := by
  show (if (r.map Pc.D).length + (q.map Pc.D).length ≤ lim then M.pure (D.tup (r.map Pc.D ++ q.map Pc.D)) else M.stuck) = _
  rw [List.length_map, List.length_map, ← List.map_append]
  rfl
theorem isa_pat (r : List Pc) : dIsa (fun c => decide (c < 2)) (fun a b => if a < 2 ∧ b < 2 then some (decide (a = b)) else none) (patD r) (.cls 1) = M.pure (.bl true) := rfl
end K15
set_option maxRecDepth 100000
set_option maxHeartbeats 1000000
namespace K15
open PySem Ev
theorem pc_all {P : Pc → Prop} (h1 : ∀ b, P ⟨b, 1⟩) (h2 : ∀ b, P ⟨b, 2⟩) (h3 : ∀ b, P ⟨b, 3⟩) (h4 : ∀ b, P ⟨b, 4⟩) (h5 : ∀ b, P ⟨b, 5⟩) (h6 : ∀ b, P ⟨b, 6⟩) (h7 : ∀ b, P ⟨b, 7⟩) (h8 : ∀ b, P ⟨b, 8⟩) (h9 : ∀ b, P ⟨b, 9⟩)
    (h10 : ∀ b, P ⟨b, 10⟩) (h11 : ∀ b, P ⟨b, 11⟩) (h12 : ∀ b, P ⟨b, 12⟩) {p : Pc} (h : p.ok) : P p := by
  obtain ⟨b, o⟩ := p
  obtain ⟨l, u⟩ := h
  have l : 1 ≤ o := l
  have u : o ≤ 12 := u
  rcases (by omega : o = 1 ∨ o = 2 ∨ o = 3 ∨ o = 4 ∨ o = 5 ∨ o = 6 ∨ o = 7 ∨ o = 8 ∨ o = 9 ∨ o = 10 ∨ o = 11 ∨ o = 12) with e | e | e | e | e | e | e | e | e | e | e | e <;> subst e
  · exact h1 b
  · exact h2 b
  · exact h3 b
  · exact h4 b
  · exact h5 b
  · exact h6 b
  · exact h7 b
  · exact h8 b
  · exact h9 b
  · exact h10 b
  · exact h11 b
  · exact h12 b
def Pc.text (p : Pc) : Str := p.w ++ " " ++ (toString p.o : String)
theorem piece_read {p : Pc} (h : p.ok) : ∀ S, sem_piece_in [.str p.text] S = some (.ok p.D, S) := by
  intro S
  revert S
  refine pc_all (P := fun p => ∀ S, sem_piece_in [.str p.text] S = some (.ok p.D, S)) ?_ ?_ ?_ ?_ ?_ ?_ ?_ ?_ ?_ ?_ ?_ ?_ h <;> (intro b S; cases b <;> kernel_rfl)
theorem text_len {p : Pc} (h : p.ok) : p.text.length ≤ 7 := by
  refine pc_all (P := fun p => p.text.length ≤ 7) ?_ ?_ ?_ ?_ ?_ ?_ ?_ ?_ ?_ ?_ ?_ ?_ h <;> (intro b; cases b <;> decide +kernel)
theorem text_comma {p : Pc} (h : p.ok) : 44 ∉ p.text.cps.toList := by
  refine pc_all (P := fun p => 44 ∉ p.text.cps.toList) ?_ ?_ ?_ ?_ ?_ ?_ ?_ ?_ ?_ ?_ ?_ ?_ h <;> (intro b; cases b <;> decide +kernel)
theorem comp_map {t : TgP} {tt : List SV → M Bool} {fe : List SV → M D} {sdw : List SV} {g : D → D} : ∀ (ds acc : List D), (∀ d ∈ ds, ∃ sd1, t d sdw = some sd1 ∧ tt sd1 = M.pure true ∧ fe sd1 = M.pure (g d)) → acc.length + ds.length ≤ lim → compS t tt fe sdw ds acc = M.pure (acc ++ ds.map g)
  | [], acc, _, _ => by rw [List.map_nil, List.append_nil]; rfl
  | d :: ds, acc, h, hl => by
    obtain ⟨sd1, e1, e2, e3⟩ := h d List.mem_cons_self
    rw [List.length_cons] at hl
    unfold compS
    rw [e1]
    simp only
    rw [e2, e3]
    show (if acc.length < lim then compS t tt fe sdw ds (acc ++ [g d]) else M.stuck) = _
    rw [if_pos (by omega), comp_map ds (acc ++ [g d]) (fun d hd => h d (List.mem_cons_of_mem _ hd)) (by rw [List.length_append]; simp; omega), List.append_assoc]
    rfl
theorem comp_mapL {α : Type} {t : TgP} {tt : List SV → M Bool} {fe : List SV → M D} {sdw : List SV} {f g : α → D} : ∀ (r : List α) (acc : List D), (∀ x ∈ r, ∃ sd1, t (f x) sdw = some sd1 ∧ tt sd1 = M.pure true ∧ fe sd1 = M.pure (g x)) → acc.length + r.length ≤ lim → compS t tt fe sdw (r.map f) acc = M.pure (acc ++ r.map g)
  | [], acc, _, _ => by rw [List.map_nil, List.map_nil, List.append_nil]; rfl
  | x :: r, acc, h, hl => by
    obtain ⟨sd1, e1, e2, e3⟩ := h x List.mem_cons_self
    rw [List.length_cons] at hl
    rw [List.map_cons]
    unfold compS
    rw [e1]
    simp only
    rw [e2, e3]
    show (if acc.length < lim then compS t tt fe sdw (r.map f) (acc ++ [g x]) else M.stuck) = _
    rw [if_pos (by omega), comp_mapL r (acc ++ [g x]) (fun d hd => h d (List.mem_cons_of_mem _ hd)) (by rw [List.length_append]; simp; omega), List.append_assoc]
    rfl
theorem txts_map : ∀ ys : List Str, txts (ys.map D.str) = some ys
  | [] => rfl
  | y :: ys => by
    rw [List.map_cons]
    unfold txts
    rw [txts_map ys]
    rfl
def rowText (r : List Pc) : Str := Txt.join ", " (r.map Pc.text)
theorem sum_text : ∀ r : List Pc, (∀ p ∈ r, p.ok) → ((r.map Pc.text).map (·.length)).sum ≤ 7 * r.length
  | [], _ => Nat.le_refl _
  | p :: r, h => by
    have a := text_len (h p List.mem_cons_self)
    have b := sum_text r fun q hq => h q (List.mem_cons_of_mem _ hq)
    rw [List.map_cons, List.map_cons, List.sum_cons, List.length_cons]
    omega
theorem join_row (r : List Pc) (h : Row r) : dJoin ", " (.lst (r.map fun p => D.str p.text)) = M.pure (.str (rowText r)) := by
  have e : (r.map fun p => D.str p.text) = (r.map Pc.text).map D.str := by rw [List.map_map]; rfl
  have l := sum_text r h.1
  have l2 := h.2
  rw [e]
  unfold dJoin
  simp only [txts_map]
  rw [if_pos]
  · rfl
  · have e2 : (", " : Str).length = 2 := by decide
    rw [e2, List.length_map]
    omega
theorem text_made {p : Pc} (h : p.ok) : ∀ S, M.bind (dAdd (.str p.w) (.str " ")) (fun x => M.bind (dStr (.int p.o)) fun y => dAdd x y) S = some (.ok (.str p.text), S) := by
  refine pc_all (P := fun p => ∀ S, M.bind (dAdd (.str p.w) (.str " ")) (fun x => M.bind (dStr (.int p.o)) fun y => dAdd x y) S = some (.ok (.str p.text), S)) ?_ ?_ ?_ ?_ ?_ ?_ ?_ ?_ ?_ ?_ ?_ ?_ h <;> (intro b S; cases b <;> kernel_rfl)
theorem words_ok (r : List Pc) (h : Row r) : sem__law_words [.lst (r.map Pc.D)] = M.pure (.str (rowText r)) := by
  refine pure_of fun S => ?_
  unfold sem__law_words
  rw [run_fn]
  refine ⟨rfl, ?_⟩
  show RunS pk__law_words.1 [.val (.lst (r.map Pc.D)), .no, .no] S _ _ _ _
  unfold pk__law_words
  simp only [runS_seq, runS_ret, run_bind, run_pure, getv, List.getElem?_cons_zero, List.getElem?_cons_succ]
  unfold lcS
  simp only [run_bind, run_pure, getv, List.getElem?_cons_zero, List.getElem?_cons_succ]
  unfold seqOf
  simp only [run_bind, run_pure]
  rw [comp_mapL (g := fun p => D.str p.text)]
  · show Ev.Run (isStr (.str ", ")) S _
    show Ev.Run (dJoin ", " (.lst ([] ++ r.map fun p => D.str p.text))) S _
    rw [List.nil_append, join_row r h]
    exact ⟨rfl, rfl⟩
  · intro p hp
    refine ⟨[.val (.lst (r.map Pc.D)), .val (.str p.w), .val (.int p.o)], rfl, rfl, ?_⟩
    funext S
    exact text_made (h.1 p hp) S
  · have := h.2
    show 0 + r.length ≤ lim
    unfold lim
    omega
theorem row_text_len (r : List Pc) (h : Row r) : (rowText r).length ≤ 1000 := by
  have a := sum_text r h.1
  have b := h.2
  unfold rowText
  rw [TL.join_eq]
  have c := StrLaws.join_length_le ", " (r.map Pc.text)
  have e2 : (", " : Str).length = 2 := by decide
  rw [List.length_map, e2] at c
  omega
theorem split_row (r : List Pc) (h : Row r) (hne : r ≠ []) : dSplit (rowText r) (.str ", ") = M.pure (.lst (r.map fun p => D.str p.text)) := by
  have l := row_text_len r h
  show (if ((", " : Str).length == 0) = false ∧ (rowText r).length + 2 ≤ lim then M.pure (D.lst ((Txt.split (rowText r) ", ").map .str)) else M.stuck) = _
  rw [if_pos ⟨by decide, by unfold lim; omega⟩]
  unfold rowText
  rw [TL.split_join (s := 44) (S := [32]) rfl (by decide +kernel) (by simpa using hne) (fun q hq => by
    obtain ⟨p, hp, rfl⟩ := List.mem_map.mp hq
    exact text_comma (h.1 p hp)), List.map_map]
  rfl
def pP (p : Pc) : PyData := .tuple [.str p.w, .int p.o]
theorem toPs_row : ∀ r : List Pc, toPs (r.map Pc.D) = some (r.map pP)
  | [] => rfl
  | p :: r => by
    rw [List.map_cons, List.map_cons]
    unfold toPs
    rw [toPs_row r]
    rfl
theorem lay_row : ∀ r : List Pc, PyData.canLayAll0 (r.map pP) = true
  | [] => rfl
  | p :: r => by
    rw [List.map_cons]
    unfold PyData.canLayAll0
    rw [lay_row r, Bool.and_true]
    obtain ⟨b, o⟩ := p
    cases b <;> kernel_rfl
theorem depth_row : ∀ r : List Pc, PyData.depthAll (r.map pP) ≤ 1
  | [] => by decide
  | p :: r => by
    rw [List.map_cons]
    unfold PyData.depthAll
    have a := depth_row r
    have b : PyData.depth (pP p) = 1 := rfl
    omega
theorem none_in (r : List Pc) : dIn false .non (.lst (r.map Pc.D)) = M.pure (.bl false) := by
  have sh : SeqAt.shaped (.list (r.map pP)) = true := by
    unfold SeqAt.shaped
    rw [Bool.and_eq_true]
    refine ⟨?_, decide_eq_true ?_⟩
    · unfold PyData.canLay0
      exact lay_row r
    · unfold PyData.depth
      have := depth_row r
      omega
  have none_ : ((r.map pP).any fun z => PyData.eqv z .none) = false := by
    rw [List.any_eq_false]
    intro z hz
    obtain ⟨p, _, rfl⟩ := List.mem_map.mp hz
    unfold pP
    simp [PyData.eqv]
  unfold dIn
  simp only [toPs_row]
  show (match some PyData.none, some (r.map pP) with
    | some p, some ps => if SeqAt.shaped p = true ∧ SeqAt.shaped (.list ps) = true then M.pure (D.bl (if false = true then !(ps.any fun z => PyData.eqv z p) else ps.any fun z => PyData.eqv z p)) else M.stuck
    | _, _ => M.stuck) = _
  simp only
  rw [if_pos ⟨by decide +kernel, sh⟩, none_]
  rfl
theorem len_lst (ds : List D) : dLen (.lst ds) = M.pure (.int ds.length) := rfl
theorem pattern_in_ok (r : List Pc) (h : Row r) (hne : r ≠ []) : sem_pattern_in [.str (rowText r)] = M.pure (patD r) := by
  refine pure_of fun S => ?_
  unfold sem_pattern_in
  rw [run_fn]
  refine ⟨rfl, ?_⟩
  show RunS pk_pattern_in.1 [.val (.str (rowText r)), .no, .no] S _ _ _ _
  unfold pk_pattern_in
  have gt : decide ((8 : Int) < ((r.length : Nat) : Int)) = false := decide_eq_false (by have := h.2; omega)
  have pat := pat_of_row r h.1 h.2
  simp only [runS_seq, runS_tgt, run_bind, run_pure, getv, List.getElem?_cons_zero, List.getElem?_cons_succ]
  unfold lcS
  simp only [run_bind, run_pure, getv, List.getElem?_cons_zero, List.getElem?_cons_succ]
  show Ev.Run (dSplit (rowText r) (.str ", ")) S _
  rw [split_row r h hne]
  simp only [run_bind, run_pure]
  unfold seqOf
  simp only [run_bind, run_pure]
  rw [comp_mapL (g := Pc.D)]
  · simp only [run_pure, setT, List.set_cons_zero, List.set_cons_succ, List.nil_append]
    have tu : dTuple (.lst (r.map Pc.D)) = M.pure (rowD r) := rfl
    have gt2 : decide ((8 : Int) < (((r.map Pc.D).length : Nat) : Int)) = false := by rw [List.length_map]; exact gt
    simp only [runS_if, runS_seq, runS_ret, runS_next, run_bind, run_pure, run_ite, getv, List.getElem?_cons_zero, List.getElem?_cons_succ, none_in r, toB_bl, Bool.false_eq_true, if_false, on1, len_lst, cmp_int, gt2, tu, row_ok, pat]
    trivial
  · intro p hp
    refine ⟨[.val (.str (rowText r)), .no, .val (.str p.text)], rfl, rfl, ?_⟩
    funext S
    exact piece_read (h.1 p hp) S
  · have := h.2
    show 0 + r.length ≤ lim
    unfold lim
    omega
theorem is_pat (r : List Pc) : dIs false (patD r) .non = M.pure (.bl false) := rfl
theorem read_ok (r : List Pc) (h : Row r) (hne : r ≠ []) : sem_Pattern_read [.str (rowText r)] = M.pure (patD r) := by
  refine pure_of fun S => ?_
  unfold sem_Pattern_read
  rw [run_fn]
  refine ⟨rfl, ?_⟩
  show RunS pk_Pattern_read.1 [.val (.str (rowText r)), .no] S _ _ _ _
  unfold pk_Pattern_read
  simp only [runS_seq, runS_tgt, runS_if, runS_ret, runS_next, run_bind, run_pure, run_ite, getv, setT, List.getElem?_cons_zero, List.getElem?_cons_succ, List.set_cons_zero, List.set_cons_succ, on2, isa_str_str, toB_bl, if_true, pattern_in_ok r h hne, is_pat, Bool.false_eq_true, if_false]
  trivial
theorem law_read_ok (r : List Pc) (h : Row r) (hne : r ≠ []) : sem__law_read [.lst (r.map Pc.D)] = M.pure (patD r) := by
  refine pure_of fun S => ?_
  unfold sem__law_read
  rw [run_fn]
  refine ⟨rfl, ?_⟩
  show RunS pk__law_read.1 [.val (.lst (r.map Pc.D))] S _ _ _ _
  unfold pk__law_read
  simp only [runS_seq, runS_ret, run_bind, run_pure, getv, List.getElem?_cons_zero, List.getElem?_cons_succ, words_ok r h, read_ok r h hne]
  trivial
end K15
set_option maxRecDepth 100000
set_option maxHeartbeats 1000000
namespace K15
open PySem Ev
def Cup (S : List Ob) (n : Nat) : Prop := ∃ a b : Int, S[n]? = some (.lst [.int a, .int b]) ∧ Sm 31 a ∧ 0 ≤ b
theorem ix_ref {S : List Ob} {n : Nat} {ds : List D} {i : Int} {d : D} {P : D → List Ob → Prop} (h : S[n]? = some (.lst ds)) (hi : L2.atI ds i = some d) : Ev.Run (dIx (.ref n) (.int i)) S P ↔ P d S := by
  have e : dIx (.ref n) (.int i) S = some (.ok d, S) := by
    show (match S[n]? with
      | some (.lst ds) => (match L2.atI ds i with | some x => (some (Except.ok x, S) : Option (Except Exn D × List Ob)) | none => none)
      | _ => none) = _
    rw [h]
    simp only
    rw [hi]
  unfold Ev.Run
  rw [e]
theorem item_set {S : List Ob} {n i : Nat} {j : Int} {ds : List D} {d : D} {sd : List SV} (h0 : sd[0]? = some (.val (.ref n))) (h : S[n]? = some (.lst ds)) (hi : L2.ixN ds.length j = some i) : itemT (getv 0) (fun _ => M.pure (.int j)) d sd S = some (sd, S.set n (.lst (ds.set i d))) := by
  unfold itemT getv
  rw [h0]
  show (match S[n]? with
    | some (.lst ds) => (match L2.ixN ds.length j with | some i => some (sd, S.set n (.lst (ds.set i d))) | none => none)
    | _ => none) = _
  rw [h]
  simp only
  rw [hi]
theorem set_get {S : List Ob} {n : Nat} {o p : Ob} (h : S[n]? = some o) : (S.set n p)[n]? = some p := List.getElem?_set_self (List.getElem?_eq_some_iff.mp h).1
theorem sip_ok (S : List Ob) (n : Nat) (many : Int) (h : Cup S n) (hm : 0 < many) (hm2 : many ≤ 1000) : Ev.Run (sem__law_sip [.ref n, .int many]) S fun d S' => ∃ r, d = .int r ∧ 0 ≤ r ∧ r < many ∧ Cup S' n := by
  obtain ⟨a, b, hS, ha, hb⟩ := h
  unfold sem__law_sip
  rw [run_fn]
  refine ⟨rfl, ?_⟩
  show RunS pk__law_sip.1 [.val (.ref n), .val (.int many), .no] S _ _ _ _
  unfold pk__law_sip
  simp only [runS_seq, runS_tgt, runS_if, runS_ret, runS_next, run_bind, run_pure, run_ite, getv, List.getElem?_cons_zero, List.getElem?_cons_succ, List.set_cons_zero, List.set_cons_succ, on1, on2]
  rw [ix_ref hS (show L2.atI [D.int a, D.int b] 0 = some (.int a) from rfl)]
  rw [mulS ha (show Sm 20 48271 from ⟨by decide, by decide⟩) (by decide)]
  simp only [run_pure, add_int, int_int, mod_int (show (0 : Int) < 2147483629 by decide)]
  rw [item_set (j := 0) (i := 0) rfl hS rfl]
  have hS1 := set_get (p := .lst [.int ((a * 48271 + 11) % 2147483629), .int b]) hS
  simp only [List.getElem?_cons_zero, List.getElem?_cons_succ, run_pure, List.set_cons_zero, List.set_cons_succ]
  rw [ix_ref hS1 (show L2.atI [D.int ((a * 48271 + 11) % 2147483629), D.int b] 1 = some (.int b) from rfl)]
  have s1 : Sm 31 ((a * 48271 + 11) % 2147483629) := ⟨Int.emod_nonneg _ (by decide), Int.lt_trans (Int.emod_lt_of_pos _ (by decide)) (by decide)⟩
  simp only [cmp_int, run_pure, toB_bl]
  by_cases b0 : 0 < b
  · rw [if_pos (decide_eq_true b0)]
    rw [ix_ref hS1 (show L2.atI [D.int ((a * 48271 + 11) % 2147483629), D.int b] 1 = some (.int b) from rfl)]
    have dm : dDivmod (.int b) (.int many) = M.pure (.tup [.int (b / many), .int (b % many)]) := by
      show (if divmOk b many = true then M.pure (D.tup [.int (b / many), .int (b % many)]) else M.stuck) = _
      rw [if_pos]
      unfold divmOk
      rw [Bool.and_eq_true]
      refine ⟨decide_eq_true hm, ?_⟩
      rw [PyProof.noPylong_small (by omega)]
      rfl
    rw [dm]
    simp only [run_pure, tupT, consT, List.length_cons, List.length_nil, Nat.reduceAdd, if_true]
    rw [item_set (j := 1) (i := 1) rfl hS1 rfl]
    simp only [setT, List.set_cons_zero, List.set_cons_succ, List.getElem?_cons_zero, List.getElem?_cons_succ, run_pure]
    refine ⟨b % many, rfl, Int.emod_nonneg _ (by omega), Int.emod_lt_of_pos _ hm, _, _, set_get hS1, s1, Int.ediv_nonneg hb (by omega)⟩
  · rw [if_neg (by simpa using b0)]
    rw [ix_ref hS1 (show L2.atI [D.int ((a * 48271 + 11) % 2147483629), D.int b] 0 = some (.int _) from rfl)]
    rw [fdiv_int (show divOk 1021 = true by decide +kernel)]
    simp only [run_pure, int_int, mod_int hm]
    exact ⟨_, rfl, Int.emod_nonneg _ (by omega), Int.emod_lt_of_pos _ hm, _, _, hS1, s1, hb⟩
theorem law_pair_ok (t b : Int) (ht : 0 ≤ t) (hb : 0 ≤ b) (h : 0 < t + b) (st : t < 2 ^ 1000) (sb : b < 2 ^ 1000) : sem__law_pair [.int t, .int b] = M.pure (pairD (lowT t b, lowB t b)) := by
  refine pure_of fun S => ?_
  obtain ⟨n, hn, hl⟩ := left_start ht hb st sb
  have dv := divOk_gcd ht hb h st sb
  unfold sem__law_pair
  rw [run_fn]
  refine ⟨rfl, ?_⟩
  show RunS pk__law_pair.1 [.val (.int t), .val (.int b), .no, .no] S _ _ _ _
  unfold pk__law_pair
  simp only [runS_seq, runS_par, run_bind, run_pure, getv, List.getElem?_cons_zero, List.getElem?_cons_succ, List.set_cons_zero, List.set_cons_succ]
  refine iter_rule (J := fun n sd S' => S' = S ∧ ∃ x y : Int, sd = [.val (.int t), .val (.int b), .val (.int x), .val (.int y)] ∧ 0 ≤ x ∧ 0 ≤ y ∧ Int.gcd x y = Int.gcd t b ∧ Left x y n) ?_ bigW n _ _ hn ⟨rfl, t, b, rfl, ht, hb, rfl, hl⟩
  rintro n sd S' ⟨rfl, x, y, rfl, hx, hy, hg, hn⟩
  simp only [run_bind, run_pure, getv, List.getElem?_cons_zero, List.getElem?_cons_succ, cmp_int, toB_bl]
  by_cases h0 : 0 < y
  · simp only [h0, decide_true, if_true, runS_seq, runS_par, runS_next, run_bind, run_pure, getv, List.getElem?_cons_zero, List.getElem?_cons_succ, List.set_cons_zero, List.set_cons_succ, on1, int_int, mod_int h0]
    obtain ⟨n', l', h'⟩ := left_step hx h0 hn
    exact ⟨n', l', trivial, y, x % y, rfl, hy, Int.emod_nonneg x (by omega), (gcd_step x y hx h0).trans hg, h'⟩
  · have y0 : y = 0 := by omega
    subst y0
    have xg : x = (Int.gcd t b : Int) := by
      rw [← hg, Int.gcd_zero]
      omega
    subst xg
    simp only [h0, decide_false, Bool.false_eq_true, if_false, runS_seq, runS_ret, run_bind, run_pure, getv, List.getElem?_cons_zero, List.getElem?_cons_succ, fdiv_int dv]
    exact ⟨rfl, trivial⟩
theorem low_pos {t b : Int} (ht : 0 ≤ t) (hb : 0 ≤ b) (h : 0 < t + b) : 0 < lowT t b + lowB t b := by
  have g0 : 0 < Int.gcd t b := by
    rw [Int.gcd_pos_iff]
    omega
  have e1 : lowT t b * (Int.gcd t b : Int) = t := Int.ediv_mul_cancel (Int.gcd_dvd_left t b)
  have e2 : lowB t b * (Int.gcd t b : Int) = b := Int.ediv_mul_cancel (Int.gcd_dvd_right t b)
  have p1 : 0 ≤ lowT t b := Int.ediv_nonneg ht (by omega)
  have p2 : 0 ≤ lowB t b := Int.ediv_nonneg hb (by omega)
  by_cases z : lowT t b + lowB t b = 0
  · have z1 : lowT t b = 0 := by omega
    have z2 : lowB t b = 0 := by omega
    rw [z1, Int.zero_mul] at e1
    rw [z2, Int.zero_mul] at e2
    omega
  · omega
theorem low_scale {t b k : Int} (hk : 0 < k) : lowT (k * t) (k * b) = lowT t b ∧ lowB (k * t) (k * b) = lowB t b := by
  have e : (Int.gcd (k * t) (k * b) : Int) = k * (Int.gcd t b : Int) := by
    rw [Int.gcd_mul_left]
    have : ((k.natAbs : Nat) : Int) = k := by omega
    rw [Int.natCast_mul, this]
  unfold lowT lowB
  rw [e, Int.mul_ediv_mul_of_pos _ _ hk, Int.mul_ediv_mul_of_pos _ _ hk]
  exact ⟨rfl, rfl⟩
theorem low_cross {t b t2 b2 : Int} (ht : 0 ≤ t) (hb : 0 ≤ b) (h : 0 < t + b) (ht2 : 0 ≤ t2) (hb2 : 0 ≤ b2) (h2 : 0 < t2 + b2) (e : t * b2 = t2 * b) : lowT t b = lowT t2 b2 ∧ lowB t b = lowB t2 b2 := by
  have a1 : (t + b) * t2 = (t2 + b2) * t := by grind
  have a2 : (t + b) * b2 = (t2 + b2) * b := by grind
  have z1 := low_scale (t := t2) (b := b2) h
  have z2 := low_scale (t := t) (b := b) h2
  rw [a1, a2] at z1
  exact ⟨z2.1.symm.trans z1.1, z2.2.symm.trans z1.2⟩
end K15
set_option maxRecDepth 100000
set_option maxHeartbeats 1000000
namespace K15
open PySem Ev
def stepV (p : Pc) (v : Int × Int) : Int × Int := if p.rail then (v.1 + p.o * v.2, v.2) else if v.2 = 0 then (p.o, 1) else (p.o * v.1, p.o * v.2 + v.1)
def frontV (r : List Pc) (v : Int × Int) : Int × Int := r.foldr stepV v
structure Vec (k : Nat) (v : Int × Int) : Prop where
  t : Sm k v.1
  b : Sm k v.2
  p : 0 < v.1 + v.2
theorem Vec.mono {j k : Nat} {v : Int × Int} (h : Vec j v) (l : j ≤ k) : Vec k v := ⟨h.t.mono l, h.b.mono l, h.p⟩
theorem step_vec {k : Nat} {p : Pc} {v : Int × Int} (hp : p.ok) (h : Vec k v) : Vec (k + 5) (stepV p v) := by
  have so := Pc.sm hp
  have t0 := h.t.1
  have b0 := h.b.1
  have pp := h.p
  have o1 := hp.1
  unfold stepV
  split
  · refine ⟨((h.t.mono (by omega : k ≤ 4 + k)).add (so.mul h.b)).mono (by omega), h.b.mono (by omega), ?_⟩
    have : p.o * v.2 ≥ 0 := Int.mul_nonneg (by omega) b0
    show 0 < v.1 + p.o * v.2 + v.2
    omega
  · split
    · refine ⟨so.mono (by omega), (show Sm 1 1 from ⟨by decide, by decide⟩).mono (by omega), ?_⟩
      show 0 < p.o + 1
      omega
    · refine ⟨(so.mul h.t).mono (by omega), ((so.mul h.b).add (h.t.mono (by omega : k ≤ 4 + k))).mono (by omega), ?_⟩
      have e1 : 0 ≤ p.o * v.1 := Int.mul_nonneg (by omega) t0
      have e2 : 0 < p.o * v.2 := Int.mul_pos (by omega) (by omega)
      show 0 < p.o * v.1 + (p.o * v.2 + v.1)
      omega
theorem front_vec : ∀ {r : List Pc} {k : Nat} {v : Int × Int}, (∀ p ∈ r, p.ok) → Vec k v → Vec (k + 5 * r.length) (frontV r v)
  | [], k, v, _, h => h
  | p :: r, k, v, hr, h => by
    have z := step_vec (hr p List.mem_cons_self) (front_vec (fun q hq => hr q (List.mem_cons_of_mem _ hq)) h)
    rw [List.length_cons]
    exact z.mono (by omega)
theorem eq_int0 (i j : Int) : dEq false (.int i) (.int j) = M.pure (.bl (decide (i = j))) := rfl
theorem front_ok (r : List Pc) (h : Row r) (v : Int × Int) (hv : Vec 100 v) : sem__law_front [.lst (r.map Pc.D), pairD v] = M.pure (pairD (lowT (frontV r v).1 (frontV r v).2, lowB (frontV r v).1 (frontV r v).2)) := by
  refine pure_of fun S => ?_
  have fv := front_vec h.1 hv
  have l := h.2
  have lp := law_pair_ok (frontV r v).1 (frontV r v).2 fv.t.1 fv.b.1 fv.p (fv.t.mono (by omega : _ ≤ 1000)).2 (fv.b.mono (by omega : _ ≤ 1000)).2
  unfold sem__law_front
  rw [run_fn]
  refine ⟨rfl, ?_⟩
  show RunS pk__law_front.1 [.val (.lst (r.map Pc.D)), .val (pairD v), .no, .no, .no, .no] S _ _ _ _
  unfold pk__law_front pairD
  have rv : dRev (.lst (r.map Pc.D)) = M.pure (.lst (r.reverse.map Pc.D)) := by
    rw [List.map_reverse]
    rfl
  simp only [runS_seq, runS_tgt, runS_for, run_bind, run_pure, getv, tupT, consT, setT, List.length_cons, List.length_nil, Nat.reduceAdd, if_true, List.getElem?_cons_zero, List.getElem?_cons_succ, List.set_cons_zero, List.set_cons_succ, rv]
  unfold seqOf
  simp only [run_pure]
  refine loop_rule (J := fun ds sd S' => S' = S ∧ ∃ (r1 r2 : List Pc) (u w : SV), ds = r1.reverse.map Pc.D ∧ r = r1 ++ r2 ∧ sd = [.val (.lst (r.map Pc.D)), .val (.tup [.int v.1, .int v.2]), .val (.int (frontV r2 v).1), .val (.int (frontV r2 v).2), u, w]) ?_ ?_ _ _ _ ?_
  · rintro d ds sd S' ⟨rfl, r1, r2, u, w, e, er, rfl⟩
    obtain ⟨r0, p, rfl⟩ : ∃ r0 p, r1 = r0 ++ [p] := by
      rcases List.eq_nil_or_concat r1 with z | ⟨r0, p, z⟩
      · rw [z] at e; cases e
      · exact ⟨r0, p, by rw [z, List.concat_eq_append]⟩
    rw [List.reverse_append, List.reverse_singleton, List.singleton_append, List.map_cons] at e
    cases e
    have er2 : r = r0 ++ (p :: r2) := by rw [er, List.append_assoc]; rfl
    have hp : p.ok := h.1 p (by rw [er2]; simp)
    have hr2 : ∀ q ∈ r2, q.ok := fun q hq => h.1 q (by rw [er2]; simp [hq])
    have fv2 := front_vec hr2 hv
    have l2 : r2.length ≤ 8 := by
      have := congrArg List.length er2
      rw [List.length_append, List.length_cons] at this
      omega
    have so := Pc.sm hp
    have fe : frontV (p :: r2) v = stepV p (frontV r2 v) := rfl
    refine ⟨_, _, rfl, ?_⟩
    generalize frontV r2 v = x at fv2 fe
    obtain ⟨b, o⟩ := p
    cases b with
    | true =>
      simp only [runS_if, runS_seq, runS_tgt, runS_next, run_bind, run_pure, getv, setT, List.getElem?_cons_zero, List.getElem?_cons_succ, List.set_cons_zero, List.set_cons_succ, eq_str, Pc.w, if_true, toB_bl]
      rw [if_pos (decide_eq_true trivial)]
      rw [mulS so fv2.b (by omega)]
      simp only [run_pure, add_int]
      refine ⟨trivial, r0, _ :: r2, .val (.str "rail"), .val (.int o), rfl, er2, ?_⟩
      rw [fe]
      rfl
    | false =>
      simp only [runS_if, runS_seq, runS_tgt, runS_par, runS_next, run_bind, run_pure, getv, setT, List.getElem?_cons_zero, List.getElem?_cons_succ, List.set_cons_zero, List.set_cons_succ, eq_str, eq_int, Pc.w, Bool.false_eq_true, if_false, toB_bl, rung_ne]
      by_cases hb : x.2 = 0
      · rw [if_pos (decide_eq_true hb)]
        refine ⟨trivial, r0, _ :: r2, .val (.str "rung"), .val (.int o), rfl, er2, ?_⟩
        rw [fe]
        unfold stepV
        simp [hb]
      · rw [if_neg (by simpa using hb)]
        rw [mulS so fv2.t (by omega), mulS so fv2.b (by omega)]
        simp only [run_pure, add_int]
        refine ⟨trivial, r0, _ :: r2, .val (.str "rung"), .val (.int o), rfl, er2, ?_⟩
        rw [fe]
        unfold stepV
        simp [hb]
  · rintro sd S' ⟨rfl, r1, r2, u, w, e, er, rfl⟩
    have r10 : r1 = [] := by
      rcases r1 with _ | ⟨p, r1⟩
      · rfl
      · simp at e
    subst r10
    rw [List.nil_append] at er
    subst er
    simp only [runS_seq, runS_ret, run_bind, run_pure, getv, List.getElem?_cons_zero, List.getElem?_cons_succ, lp]
    exact ⟨rfl, trivial⟩
  · exact ⟨rfl, r, [], _, _, rfl, by rw [List.append_nil], rfl⟩
end K15
set_option maxRecDepth 100000
set_option maxHeartbeats 1000000
namespace K15
open PySem Ev
theorem Mx.ext {m n : Mx} (h1 : m.a = n.a) (h2 : m.b = n.b) (h3 : m.c = n.c) (h4 : m.d = n.d) : m = n := by
  cases m
  cases n
  simp at h1 h2 h3 h4
  simp [h1, h2, h3, h4]
theorem Mx.assoc (m n o : Mx) : (m.mul n).mul o = m.mul (n.mul o) := by
  apply Mx.ext <;> (simp only [Mx.mul]; grind)
theorem Mx.one_mul (m : Mx) : one.mul m = m := by
  apply Mx.ext <;> (simp only [Mx.mul, one]; grind)
theorem Mx.mul_one (m : Mx) : m.mul one = m := by
  apply Mx.ext <;> (simp only [Mx.mul, one]; grind)
def mat (r : List Pc) : Mx := (chainM one 1 r).1
theorem chain_from : ∀ (r : List Pc) (m : Mx) (t : Int), (chainM m t r).1 = m.mul (mat r)
  | [], m, t => (Mx.mul_one m).symm
  | p :: r, m, t => by
    show (chainM (m.mul p.m) _ r).1 = m.mul (chainM (one.mul p.m) _ r).1
    rw [chain_from r, chain_from r, Mx.one_mul, Mx.assoc]
theorem mat_cons (p : Pc) (r : List Pc) : mat (p :: r) = p.m.mul (mat r) := by
  show (chainM (one.mul p.m) _ r).1 = _
  rw [chain_from, Mx.one_mul]
theorem mat_app : ∀ (r q : List Pc), mat (r ++ q) = (mat r).mul (mat q)
  | [], q => (Mx.one_mul _).symm
  | p :: r, q => by rw [List.cons_append, mat_cons, mat_app r q, mat_cons, Mx.assoc]
theorem top_mul (m n : Mx) (t b : Int) : (m.mul n).top t b = m.top (n.top t b) (n.bot t b) := by
  simp only [Mx.mul, Mx.top, Mx.bot]
  grind
theorem bot_mul (m n : Mx) (t b : Int) : (m.mul n).bot t b = m.bot (n.top t b) (n.bot t b) := by
  simp only [Mx.mul, Mx.top, Mx.bot]
  grind
theorem mat_vec : ∀ {r : List Pc} {k : Nat} {v : Int × Int}, (∀ p ∈ r, p.ok) → Vec k v → Vec (k + 5 * r.length) ((mat r).top v.1 v.2, (mat r).bot v.1 v.2) ∧ (mat r).top v.1 v.2 * (frontV r v).2 = (frontV r v).1 * (mat r).bot v.1 v.2
  | [], k, v, _, h => by
    have e1 : (mat []).top v.1 v.2 = v.1 := by show 1 * v.1 + 0 * v.2 = v.1; omega
    have e2 : (mat []).bot v.1 v.2 = v.2 := by show 0 * v.1 + 1 * v.2 = v.2; omega
    rw [e1, e2]
    exact ⟨h, rfl⟩
  | p :: r, k, v, hr, h => by
    have hp := hr p List.mem_cons_self
    have hr2 : ∀ q ∈ r, q.ok := fun q hq => hr q (List.mem_cons_of_mem _ hq)
    obtain ⟨z, c⟩ := mat_vec hr2 h
    have fz := front_vec hr2 h
    have so := Pc.sm hp
    have o1 := hp.1
    rw [mat_cons, top_mul, bot_mul]
    show Vec (k + 5 * (r.length + 1)) _ ∧ _ * (stepV p (frontV r v)).2 = (stepV p (frontV r v)).1 * _
    generalize (mat r).top v.1 v.2 = x at z c
    generalize (mat r).bot v.1 v.2 = y at z c
    generalize frontV r v = w at c fz
    have x0 : 0 ≤ x := z.t.1
    have y0 : 0 ≤ y := z.b.1
    have xy : 0 < x + y := z.p
    have w1 := fz.t.1
    have w2 := fz.b.1
    have wp := fz.p
    obtain ⟨b, o⟩ := p
    cases b with
    | true =>
      have e1 : (Pc.m ⟨true, o⟩).top x y = x + o * y := by show 1 * x + o * y = _; omega
      have e2 : (Pc.m ⟨true, o⟩).bot x y = y := by show 0 * x + 1 * y = _; omega
      rw [e1, e2]
      refine ⟨?_, ?_⟩
      · have q := step_vec (p := ⟨true, o⟩) hp z
        exact Vec.mono q (by omega)
      · show (x + o * y) * w.2 = (w.1 + o * w.2) * y
        grind
    | false =>
      have e1 : (Pc.m ⟨false, o⟩).top x y = o * x := by show o * x + 0 * y = _; omega
      have e2 : (Pc.m ⟨false, o⟩).bot x y = x + o * y := by show 1 * x + o * y = _; omega
      rw [e1, e2]
      have o1 : 1 ≤ o := o1
      have so : Sm 4 o := so
      refine ⟨⟨?_, ?_, ?_⟩, ?_⟩
      · exact (so.mul z.t).mono (by omega)
      · exact ((z.t.mono (by omega : _ ≤ 4 + (k + 5 * r.length))).add (so.mul z.b)).mono (by omega)
      · have a1 : 0 ≤ o * x := Int.mul_nonneg (by omega) x0
        have a2 : 0 ≤ o * y := Int.mul_nonneg (by omega) y0
        show 0 < o * x + (x + o * y)
        by_cases hx : x = 0
        · have a3 : 0 < o * y := Int.mul_pos (by omega) (by omega)
          omega
        · omega
      · unfold stepV
        simp only [Bool.false_eq_true, if_false]
        by_cases hb : w.2 = 0
        · rw [if_pos hb]
          rw [hb, Int.mul_zero] at c
          have w10 : w.1 ≠ 0 := by omega
          have y00 : y = 0 := by
            rcases Int.mul_eq_zero.mp c.symm with q | q
            · exact absurd q w10
            · exact q
          subst y00
          show o * x * 1 = o * (x + o * 0)
          grind
        · rw [if_neg hb]
          show o * x * (o * w.2 + w.1) = o * w.1 * (x + o * y)
          grind
theorem shows_front {r : List Pc} (h : Row r) {v : Int × Int} (hv : Vec 100 v) : shows r v.1 v.2 = (lowT (frontV r v).1 (frontV r v).2, lowB (frontV r v).1 (frontV r v).2) := by
  obtain ⟨z, c⟩ := mat_vec h.1 hv
  have f := front_vec h.1 hv
  have q := low_cross z.t.1 z.b.1 z.p f.t.1 f.b.1 f.p c
  exact Prod.ext q.1 q.2
def lowP (v : Int × Int) : Int × Int := (lowT v.1 v.2, lowB v.1 v.2)
theorem lowP_mul {v : Int × Int} (ht : 0 ≤ v.1) (hb : 0 ≤ v.2) (hp : 0 < v.1 + v.2) : ∃ g : Int, 0 < g ∧ g * (lowP v).1 = v.1 ∧ g * (lowP v).2 = v.2 := by
  have g0 : 0 < Int.gcd v.1 v.2 := by
    rw [Int.gcd_pos_iff]
    omega
  refine ⟨(Int.gcd v.1 v.2 : Int), by omega, ?_, ?_⟩
  · rw [Int.mul_comm]
    exact Int.ediv_mul_cancel (Int.gcd_dvd_left _ _)
  · rw [Int.mul_comm]
    exact Int.ediv_mul_cancel (Int.gcd_dvd_right _ _)
theorem top_scale (m : Mx) (g t b : Int) : m.top (g * t) (g * b) = g * m.top t b := by
  unfold Mx.top
  grind
theorem bot_scale (m : Mx) (g t b : Int) : m.bot (g * t) (g * b) = g * m.bot t b := by
  unfold Mx.bot
  grind
theorem shows_low (r : List Pc) {v : Int × Int} (ht : 0 ≤ v.1) (hb : 0 ≤ v.2) (hp : 0 < v.1 + v.2) : shows r v.1 v.2 = shows r (lowP v).1 (lowP v).2 := by
  obtain ⟨g, g0, e1, e2⟩ := lowP_mul ht hb hp
  unfold shows
  rw [← e1, ← e2, top_scale, bot_scale]
  have z := low_scale (t := (chainM one 1 r).1.top (lowP v).1 (lowP v).2) (b := (chainM one 1 r).1.bot (lowP v).1 (lowP v).2) g0
  rw [z.1, z.2]
theorem shows_app (r q : List Pc) (t b : Int) (ht : 0 ≤ (mat q).top t b) (hb : 0 ≤ (mat q).bot t b) (hp : 0 < (mat q).top t b + (mat q).bot t b) : shows (r ++ q) t b = shows r (shows q t b).1 (shows q t b).2 := by
  have z := shows_low r (v := ((mat q).top t b, (mat q).bot t b)) ht hb hp
  have e : shows (r ++ q) t b = shows r ((mat q).top t b) ((mat q).bot t b) := by
    unfold shows
    have m : (chainM one 1 (r ++ q)).1 = (mat r).mul (mat q) := mat_app r q
    rw [m, top_mul, bot_mul]
    rfl
  rw [e]
  exact z
def Mx.det (m : Mx) : Int := m.a * m.d - m.b * m.c
theorem det_mul (m n : Mx) : (m.mul n).det = m.det * n.det := by
  simp only [Mx.mul, Mx.det]
  grind
theorem det_pos : ∀ {r : List Pc}, (∀ p ∈ r, p.ok) → 0 < (mat r).det
  | [], _ => by decide
  | p :: r, h => by
    rw [mat_cons, det_mul]
    refine Int.mul_pos ?_ (det_pos fun q hq => h q (List.mem_cons_of_mem _ hq))
    have hp := h p List.mem_cons_self
    obtain ⟨b, o⟩ := p
    have o1 : 1 ≤ o := hp.1
    cases b with
    | true => show 0 < 1 * 1 - o * 0; omega
    | false =>
      show 0 < o * o - 0 * 1
      have := Int.mul_pos (show 0 < o by omega) (show 0 < o by omega)
      omega
theorem below_iff {x1 y1 x2 y2 g h : Int} (hg : 0 < g) (hh : 0 < h) : (g * x1) * (h * y2) < (h * x2) * (g * y1) ↔ x1 * y2 < x2 * y1 := by
  have e1 : (g * x1) * (h * y2) = (g * h) * (x1 * y2) := by grind
  have e2 : (h * x2) * (g * y1) = (g * h) * (x2 * y1) := by grind
  have gh : 0 < g * h := Int.mul_pos hg hh
  rw [e1, e2]
  constructor
  · intro z
    exact Int.lt_of_mul_lt_mul_left z (by omega)
  · intro z
    exact Int.mul_lt_mul_of_pos_left z gh
theorem rises {r : List Pc} (hr : ∀ p ∈ r, p.ok) {v w : Int × Int} (hv : Vec 100 v) (hw : Vec 100 w) : ((shows r v.1 v.2).1 * (shows r w.1 w.2).2 < (shows r w.1 w.2).1 * (shows r v.1 v.2).2) ↔ (v.1 * w.2 < w.1 * v.2) := by
  obtain ⟨z1, _⟩ := mat_vec hr hv
  obtain ⟨z2, _⟩ := mat_vec hr hw
  obtain ⟨g, g0, a1, a2⟩ := lowP_mul z1.t.1 z1.b.1 z1.p
  obtain ⟨h, h0, b1, b2⟩ := lowP_mul z2.t.1 z2.b.1 z2.p
  have s1 : shows r v.1 v.2 = lowP ((mat r).top v.1 v.2, (mat r).bot v.1 v.2) := rfl
  have s2 : shows r w.1 w.2 = lowP ((mat r).top w.1 w.2, (mat r).bot w.1 w.2) := rfl
  rw [s1, s2, ← below_iff (x1 := (lowP ((mat r).top v.1 v.2, (mat r).bot v.1 v.2)).1) g0 h0, a1, a2, b1, b2]
  have d := det_pos hr
  have e : (mat r).top w.1 w.2 * (mat r).bot v.1 v.2 - (mat r).top v.1 v.2 * (mat r).bot w.1 w.2 = (mat r).det * (w.1 * v.2 - v.1 * w.2) := by
    unfold Mx.top Mx.bot Mx.det
    grind
  constructor
  · intro q
    have q2 : 0 < (mat r).det * (w.1 * v.2 - v.1 * w.2) := by
      show 0 < _
      have q : (mat r).top v.1 v.2 * (mat r).bot w.1 w.2 < (mat r).top w.1 w.2 * (mat r).bot v.1 v.2 := q
      omega
    by_cases z : 0 < w.1 * v.2 - v.1 * w.2
    · omega
    · have n := Int.mul_le_mul_of_nonneg_left (show w.1 * v.2 - v.1 * w.2 ≤ 0 by omega) (show 0 ≤ (mat r).det by omega)
      rw [Int.mul_zero] at n
      omega
  · intro q
    have q2 : 0 < (mat r).det * (w.1 * v.2 - v.1 * w.2) := Int.mul_pos d (by omega)
    show (mat r).top v.1 v.2 * (mat r).bot w.1 w.2 < (mat r).top w.1 w.2 * (mat r).bot v.1 v.2
    omega
end K15
set_option maxRecDepth 100000
set_option maxHeartbeats 1000000
namespace K15
open PySem Ev
theorem time_pos : ∀ {r : List Pc} {m : Mx} {t : Int}, (∀ p ∈ r, p.ok) → 0 < t → 0 < (chainM m t r).2
  | [], _, _, _, h => h
  | p :: r, m, t, hr, h => by
    refine time_pos (r := r) (fun q hq => hr q (List.mem_cons_of_mem _ hq)) ?_
    have := (hr p List.mem_cons_self).1
    split
    · exact h
    · exact Int.mul_pos h (by omega)
def frac (x s : Int) : Int × Int := (lowT x s, lowB x s)
theorem numbers_ok (r : List Pc) (h : Row r) : sem_Pattern_numbers [patD r] = M.pure (.tup [pairD (frac (mat r).a (chainM one 1 r).2), pairD (frac (mat r).b (chainM one 1 r).2), pairD (frac (mat r).c (chainM one 1 r).2), pairD (frac (mat r).d (chainM one 1 r).2)]) := by
  refine pure_of fun S => ?_
  have sm := h.sm
  have tp := time_pos (r := r) (m := one) h.1 (show (0 : Int) < 1 by decide)
  have sc := attr_scale r
  have lo : ∀ x, Sm 50 x → sem_lowest [.int x, .int (chainM one 1 r).2] = M.pure (pairD (frac x (chainM one 1 r).2)) := fun x hx => by
    have a := hx.1
    exact lowest_ok x _ hx.1 sm.2.1 (by omega) (hx.mono (by decide : 50 ≤ 1000)).2 (sm.2.mono (by decide : 50 ≤ 1000)).2
  unfold sem_Pattern_numbers
  rw [run_fn]
  refine ⟨rfl, ?_⟩
  show RunS pk_Pattern_numbers.1 [.val (patD r), .no] S _ _ _ _
  unfold pk_Pattern_numbers
  simp only [runS_seq, runS_ret, run_bind, run_pure, getv, List.getElem?_cons_zero, List.getElem?_cons_succ]
  unfold lcS
  simp only [run_bind, run_pure, getv, List.getElem?_cons_zero, List.getElem?_cons_succ, attr_chain]
  show Ev.Run (seqOf (.tup [.int (mat r).a, .int (mat r).b, .int (mat r).c, .int (mat r).d])) S _
  unfold seqOf
  simp only [run_pure]
  have cm : ∀ (l : List Int), (∀ x ∈ l, Sm 50 x) → l.length ≤ 10 → ∀ {t : TgP} {tt : List SV → M Bool} {fe : List SV → M D} {sdw : List SV}, (∀ x ∈ l, ∃ sd1, t (.int x) sdw = some sd1 ∧ tt sd1 = M.pure true ∧ fe sd1 = M.pure (pairD (frac x (chainM one 1 r).2))) → compS t tt fe sdw (l.map D.int) [] = M.pure (l.map fun x => pairD (frac x (chainM one 1 r).2)) := fun l _ hl t tt fe sdw hh => by
    rw [comp_mapL (g := fun x => pairD (frac x (chainM one 1 r).2)) l [] hh (by show 0 + l.length ≤ lim; unfold lim; omega)]
    rfl
  rw [show [D.int (mat r).a, D.int (mat r).b, D.int (mat r).c, D.int (mat r).d] = [(mat r).a, (mat r).b, (mat r).c, (mat r).d].map D.int from rfl]
  have all4 : ∀ x ∈ [(mat r).a, (mat r).b, (mat r).c, (mat r).d], Sm 50 x := by
    intro x hx
    simp only [List.mem_cons, List.mem_nil_iff, or_false] at hx
    rcases hx with rfl | rfl | rfl | rfl
    · exact sm.1.a
    · exact sm.1.b
    · exact sm.1.c
    · exact sm.1.d
  rw [cm _ all4 (show 4 ≤ 10 by decide)]
  · exact ⟨rfl, rfl⟩
  · intro x hx
    refine ⟨[.val (patD r), .val (.int x)], rfl, rfl, ?_⟩
    refine pure_of fun S => ?_
    simp only [run_bind, run_pure, getv, List.getElem?_cons_zero, List.getElem?_cons_succ, sc, lo x (all4 x hx)]
    trivial
theorem frac_mul {x s : Int} (hx : 0 ≤ x) (hs : 0 < s) : ∃ g : Int, 0 < g ∧ g * (frac x s).1 = x ∧ g * (frac x s).2 = s := lowP_mul (v := (x, s)) hx (by show 0 ≤ s; omega) (by show 0 < x + s; omega)
theorem by_numbers_eq {A B C E s p q a0 a1 b0 b1 c0 c1 d0 d1 ga gb gc gd : Int} (h1 : 0 < ga) (h2 : 0 < gb) (h3 : 0 < gc) (h4 : 0 < gd) (hs : 0 < s) (ea : ga * a0 = A) (ea1 : ga * a1 = s) (eb : gb * b0 = B) (eb1 : gb * b1 = s) (ec : gc * c0 = C) (ec1 : gc * c1 = s) (ed : gd * d0 = E) (ed1 : gd * d1 = s) :
    (ga * gb * (gc * gd)) * ((a0 * b1 * p + b0 * a1 * q) * c1 * d1) = s * s * s * (A * p + B * q) ∧ (ga * gb * (gc * gd)) * ((c0 * d1 * p + d0 * c1 * q) * a1 * b1) = s * s * s * (C * p + E * q) := by
  subst ea eb ec ed
  constructor
  · have e : (ga * gb * (gc * gd)) * ((a0 * b1 * p + b0 * a1 * q) * c1 * d1) = ((ga * a0) * (gb * b1) * p + (gb * b0) * (ga * a1) * q) * (gc * c1) * (gd * d1) := by grind
    rw [e, ea1, eb1, ec1, ed1]
    grind
  · have e : (ga * gb * (gc * gd)) * ((c0 * d1 * p + d0 * c1 * q) * a1 * b1) = ((gc * c0) * (gd * d1) * p + (gd * d0) * (gc * c1) * q) * (ga * a1) * (gb * b1) := by grind
    rw [e, ea1, eb1, ec1, ed1]
    grind
end K15
set_option maxRecDepth 100000
set_option maxHeartbeats 1000000
namespace K15
open PySem Ev
theorem ix0 (v : Int × Int) : dIx (pairD v) (.int 0) = M.pure (.int v.1) := ix_tup rfl
theorem ix1 (v : Int × Int) : dIx (pairD v) (.int 1) = M.pure (.int v.2) := ix_tup rfl
theorem frac_sm {x s : Int} (hx : Sm 50 x) (hs : Sm 50 s) (h : 0 < s) : Sm 50 (frac x s).1 ∧ Sm 50 (frac x s).2 := low_sm hx hs (by have := hx.1; omega)
end K15
set_option maxRecDepth 100000
set_option maxHeartbeats 1000000
namespace K15
open PySem Ev
theorem ix_any {ds : List D} {i : Int} {P : D → List Ob → Prop} {S : List Ob} (h0 : 0 ≤ i) (h1 : i < ds.length) (h : ∀ d, d ∈ ds → P d S) : Ev.Run (dIx (.lst ds) (.int i)) S P := by
  have l : i.toNat < ds.length := by omega
  have e : L2.atI ds i = some ds[i.toNat] := by
    unfold L2.atI L2.ixN
    rw [if_pos h0, if_pos h1]
    exact List.getElem?_eq_getElem l
  rw [ix_lst e]
  exact h _ (List.getElem_mem l)
theorem pick_ok (S : List Ob) (n : Nat) (ds : List D) (h : Cup S n) (h0 : 0 < ds.length) (h1 : ds.length ≤ 1000) : Ev.Run (sem__law_pick [.ref n, .lst ds]) S fun d S' => d ∈ ds ∧ Cup S' n := by
  unfold sem__law_pick
  rw [run_fn]
  refine ⟨rfl, ?_⟩
  show RunS pk__law_pick.1 [.val (.ref n), .val (.lst ds)] S _ _ _ _
  unfold pk__law_pick
  simp only [runS_seq, runS_ret, run_bind, run_pure, getv, List.getElem?_cons_zero, List.getElem?_cons_succ, on1, len_lst]
  refine Ev.Run.mono (sip_ok S n ds.length h (by omega) (by omega)) ?_
  rintro d S' ⟨i, rfl, i0, i1, hc⟩
  exact ix_any i0 i1 fun d hd => ⟨hd, hc⟩
section
variable {S : List Ob} {sd : List SV} {N : List SV → List Ob → Prop} {R : D → List Ob → Prop} {B C : List SV → List Ob → Prop}
theorem runS_app {i : Nat} {g : List SV → M D} {ds : List D} (h : sd[i]? = some (.own (.lst ds))) (hl : ds.length < lim) : RunS (appS i g) sd S N R B C ↔ Ev.Run (g sd) S fun d S' => N (sd.set i (.own (.lst (ds ++ [d])))) S' := by
  have e : appS i g sd S = exS g (fun d sd S => some (.next (sd.set i (.own (.lst (ds ++ [d])))), S)) sd S := by
    unfold appS
    rw [h]
    simp only
    rw [if_pos hl]
  have z : RunS (appS i g) sd S N R B C ↔ RunS (exS g (fun d sd S => some (.next (sd.set i (.own (.lst (ds ++ [d])))), S))) sd S N R B C := by
    unfold RunS
    rw [e]
  rw [z, runS_ex]
  exact Iff.rfl
theorem runS_frz {i : Nat} {o : Ob} (h : sd[i]? = some (.own o)) : RunS (frzS i) sd S N R B C ↔ N (sd.set i (.val (frzO o))) S := by
  unfold RunS frzS
  rw [h]
end
def RowL (r : List Pc) : Prop := (∀ p ∈ r, p.ok) ∧ 1 ≤ r.length ∧ r.length ≤ 4
theorem row_draw_m (k : Int) (k0 : 0 < k) (k1 : k ≤ 8) (S : List Ob) (n : Nat) (h : Cup S n) : Ev.Run (sem__law_row [.ref n, .int k]) S fun d S' => ∃ r : List Pc, d = .lst (r.map Pc.D) ∧ (∀ p ∈ r, p.ok) ∧ 1 ≤ r.length ∧ r.length ≤ k.toNat ∧ Cup S' n := by
  unfold sem__law_row
  rw [run_fn]
  refine ⟨rfl, ?_⟩
  show RunS pk__law_row.1 [.val (.ref n), .val (.int k), .no, .no] S _ _ _ _
  unfold pk__law_row
  simp only [runS_seq, runS_own, runS_for, runS_ret, run_bind, run_pure, getv, List.getElem?_cons_zero, List.getElem?_cons_succ, List.set_cons_zero, List.set_cons_succ]
  refine Ev.Run.mono (sip_ok S n k h k0 (by omega)) ?_
  rintro d S1 ⟨m, rfl, m0, m1, h1⟩
  simp only [add_int, run_pure]
  have rg : rng1 [.int (1 + m)] = M.pure (rngD 0 (1 + m).toNat) := by
    show (if -(2 ^ 62) ≤ 1 + m ∧ 1 + m < 2 ^ 62 then M.pure (rngD 0 (1 + m).toNat) else M.stuck) = _
    rw [if_pos (by omega)]
  rw [rg]
  simp only [run_pure]
  refine loop_rule (J := fun ds sd S' => Cup S' n ∧ ∃ (r : List Pc) (u : SV), sd = [.val (.ref n), .val (.int k), .own (.lst (r.map Pc.D)), u] ∧ (∀ p ∈ r, p.ok) ∧ r.length + ds.length = (1 + m).toNat) ?_ ?_ _ _ _ ?_
  · rintro d ds sd S2 ⟨h2, r, u, rfl, ho, hl⟩
    refine ⟨_, _, rfl, ?_⟩
    rw [List.length_cons] at hl
    rw [runS_seq, runS_app (ds := r.map Pc.D) rfl (by rw [List.length_map]; unfold lim; omega)]
    simp only [run_bind, run_pure, getv, List.getElem?_cons_zero, List.getElem?_cons_succ, List.set_cons_zero, List.set_cons_succ]
    refine Ev.Run.mono (pick_ok S2 n _ h2 (by decide) (by decide)) ?_
    rintro w S3 ⟨hw, h3⟩
    refine Ev.Run.mono (sip_ok S3 n 12 h3 (by decide) (by decide)) ?_
    rintro w2 S4 ⟨o, rfl, o0, o1, h4⟩
    simp only [add_int, run_pure, runS_next]
    obtain ⟨b, rfl⟩ : ∃ b : Bool, w = .str (Pc.w ⟨b, 1 + o⟩) := by
      simp only [List.mem_cons, List.mem_nil_iff, or_false] at hw
      rcases hw with rfl | rfl
      · exact ⟨true, rfl⟩
      · exact ⟨false, rfl⟩
    refine ⟨h4, r ++ [⟨b, 1 + o⟩], .val d, ?_, ?_, ?_⟩
    · rw [List.map_append]
      rfl
    · intro p hp
      rcases List.mem_append.mp hp with q | q
      · exact ho p q
      · rw [List.mem_singleton.mp q]
        exact ⟨by show 1 ≤ 1 + o; omega, by show 1 + o ≤ 12; omega⟩
    · rw [List.length_append]
      simp
      omega
  · rintro sd S2 ⟨h2, r, u, rfl, ho, hl⟩
    simp only [List.length_nil] at hl
    rw [runS_frz (o := .lst (r.map Pc.D)) rfl]
    simp only [runS_seq, runS_ret, run_bind, run_pure, getv, List.getElem?_cons_zero, List.getElem?_cons_succ, List.set_cons_zero, List.set_cons_succ, frzO]
    exact ⟨r, rfl, ho, by omega, by omega, h2⟩
  · refine ⟨h1, [], .no, rfl, by simp, ?_⟩
    unfold rngD
    simp
theorem row_draw (S : List Ob) (n : Nat) (h : Cup S n) : Ev.Run (sem__law_row [.ref n, .int 4]) S fun d S' => ∃ r, d = .lst (r.map Pc.D) ∧ RowL r ∧ Cup S' n := by
  refine Ev.Run.mono (row_draw_m 4 (by decide) (by decide) S n h) ?_
  rintro d S' ⟨r, rfl, a, b, c, e⟩
  exact ⟨r, rfl, ⟨a, b, c⟩, e⟩
end K15
set_option maxRecDepth 100000
set_option maxHeartbeats 1000000
namespace K15
open PySem Ev
structure EndV (v : Int × Int) : Prop where
  low : lowP v = v
  t0 : 0 ≤ v.1
  t1 : v.1 ≤ 10 ^ 12
  b0 : 0 ≤ v.2
  b1 : v.2 ≤ 10 ^ 12
  op : v.2 = 0 → v.1 = 1
  p : 0 < v.1 + v.2
theorem EndV.vec {v : Int × Int} (h : EndV v) : Vec 100 v := ⟨⟨h.t0, by have := h.t1; omega⟩, ⟨h.b0, by have := h.b1; omega⟩, h.p⟩
theorem lowP_idem {t b : Int} (ht : 0 ≤ t) (hb : 0 ≤ b) (hp : 0 < t + b) : lowP (lowP (t, b)) = lowP (t, b) := by
  obtain ⟨g, g0, e1, e2⟩ := lowP_mul (v := (t, b)) ht hb hp
  have z := low_scale (t := (lowP (t, b)).1) (b := (lowP (t, b)).2) g0
  have e1 : g * (lowP (t, b)).1 = t := e1
  have e2 : g * (lowP (t, b)).2 = b := e2
  rw [e1, e2] at z
  exact Prod.ext z.1.symm z.2.symm
theorem end_low {t b : Int} (ht : 0 ≤ t) (ht1 : t ≤ 10 ^ 12) (hb : 0 < b) (hb1 : b ≤ 10 ^ 12) : EndV (lowP (t, b)) := by
  have hp : 0 < t + b := by omega
  have idem := lowP_idem ht (by omega : 0 ≤ b) hp
  obtain ⟨g, g0, e1, e2⟩ := lowP_mul (v := (t, b)) ht (by show 0 ≤ b; omega) hp
  have e1 : g * (lowP (t, b)).1 = t := e1
  have e2 : g * (lowP (t, b)).2 = b := e2
  have d : ∀ x y : Int, 0 ≤ y → y = t ∨ y = b → g * x = y → 0 ≤ x ∧ x ≤ y := fun x y hy _ e => by
    have a : 0 ≤ x := by
      by_cases n : 0 ≤ x
      · exact n
      · have := Int.mul_neg_of_pos_of_neg g0 (show x < 0 by omega)
        omega
    refine ⟨a, ?_⟩
    have := Int.mul_le_mul_of_nonneg_right (show 1 ≤ g by omega) a
    rw [Int.one_mul] at this
    omega
  have q1 := d _ t ht (.inl rfl) e1
  have q2 := d _ b (by omega) (.inr rfl) e2
  have nz : (lowP (t, b)).2 ≠ 0 := by
    intro z
    rw [z, Int.mul_zero] at e2
    omega
  exact ⟨idem, q1.1, by omega, q2.1, by omega, fun z => absurd z nz, by omega⟩
theorem pair_end {t b : Int} (ht : 0 ≤ t) (ht1 : t ≤ 10 ^ 12) (hb : 0 < b) (hb1 : b ≤ 10 ^ 12) : sem__law_pair [.int t, .int b] = M.pure (pairD (lowP (t, b))) :=
  law_pair_ok t b ht (by omega) (by omega) (by omega) (by omega)
theorem end_01 : EndV (0, 1) := ⟨by decide +kernel, by decide, by decide, by decide, by decide, by decide, by decide⟩
theorem end_10 : EndV (1, 0) := ⟨by decide +kernel, by decide, by decide, by decide, by decide, by decide, by decide⟩
theorem end_1b {b : Int} (h : 0 < b) (h2 : b ≤ 10 ^ 12) : EndV (1, b) := by
  refine ⟨?_, by show (0 : Int) ≤ 1; decide, by show (1 : Int) ≤ 10 ^ 12; decide, by show 0 ≤ b; omega, h2, fun _ => rfl, by show 0 < 1 + b; omega⟩
  unfold lowP lowT lowB
  simp
theorem end_draw (S : List Ob) (n : Nat) (h : Cup S n) : Ev.Run (sem__law_end [.ref n]) S fun d S' => ∃ v, d = pairD v ∧ EndV v ∧ Cup S' n := by
  unfold sem__law_end
  rw [run_fn]
  refine ⟨rfl, ?_⟩
  show RunS pk__law_end.1 [.val (.ref n), .no, .no] S _ _ _ _
  unfold pk__law_end
  simp only [runS_seq, runS_par, runS_if, runS_ret, runS_next, run_bind, run_pure, getv, List.getElem?_cons_zero, List.getElem?_cons_succ, List.set_cons_zero, List.set_cons_succ]
  refine Ev.Run.mono (sip_ok S n 8 h (by decide) (by decide)) ?_
  rintro d S1 ⟨way, rfl, w0, w1, h1⟩
  refine Ev.Run.mono (sip_ok S1 n 30 h1 (by decide) (by decide)) ?_
  rintro d S2 ⟨sm, rfl, s0, s1, h2⟩
  simp only [add_int, run_pure, List.set_cons_zero, List.set_cons_succ, List.getElem?_cons_zero, List.getElem?_cons_succ, cmp_int, toB_bl]
  by_cases a1 : way < 2
  · rw [if_pos (decide_eq_true a1)]
    refine ix_any w0 (by show way < 2; exact a1) fun d hd => ?_
    simp only [List.mem_cons, List.mem_nil_iff, or_false] at hd
    rcases hd with rfl | rfl
    · exact ⟨(0, 1), rfl, end_01, h2⟩
    · exact ⟨(1, 0), rfl, end_10, h2⟩
  · rw [if_neg (by simpa using a1)]
    by_cases a2 : way < 5
    · rw [if_pos (decide_eq_true a2)]
      refine Ev.Run.mono (sip_ok S2 n 40 h2 (by decide) (by decide)) ?_
      rintro d S3 ⟨x, rfl, x0, x1, h3⟩
      rw [pair_end x0 (by omega) (by omega) (by omega)]
      exact ⟨_, rfl, end_low x0 (by omega) (by omega) (by omega), h3⟩
    · rw [if_neg (by simpa using a2)]
      refine Ev.Run.mono (sip_ok S2 n 9 h2 (by decide) (by decide)) ?_
      rintro d S3 ⟨x, rfl, x0, x1, h3⟩
      simp only [add_int, run_pure]
      rw [pair_end (by omega) (by omega) (by omega) (by omega)]
      simp only [run_pure]
      have p12 : dPow (.int 10) (.int 12) = M.pure (.int 1000000000000) := by funext S; kernel_rfl
      have p6 : dPow (.int 10) (.int 6) = M.pure (.int 1000000) := by funext S; kernel_rfl
      simp only [p12, p6, run_pure, sub_int, add_int]
      rw [pair_end (by omega) (by omega) (by omega) (by omega)]
      simp only [run_pure]
      refine ix_any (by omega) (by show way - 5 < 3; omega) fun d hd => ?_
      simp only [List.mem_cons, List.mem_nil_iff, or_false] at hd
      rcases hd with rfl | rfl | rfl
      · exact ⟨_, rfl, end_low (by omega) (by omega) (by omega) (by omega), h3⟩
      · exact ⟨_, rfl, end_low (by omega) (by omega) (by omega) (by omega), h3⟩
      · exact ⟨(1, 1000000 + (1 + sm)), rfl, end_1b (by omega) (by omega), h3⟩
end K15
set_option maxRecDepth 100000
set_option maxHeartbeats 1000000
namespace K15
open PySem Ev
theorem below_ok (v w : Int × Int) (hv : Vec 300 v) (hw : Vec 300 w) : sem__law_below [pairD v, pairD w] = M.pure (.bl (decide (v.1 * w.2 < w.1 * v.2))) := by
  refine pure_of fun S => ?_
  unfold sem__law_below
  rw [run_fn]
  refine ⟨rfl, ?_⟩
  show RunS pk__law_below.1 [.val (pairD v), .val (pairD w)] S _ _ _ _
  unfold pk__law_below
  simp only [runS_seq, runS_ret, run_bind, run_pure, getv, List.getElem?_cons_zero, List.getElem?_cons_succ, ix0, ix1, mulS hv.t hw.b (by decide), mulS hw.t hv.b (by decide), cmp_int]
  trivial
theorem Sm.log {x : Int} (h : Sm 300 x) : x.natAbs.log2 < 1920 := by
  have a := h.nat
  by_cases z : x.natAbs = 0
  · rw [z]
    decide +kernel
  · have := (Nat.log2_lt z).mpr a
    omega
def pairP (v : Int × Int) : PyData := .tuple [.int v.1, .int v.2]
theorem pair_len {v : Int × Int} (hv : Vec 300 v) : (pairP v).shown.length ≤ 4000 := by
  have a := PyProof.Rows.int_text_len_1921 hv.t.log
  have b := PyProof.Rows.int_text_len_1921 hv.b.log
  have c := tupleText_len_le [Str.ofString (toString v.1), Str.ofString (toString v.2)]
  simp only [List.map_cons, List.map_nil, List.sum_cons, List.sum_nil, List.length_cons, List.length_nil] at c
  show (tupleText [Str.ofString (toString v.1), Str.ofString (toString v.2)]).length ≤ 4000
  omega
theorem pair_show {v : Int × Int} (hv : Vec 300 v) : (pairP v).showable = true := by
  unfold pairP
  simp only [PyData.showable, PyData.showableAll, hv.t.log, hv.b.log, decide_true, Bool.and_true]
theorem repr_pair {v : Int × Int} (hv : Vec 300 v) : ∃ x, dRepr (pairD v) = M.pure (.str x) := by
  refine ⟨(pairP v).shown, ?_⟩
  show (if reprOk (pairP v) = true then M.pure (D.str _) else M.stuck) = _
  refine if_pos ?_
  have l := pair_len hv
  unfold reprOk
  rw [pair_show hv]
  have h1 : (pairP v).hasDict = false := rfl
  have h2 : (pairP v).depth = 1 := rfl
  rw [h1, h2]
  simp only [Bool.not_false, Bool.and_true, Bool.true_and, Bool.and_eq_true, decide_eq_true_eq]
  exact ⟨by decide, by unfold lim; omega⟩
theorem repr_two {v w : Int × Int} (hv : Vec 300 v) (hw : Vec 300 w) : ∃ x, dRepr (.lst [pairD v, pairD w]) = M.pure (.str x) := by
  refine ⟨(PyData.list [pairP v, pairP w]).shown, ?_⟩
  show (if reprOk (PyData.list [pairP v, pairP w]) = true then M.pure (D.str _) else M.stuck) = _
  refine if_pos ?_
  have a := pair_len hv
  have b := pair_len hw
  have c := listText_len_le [(pairP v).shown, (pairP w).shown]
  simp only [List.map_cons, List.map_nil, List.sum_cons, List.sum_nil, List.length_cons, List.length_nil] at c
  have l : (PyData.list [pairP v, pairP w]).shown.length ≤ 9000 := by
    show (listText [(pairP v).shown, (pairP w).shown]).length ≤ 9000
    omega
  have sh : (PyData.list [pairP v, pairP w]).showable = true := by
    simp only [PyData.showable, PyData.showableAll, pair_show hv, pair_show hw, Bool.and_true]
  unfold reprOk
  rw [sh]
  have h1 : (PyData.list [pairP v, pairP w]).hasDict = false := rfl
  have h2 : (PyData.list [pairP v, pairP w]).depth = 2 := rfl
  rw [h1, h2]
  simp only [Bool.not_false, Bool.and_true, Bool.true_and, Bool.and_eq_true, decide_eq_true_eq]
  exact ⟨by decide, by unfold lim; omega⟩
end K15
set_option maxRecDepth 100000
set_option maxHeartbeats 1000000
namespace K15
open PySem Ev
theorem ne_str (x : Str) : dEq true (.str x) (.str x) = M.pure (.bl false) := by
  show M.pure (D.bl (if true then !decide (x = x) else decide (x = x))) = _
  simp
theorem call_pat (r : List Pc) (g : List D → M D) (fa : M (List D)) : callD (tab [(1, g)]) fa (patD r) = M.bind fa fun ds => g (patD r :: ds) := rfl
theorem add_pat (r q : List Pc) (g : List D → M D) : ownBin (tab [(1, g)]) (patD r) (patD q) = g [patD r, patD q] := rfl
theorem attr_numbers (r : List Pc) (h : Row r) : attr (tab [(1, .prop sem_Pattern_numbers)]) (patD r) = M.pure (.tup [pairD (frac (mat r).a (chainM one 1 r).2), pairD (frac (mat r).b (chainM one 1 r).2), pairD (frac (mat r).c (chainM one 1 r).2), pairD (frac (mat r).d (chainM one 1 r).2)]) := by
  show noErr (sem_Pattern_numbers [patD r]) = _
  rw [numbers_ok r h]
  rfl
theorem is_non : dIs true .non .non = M.pure (.bl false) := rfl
theorem is_tup (ds : List D) : dIs true (.tup ds) .non = M.pure (.bl true) := rfl
theorem ne_bl (x : Bool) : dEq true (.bl x) (.bl x) = M.pure (.bl false) := by cases x <;> rfl
theorem perm2 (a b : D) : perm [0, 1] [a, b] = [a, b] := rfl
end K15
set_option maxRecDepth 100000
set_option maxHeartbeats 1000000
namespace K15
open PySem Ev
theorem ix_scr {ds : List D} {i : Int} {d : D} (h : L2.atI ds i = some d) : dIx (.scr ds) (.int i) = M.pure d := by
  funext S
  show (match L2.atI ds i with | some x => (some (Except.ok x, S) : Option (Except Exn D × List Ob)) | none => none) = _
  rw [h]
  rfl
theorem slice2 (ns : List Int) : dSl (.scr (ns.map D.int)) none (some 2) = M.pure (.lst ((ns.take 2).map D.int)) := by
  show M.pure (D.lst (cutD (ns.map D.int) none (some 2))) = _
  unfold cutD HT.sIx
  simp only [show ¬((2 : Int) < 0) by decide, if_false, List.drop_zero, Nat.sub_zero, List.length_map]
  rw [List.map_take]
  congr 2
  show List.take (min 2 ns.length) _ = _
  rw [← List.length_map (f := D.int), List.take_eq_take_iff]
  omega
theorem cup_ok (S : List Ob) (ns : List Int) (spot : Int) (h0 : 0 ≤ spot) (h1 : spot < 100) (hb : ∀ z ∈ ns, Builtin.Int.intBits z ≤ 1048576) : Wp (sem__law_cup [.scr (ns.map D.int), .int spot]) S fun d S' => d = .ref S.length ∧ Cup S' S.length := by
  have hB : ∀ z ∈ ns, Bd 1048576 z := fun z hz => bd_bits (hb z hz)
  (unfold sem__law_cup; refine Ev.go_fn rfl ?_; unfold pk__law_cup; simp only [Ev.slots, List.map_cons, List.map_nil, List.length_cons, List.length_nil, List.cons_append, List.nil_append, List.replicate, Nat.reduceSub, Nat.reduceAdd])
  refine gs_seq (gs_asg (go_use (P' := fun d S' => S' = S ∧ ∃ z, d = .int z ∧ Bd 1048576 z ∧ ((ns.length : Int) ≤ spot → 0 ≤ z ∧ z < 1000000000)) ?_ ?_))
  · (repeat regstrif_gather)
    simp only [List.length_map]
    refine ite_d (fun c => ?_) (fun c => ?_)
    · (repeat regstrif_gather)
      obtain ⟨m, rfl⟩ : ∃ m : Nat, spot = m := ⟨spot.toNat, by omega⟩
      have hm : m < ns.length := by omega
      refine go_val (r := .int ns[m]) (ix_scr (L2.atI_nat (by rw [List.getElem?_map, List.getElem?_eq_getElem hm]; rfl))) ?_
      exact ⟨rfl, _, rfl, hB _ (List.getElem_mem hm), fun z => by omega⟩
    · (repeat regstrif_gather)
      exact ⟨rfl, _, rfl, (Bd.of64 (by omega) (by omega)).mono (by decide), fun z => by omega⟩
  · rintro d S' ⟨rfl, z, rfl, bz, cz⟩
    refine gs_seq (gs_for (go_use (P' := fun l S2 => S2 = S' ∧ ∃ zs : List Int, l = zs.map D.int ∧ (∀ z ∈ zs, Bd 1048576 z) ∧ (spot < (ns.length : Int) → zs = [])) ?_ ?_))
    · (repeat regstrif_gather)
      simp only [List.length_map]
      refine ite_d (fun c => ?_) (fun c => ?_)
      · (repeat regstrif_gather)
        rw [slice2]
        (repeat regstrif_gather)
        exact ⟨rfl, _, rfl, fun z hz => hB z (List.mem_of_mem_take hz), fun z => by omega⟩
      · (repeat regstrif_gather)
        exact ⟨rfl, [], rfl, fun z hz => (List.not_mem_nil hz).elim, fun _ => rfl⟩
    · rintro l S2 ⟨rfl, zs, rfl, hz, hz0⟩
      refine gs_loop (J := fun ds sd S' => S' = S2 ∧ ∃ (ys : List Int) (u : SV) (z : Int), ds = ys.map D.int ∧ sd = [.val (.scr (ns.map D.int)), .val (.int spot), .val (.int z), u] ∧ (∀ z ∈ ys, Bd 1048576 z) ∧ (spot < (ns.length : Int) → ys = []) ∧ Bd 1048576 z ∧ ((ns.length : Int) ≤ spot → 0 ≤ z ∧ z < 1000000007)) ?_ ?_ _ _ _ ⟨rfl, zs, _, z, rfl, rfl, hz, hz0, bz, fun c => by have := cz c; omega⟩
      · rintro d ds sd S3 ⟨rfl, ys, u, z, e, rfl, hy, hy0, bz, cz⟩
        rcases ys with _ | ⟨y, ys⟩
        · cases e
        cases e
        have c : (ns.length : Int) ≤ spot := by
          by_cases c : (ns.length : Int) ≤ spot
          · exact c
          · exact absurd (hy0 (by omega)) (by simp)
        have := cz c
        refine ⟨_, _, rfl, ?_⟩
        (repeat regstrif_gather)
        have a := Int.emod_nonneg (z * 31 + y) (show (1000000007 : Int) ≠ 0 by decide)
        have b := Int.emod_lt_of_pos (z * 31 + y) (show (0 : Int) < 1000000007 by decide)
        exact ⟨rfl, ys, _, _, rfl, rfl, fun q hq => hy q (List.mem_cons_of_mem _ hq), fun z => by omega, (Bd.of64 (by omega) (by omega)).mono (by decide), fun _ => ⟨a, b⟩⟩
      · rintro sd S3 ⟨rfl, ys, u, z, e, rfl, hy, hy0, bz, cz⟩
        have p18 : dPow (.int 10) (.int 18) = M.pure (.int 1000000000000000000) := by funext S; kernel_rfl
        have b4 : Bd 13 (4099 : Int) := by unfold Bd; decide
        (repeat regstrif_gather)
        have a := Int.emod_nonneg (z * 4099 + 271 * spot + 17) (show (2147483629 : Int) ≠ 0 by decide)
        have b := Int.emod_lt_of_pos (z * 4099 + 271 * spot + 17) (show (0 : Int) < 2147483629 by decide)
        have fin : ∀ w : Int, 0 ≤ w → D.ref S3.length = D.ref S3.length ∧ Cup (S3 ++ [.lst [.int ((z * 4099 + 271 * spot + 17) % 2147483629), .int w]]) S3.length := fun w hw => ⟨rfl, _, _, List.getElem?_concat_length, ⟨a, Int.lt_trans b (by decide)⟩, hw⟩
        refine ite_d (fun c => ?_) (fun c => ?_)
        · (repeat regstrif_gather)
          exact fin _ (by omega)
        · (repeat regstrif_gather)
          rw [p18]
          (repeat regstrif_gather)
          refine ite_d (fun c => ?_) (fun c => ?_)
          · (repeat regstrif_gather)
            exact fin _ (by omega)
          · (repeat regstrif_gather)
            exact fin 0 (by omega)
end K15
set_option maxRecDepth 100000
set_option maxHeartbeats 1000000
namespace K15
open PySem Ev
def scl (r : List Pc) : Int := (chainM one 1 r).2
theorem chain_scl : ∀ (r : List Pc) (m : Mx) (t : Int), (chainM m t r).2 = t * scl r
  | [], m, t => by show t = t * 1; omega
  | p :: r, m, t => by
    have e1 : (chainM m t (p :: r)).2 = (if p.rail then t else t * p.o) * scl r := chain_scl r _ _
    have e2 : scl (p :: r) = (if p.rail then 1 else 1 * p.o) * scl r := chain_scl r _ _
    rw [e1, e2]
    split <;> grind
theorem scl_pos {r : List Pc} (h : ∀ p ∈ r, p.ok) : 0 < scl r := time_pos h (by decide)
theorem det_scl : ∀ {r : List Pc}, (mat r).det = scl r * scl r
  | [] => by decide
  | p :: r => by
    have e2 : scl (p :: r) = (if p.rail then 1 else 1 * p.o) * scl r := chain_scl r _ _
    rw [mat_cons, det_mul, det_scl (r := r), e2]
    obtain ⟨b, o⟩ := p
    cases b with
    | true =>
      have : Mx.det (Pc.m ⟨true, o⟩) = 1 := by show 1 * 1 - o * 0 = 1; omega
      rw [this]
      simp only [if_true]
      grind
    | false =>
      have : Mx.det (Pc.m ⟨false, o⟩) = o * o := by show o * o - 0 * 1 = o * o; omega
      rw [this]
      simp only [Bool.false_eq_true, if_false]
      grind
def qH (m n : Mx) : Int := n.a * m.c - m.a * n.c
def qM (m n : Mx) : Int := n.a * m.d + n.b * m.c - m.a * n.d - m.b * n.c
def qL (m n : Mx) : Int := n.b * m.d - m.b * n.d
def SameN (r q : List Pc) : Prop := (mat r).a * scl q = (mat q).a * scl r ∧ (mat r).b * scl q = (mat q).b * scl r ∧ (mat r).c * scl q = (mat q).c * scl r ∧ (mat r).d * scl q = (mat q).d * scl r
theorem mat_nn {r : List Pc} (h : Row r) : 0 ≤ (mat r).a ∧ 0 ≤ (mat r).b ∧ 0 ≤ (mat r).c ∧ 0 ≤ (mat r).d := ⟨h.sm.1.a.1, h.sm.1.b.1, h.sm.1.c.1, h.sm.1.d.1⟩
theorem ad_pos {m : Mx} (ha : 0 ≤ m.a) (hb : 0 ≤ m.b) (hc : 0 ≤ m.c) (hd : 0 ≤ m.d) (h : 0 < m.det) : 0 < m.a ∧ 0 < m.d := by
  have bc : 0 ≤ m.b * m.c := Int.mul_nonneg hb hc
  have z : 0 < m.a * m.d := by unfold Mx.det at h; omega
  constructor
  · by_cases c : m.a = 0
    · rw [c, Int.zero_mul] at z; omega
    · omega
  · by_cases c : m.d = 0
    · rw [c, Int.mul_zero] at z; omega
    · omega
theorem sq_eq {x y : Int} (hx : 0 ≤ x) (hy : 0 ≤ y) (h : x * x = y * y) : x = y := by
  rcases Int.lt_trichotomy x y with l | l | l
  · have a : x * x ≤ x * y := Int.mul_le_mul_of_nonneg_left (by omega) hx
    have b : x * y < y * y := Int.mul_lt_mul_of_pos_right l (by omega)
    omega
  · exact l
  · have a : y * y ≤ y * x := Int.mul_le_mul_of_nonneg_left (by omega) hy
    have b : y * x < x * x := Int.mul_lt_mul_of_pos_right l (by omega)
    omega
theorem same_iff {r q : List Pc} (hr : Row r) (hq : Row q) : SameN r q ↔ qH (mat r) (mat q) = 0 ∧ qM (mat r) (mat q) = 0 ∧ qL (mat r) (mat q) = 0 := by
  have dr := det_scl (r := r)
  have dq := det_scl (r := q)
  have pr := det_pos hr.1
  have pq := det_pos hq.1
  have sr := scl_pos hr.1
  have sq := scl_pos hq.1
  obtain ⟨a0, b0, c0, d0⟩ := mat_nn hr
  obtain ⟨e0, f0, g0, h0⟩ := mat_nn hq
  obtain ⟨a1, d1⟩ := ad_pos a0 b0 c0 d0 pr
  obtain ⟨e1, h1⟩ := ad_pos e0 f0 g0 h0 pq
  unfold SameN qH qM qL
  unfold Mx.det at dr dq pr pq
  generalize (mat r).a = a at *
  generalize (mat r).b = b at *
  generalize (mat r).c = c at *
  generalize (mat r).d = d at *
  generalize (mat q).a = e at *
  generalize (mat q).b = f at *
  generalize (mat q).c = g at *
  generalize (mat q).d = h at *
  generalize scl r = s at *
  generalize scl q = t at *
  have st : s * t ≠ 0 := Int.mul_ne_zero (by omega) (by omega)
  constructor
  · rintro ⟨x1, x2, x3, x4⟩
    refine ⟨?_, ?_, ?_⟩
    · have : (s * t) * (e * c - a * g) = 0 := by grind
      rcases Int.mul_eq_zero.mp this with z | z
      · exact absurd z st
      · exact z
    · have : (s * t) * (e * d + f * c - a * h - b * g) = 0 := by grind
      rcases Int.mul_eq_zero.mp this with z | z
      · exact absurd z st
      · exact z
    · have : (s * t) * (f * d - b * h) = 0 := by grind
      rcases Int.mul_eq_zero.mp this with z | z
      · exact absurd z st
      · exact z
  · rintro ⟨y1, y2, y3⟩
    have y4 : (e * d - a * h) * (e * h - f * g) = 0 := by grind
    have y5 : e * d = a * h := by
      rcases Int.mul_eq_zero.mp y4 with z | z
      · omega
      · omega
    have y6 : b * g = f * c := by omega
    have z1 : a * t = e * s := by
      refine sq_eq (Int.mul_nonneg (by omega) (by omega)) (Int.mul_nonneg (by omega) (by omega)) ?_
      have u : a * t * (a * t) = a * a * (t * t) := by grind
      have v : e * s * (e * s) = e * e * (s * s) := by grind
      rw [u, v, ← dr, ← dq]
      grind
    have z4 : d * t = h * s := by
      have : e * (d * t - h * s) = 0 := by grind
      rcases Int.mul_eq_zero.mp this with z | z
      · omega
      · omega
    refine ⟨z1, ?_, ?_, z4⟩
    · have : h * (b * t - f * s) = 0 := by grind
      rcases Int.mul_eq_zero.mp this with z | z
      · omega
      · omega
    · have : e * (c * t - g * s) = 0 := by grind
      rcases Int.mul_eq_zero.mp this with z | z
      · omega
      · omega
theorem frac_iff {x s y t : Int} (hx : 0 ≤ x) (hs : 0 < s) (hy : 0 ≤ y) (ht : 0 < t) : frac x s = frac y t ↔ x * t = y * s := by
  constructor
  · intro e
    obtain ⟨g, g0, a, b⟩ := frac_mul hx hs
    obtain ⟨h, h0, c, d⟩ := frac_mul hy ht
    rw [← a, ← b, ← c, ← d, e]
    grind
  · intro e
    obtain ⟨a, b⟩ := low_cross hx (show 0 ≤ s by omega) (by omega) hy (show 0 ≤ t by omega) (by omega) e
    unfold frac
    rw [a, b]
def quad (m n : Mx) (v : Int × Int) : Int := qH m n * (v.1 * v.1) + qM m n * (v.1 * v.2) + qL m n * (v.2 * v.2)
theorem quad_eq (m n : Mx) (v : Int × Int) : quad m n v = n.top v.1 v.2 * m.bot v.1 v.2 - m.top v.1 v.2 * n.bot v.1 v.2 := by
  unfold quad qH qM qL Mx.top Mx.bot
  grind
theorem quad_low (m n : Mx) {v : Int × Int} (ht : 0 ≤ v.1) (hb : 0 ≤ v.2) (hp : 0 < v.1 + v.2) : quad m n (lowP v) < 0 ↔ quad m n v < 0 := by
  obtain ⟨g, g0, a, b⟩ := lowP_mul ht hb hp
  have e : quad m n v = g * g * quad m n (lowP v) := by
    unfold quad
    rw [← a, ← b]
    grind
  have gg : 0 < g * g := Int.mul_pos g0 g0
  rw [e]
  constructor
  · intro z
    have := Int.mul_lt_mul_of_pos_left z gg
    omega
  · intro z
    rcases Int.lt_or_le (quad m n (lowP v)) 0 with l | l
    · exact l
    · have := Int.mul_nonneg (show 0 ≤ g * g by omega) l
      omega
theorem front_low {r : List Pc} (h : Row r) {v : Int × Int} (hv : Vec 100 v) : lowP (frontV r v) = lowP ((mat r).top v.1 v.2, (mat r).bot v.1 v.2) := (shows_front h hv).symm
theorem quad_below {r q : List Pc} (hr : Row r) (hq : Row q) {v : Int × Int} (hv : Vec 100 v) : ((lowP (frontV q v)).1 * (lowP (frontV r v)).2 < (lowP (frontV r v)).1 * (lowP (frontV q v)).2) ↔ quad (mat r) (mat q) v < 0 := by
  obtain ⟨z1, _⟩ := mat_vec hr.1 hv
  obtain ⟨z2, _⟩ := mat_vec hq.1 hv
  obtain ⟨g, g0, a1, a2⟩ := lowP_mul z1.t.1 z1.b.1 z1.p
  obtain ⟨h, h0, b1, b2⟩ := lowP_mul z2.t.1 z2.b.1 z2.p
  rw [front_low hr hv, front_low hq hv, ← below_iff h0 g0, a1, a2, b1, b2, quad_eq]
  dsimp only
  constructor <;> intro z <;> omega
theorem front_eq {r q : List Pc} (hr : Row r) (hq : Row q) {v : Int × Int} (hv : Vec 100 v) : lowP (frontV r v) = lowP (frontV q v) ↔ quad (mat r) (mat q) v = 0 := by
  obtain ⟨z1, _⟩ := mat_vec hr.1 hv
  obtain ⟨z2, _⟩ := mat_vec hq.1 hv
  rw [front_low hr hv, front_low hq hv, quad_eq]
  constructor
  · intro e
    obtain ⟨g, g0, a1, a2⟩ := lowP_mul z1.t.1 z1.b.1 z1.p
    obtain ⟨h, h0, b1, b2⟩ := lowP_mul z2.t.1 z2.b.1 z2.p
    have a1 : g * (lowP ((mat r).top v.1 v.2, (mat r).bot v.1 v.2)).1 = (mat r).top v.1 v.2 := a1
    have a2 : g * (lowP ((mat r).top v.1 v.2, (mat r).bot v.1 v.2)).2 = (mat r).bot v.1 v.2 := a2
    have b1 : h * (lowP ((mat q).top v.1 v.2, (mat q).bot v.1 v.2)).1 = (mat q).top v.1 v.2 := b1
    have b2 : h * (lowP ((mat q).top v.1 v.2, (mat q).bot v.1 v.2)).2 = (mat q).bot v.1 v.2 := b2
    rw [← a1, ← a2, ← b1, ← b2, e]
    grind
  · intro e
    obtain ⟨x, y⟩ := low_cross z1.t.1 z1.b.1 z1.p z2.t.1 z2.b.1 z2.p (by dsimp only; omega)
    unfold lowP
    rw [x, y]
theorem bd_sm {k : Nat} {x : Int} (h : Sm k x) : Bd k x := .mk h.nat
theorem Row.sm41 {r : List Pc} (h : Row r) : (mat r).S 41 ∧ Sm 41 (scl r) := by
  obtain ⟨a, b⟩ := chain_sm r one 1 1 h.1 one_sm ⟨by decide, by decide⟩
  have l := h.2
  exact ⟨a.mono (by omega), b.mono (by omega)⟩
end K15
set_option maxRecDepth 100000
set_option maxHeartbeats 1000000
namespace K15
open PySem Ev
def RowN (r : List Pc) : Prop := (∀ p ∈ r, p.ok) ∧ 1 ≤ r.length ∧ r.length ≤ 8
theorem RowN.row {r : List Pc} (h : RowN r) : Row r := ⟨h.1, h.2.2⟩
theorem RowN.ne {r : List Pc} (h : RowN r) : r ≠ [] := by
  intro e
  have := h.2.1
  rw [e] at this
  simp at this
theorem sip_wp {S : List Ob} {n : Nat} {many : Int} {P : D → List Ob → Prop} (h : Cup S n) (hm : 0 < many) (hm2 : many ≤ 1000) (q : ∀ r S', 0 ≤ r → r < many → Cup S' n → P (.int r) S') : Wp (sem__law_sip [.ref n, .int many]) S P :=
  ((sip_ok S n many h hm hm2).mono fun d S' z => by obtain ⟨r, rfl, a, b, c⟩ := z; exact q r S' a b c).wp
theorem row_wp {S : List Ob} {n : Nat} {k : Int} {P : D → List Ob → Prop} (h : Cup S n) (k0 : 0 < k) (k1 : k ≤ 8) (q : ∀ r S', RowN r → (r.length : Int) ≤ k → Cup S' n → P (.lst (r.map Pc.D)) S') : Wp (sem__law_row [.ref n, .int k]) S P :=
  ((row_draw_m k k0 k1 S n h).mono fun d S' z => by obtain ⟨r, rfl, a, b, c, e⟩ := z; exact q r S' ⟨a, b, by omega⟩ (by omega) e).wp
theorem at_row {r : List Pc} {i : Int} (h0 : 0 ≤ i) (h1 : i < r.length) : ∃ p ∈ r, L2.atI (r.map Pc.D) i = some (Pc.D p) := by
  obtain ⟨m, rfl⟩ : ∃ m : Nat, i = m := ⟨i.toNat, by omega⟩
  have hm : m < r.length := by omega
  exact ⟨r[m], List.getElem_mem hm, L2.atI_nat (by rw [List.getElem?_map, List.getElem?_eq_getElem hm]; rfl)⟩
end K15
set_option maxRecDepth 100000
set_option maxHeartbeats 1000000
namespace K15
open PySem Ev
theorem go_filter {α : Type} {f g : α → D} {p : α → Bool} {t : TgP} {tt : List SV → M Bool} {fe : List SV → M D} {sdw : List SV} {S : List Ob} {P : List D → List Ob → Prop} (xs : List α)
    (step : ∀ x ∈ xs, ∃ sd1, t (f x) sdw = some sd1 ∧ tt sd1 = M.pure (p x) ∧ (p x = true → fe sd1 = M.pure (g x))) (l : xs.length ≤ lim) (h : P ((xs.filter p).map g) S) : Wp (compS t tt fe sdw (xs.map f) []) S P := by
  refine go_comp (J := fun ds acc S' => S' = S ∧ ∃ ys : List α, ds = ys.map f ∧ (∀ y ∈ ys, y ∈ xs) ∧ acc.length + ys.length ≤ lim ∧ acc ++ (ys.filter p).map g = (xs.filter p).map g) ?_ ?_ _ _ _ ⟨rfl, xs, rfl, fun _ h => h, by simpa using l, rfl⟩
  · rintro d ds acc S' ⟨rfl, ys, e, hm, hl, he⟩
    rcases ys with _ | ⟨y, ys⟩
    · cases e
    rw [List.map_cons] at e
    cases e
    obtain ⟨sd1, e1, e2, e3⟩ := step y (hm y List.mem_cons_self)
    rw [List.length_cons] at hl
    refine ⟨sd1, e1, by omega, go_val e2 ?_⟩
    cases hp : p y with
    | false =>
      rw [if_neg (by simp)]
      rw [List.filter_cons_of_neg (by simp [hp])] at he
      exact ⟨rfl, ys, rfl, fun z hz => hm z (List.mem_cons_of_mem _ hz), by omega, he⟩
    | true =>
      rw [if_pos rfl]
      rw [List.filter_cons_of_pos hp, List.map_cons] at he
      refine go_val (e3 hp) ⟨rfl, ys, rfl, fun z hz => hm z (List.mem_cons_of_mem _ hz), ?_, ?_⟩
      · rw [List.length_append, List.length_singleton]; omega
      · rw [List.append_assoc]; exact he
  · rintro acc S' ⟨rfl, ys, e, hm, hl, he⟩
    rcases ys with _ | ⟨y, ys⟩
    · rw [← he] at h
      simpa using h
    · cases e
theorem front_pair {r : List Pc} (h : Row r) {v : Int × Int} (hv : Vec 100 v) : sem__law_front [.lst (r.map Pc.D), pairD v] = M.pure (pairD (lowP (frontV r v))) := front_ok r h v hv
theorem front_vec3 {r : List Pc} (h : Row r) {v : Int × Int} (hv : Vec 100 v) : Vec 300 (lowP (frontV r v)) := by
  have f := front_vec h.1 hv
  have l := h.2
  have lo := low_sm f.t f.b f.p
  exact ⟨lo.1.mono (by omega), lo.2.mono (by omega), low_pos f.t.1 f.b.1 f.p⟩
theorem test_ok {r q : List Pc} (hr : Row r) (hq : Row q) {v : Int × Int} (hv : Vec 100 v) : sem__law_below [pairD (lowP (frontV q v)), pairD (lowP (frontV r v))] = M.pure (.bl (decide (quad (mat r) (mat q) v < 0))) := by
  rw [below_ok _ _ (front_vec3 hq hv) (front_vec3 hr hv)]
  congr 2
  exact decide_eq_decide.mpr (quad_below hr hq hv)
theorem eq_nil (l : List (Int × Int)) : dEq false (.lst (l.map pairD)) (.lst []) = M.pure (.bl (decide (l = []))) := by
  have h : Pln 2 (.lst (l.map pairD)) (.list (l.map fun v => PyData.tuple [.int v.1, .int v.2])) := pln_lst (pll_map fun v _ => pln_tup (pll_cons pln_int (pll_cons pln_int pll_nil)))
  refine eq_pln false h (pln_lst pll_nil) (by decide) (by decide) (P := l = []) ?_ rfl
  constructor
  · intro e
    cases l with
    | nil => rfl
    | cons x xs => simp at e
  · rintro rfl
    rfl
theorem vec_shw {k : Nat} {v : Int × Int} (h : Vec k v) (hk : k ≤ 1900) : Shw 1 4000 (pairD v) :=
  (shw_tup (shl_cons (shw_int (bd_sm h.t) (by omega)) (shl_cons (shw_int (bd_sm h.b) (by omega)) shl_nil))).mono (by decide) (by decide)
end K15
set_option maxRecDepth 100000
set_option maxHeartbeats 1000000
namespace K15
open PySem Ev
def nums (r : List Pc) : D := .tup [pairD (frac (mat r).a (scl r)), pairD (frac (mat r).b (scl r)), pairD (frac (mat r).c (scl r)), pairD (frac (mat r).d (scl r))]
def pairQ (v : Int × Int) : PyData := .tuple [.int v.1, .int v.2]
theorem pairQ_inj {v w : Int × Int} : pairQ v = pairQ w ↔ v = w := by
  obtain ⟨a, b⟩ := v
  obtain ⟨c, d⟩ := w
  simp [pairQ]
theorem nums_eq (neg : Bool) {r q : List Pc} (hr : Row r) (hq : Row q) [Decidable (SameN r q)] : dEq neg (nums r) (nums q) = M.pure (.bl (if neg then !decide (SameN r q) else decide (SameN r q))) := by
  have pp : ∀ v : Int × Int, Pln 1 (pairD v) (pairQ v) := fun v => pln_tup (pll_cons pln_int (pll_cons pln_int pll_nil))
  have sr := scl_pos hr.1
  have sq := scl_pos hq.1
  obtain ⟨a0, b0, c0, d0⟩ := mat_nn hr
  obtain ⟨e0, f0, g0, h0⟩ := mat_nn hq
  refine eq_pln neg (pln_tup (pll_cons (pp _) (pll_cons (pp _) (pll_cons (pp _) (pll_cons (pp _) pll_nil))))) (pln_tup (pll_cons (pp _) (pll_cons (pp _) (pll_cons (pp _) (pll_cons (pp _) pll_nil))))) (by decide) (by decide) (P := SameN r q) ?_ rfl
  simp only [PyData.tuple.injEq, List.cons.injEq, and_true, pairQ_inj]
  rw [frac_iff a0 sr e0 sq, frac_iff b0 sr f0 sq, frac_iff c0 sr g0 sq, frac_iff d0 sr h0 sq]
  exact Iff.rfl
instance (r q : List Pc) : Decidable (SameN r q) := by unfold SameN; exact inferInstance
theorem pateq_ok {r q : List Pc} (hr : Row r) (hq : Row q) : sem_PatternX_eqX [patD r, patD q] = M.pure (.bl (decide (SameN r q))) := by
  refine pure_wp fun S => ?_
  (unfold sem_PatternX_eqX; refine Ev.go_fn rfl ?_; unfold pk_PatternX_eqX; simp only [Ev.slots, List.map_cons, List.map_nil, List.length_cons, List.length_nil, List.cons_append, List.nil_append, List.replicate, Nat.reduceSub, Nat.reduceAdd])
  (repeat regstrif_gather)
  refine go_val (isa_pat q) ?_
  (repeat regstrif_gather)
  refine go_val (attr_numbers r hr) ?_
  (repeat regstrif_gather)
  refine go_val (attr_numbers q hq) ?_
  refine go_val (nums_eq false hr hq) ?_
  exact ⟨rfl, rfl⟩
theorem eqX_pat (neg : Bool) {r q : List Pc} (hr : Row r) (hq : Row q) : eqX neg (tab [(1, sem_PatternX_eqX)]) (patD r) (patD q) = M.pure (.bl (neg != decide (SameN r q))) := by
  show M.bind (noErr (sem_PatternX_eqX [patD r, patD q])) (fun r => M.bind (toB r) fun b => M.pure (D.bl (neg != b))) = _
  rw [pateq_ok hr hq]
  rfl
end K15
set_option maxRecDepth 100000
set_option maxHeartbeats 1000000
namespace K15
open PySem Ev
def rtN : Nat → Nat
  | 0 => 0
  | n + 1 => if (rtN n + 1) * (rtN n + 1) ≤ n + 1 then rtN n + 1 else rtN n
theorem rtN_is : ∀ n : Nat, IsRt n (rtN n)
  | 0 => ⟨by decide, by decide, by decide⟩
  | n + 1 => by
    have h := rtN_is n
    have a := h.nn
    have b := h.le
    have c := h.lt
    unfold rtN
    by_cases z : (rtN n + 1) * (rtN n + 1) ≤ n + 1
    · rw [if_pos z]
      have z' : ((rtN n : Int) + 1) * ((rtN n : Int) + 1) ≤ (n : Int) + 1 := by exact_mod_cast z
      have e : ((rtN n + 1 : Nat) : Int) = (rtN n : Int) + 1 := by omega
      rw [e]
      refine ⟨by omega, by omega, ?_⟩
      have : ((rtN n : Int) + 1 + 1) * ((rtN n : Int) + 1 + 1) = ((rtN n : Int) + 1) * ((rtN n : Int) + 1) + 2 * (rtN n : Int) + 3 := by grind
      omega
    · rw [if_neg z]
      have z' : ¬ ((rtN n : Int) + 1) * ((rtN n : Int) + 1) ≤ (n : Int) + 1 := by exact_mod_cast z
      exact ⟨a, by omega, by omega⟩
@[irreducible] def rt (n : Int) : Int := rtN n.toNat
theorem rt_is {n : Int} (h : 0 ≤ n) : IsRt n (rt n) := by
  have := rtN_is n.toNat
  unfold rt
  have e : (n.toNat : Int) = n := by omega
  rw [e] at this
  exact this
structure Eqn (a b c : Int) : Prop where
  a0 : 0 ≤ a
  a1 : a < 2 ^ 140
  b0 : -(2 ^ 140) < b
  b1 : b < 2 ^ 140
  c0 : 0 ≤ c
  c1 : c < 2 ^ 140
  z : a = 0 → 1 ≤ b
  p : 0 < a → 0 < c
def wth (a b c : Int) : Int := b * b + 4 * a * c
def norm (a b c : Int) : Int × Int × Int :=
  if a = 0 then (0, (lowP (c, b)).2, (lowP (c, b)).1)
  else if rt (wth a b c) * rt (wth a b c) = wth a b c then (0, (lowP (rt (wth a b c) - b, 2 * a)).2, (lowP (rt (wth a b c) - b, 2 * a)).1)
  else (a / (Int.gcd (Int.gcd a b.natAbs) c : Int), b / (Int.gcd (Int.gcd a b.natAbs) c : Int), c / (Int.gcd (Int.gcd a b.natAbs) c : Int))
def tri (v : Int × Int × Int) : D := .tup [.int v.1, .int v.2.1, .int v.2.2]
theorem wth_bd {a b c : Int} (h : Eqn a b c) : 0 ≤ wth a b c ∧ wth a b c < 2 ^ 290 := by
  obtain ⟨a0, a1, b0, b1, c0, c1, z, p⟩ := h
  have ac : 0 ≤ a * c := Int.mul_nonneg a0 c0
  have ac1 : a * c < 2 ^ 280 := (Sm.mul (j := 140) (k := 140) ⟨a0, a1⟩ ⟨c0, c1⟩).2
  have bb : b * b = (b.natAbs : Int) * (b.natAbs : Int) := by rw [Int.natAbs_mul_self']
  have bs := (Sm.mul (j := 140) (k := 140) (x := (b.natAbs : Int)) (y := (b.natAbs : Int)) ⟨by omega, by omega⟩ ⟨by omega, by omega⟩)
  obtain ⟨b2, b3⟩ := bs
  rw [← bb] at b2 b3
  have e : 4 * a * c = 4 * (a * c) := by grind
  unfold wth
  rw [e]
  omega
theorem gcd_pos' {a b c : Int} (h : 0 < a) : 0 < (Int.gcd (Int.gcd a b.natAbs) c : Int) ∧ (Int.gcd (Int.gcd a b.natAbs) c : Int) ≤ a := by
  have g1 : Int.gcd a b.natAbs ∣ a.natAbs := Int.gcd_dvd_natAbs_left _ _
  have g2 : Int.gcd (Int.gcd a b.natAbs) c ∣ Int.gcd a b.natAbs := by
    have := Int.gcd_dvd_natAbs_left (Int.gcd a b.natAbs : Int) c
    simpa using this
  have g3 := Nat.dvd_trans g2 g1
  have l := Nat.le_of_dvd (by omega) g3
  have p := Nat.pos_of_dvd_of_pos g3 (by omega)
  omega
theorem rt_big {a b c : Int} (h : Eqn a b c) (ha : 0 < a) : b.natAbs ≤ rt (wth a b c) := by
  obtain ⟨w0, w1⟩ := wth_bd h
  have r := rt_is w0
  have rn := r.nn
  have ac : 0 < a * c := Int.mul_pos ha (h.p ha)
  rcases Int.lt_or_le (rt (wth a b c)) b.natAbs with z | z
  · have l : (rt (wth a b c) + 1) * (rt (wth a b c) + 1) ≤ (b.natAbs : Int) * (b.natAbs : Int) := Int.mul_le_mul (by omega) (by omega) (by omega) (by omega)
    rw [Int.natAbs_mul_self'] at l
    have := r.lt
    have e : wth a b c = b * b + 4 * (a * c) := by unfold wth; grind
    omega
  · exact z
end K15
set_option maxRecDepth 100000
set_option maxHeartbeats 1000000
namespace K15
open PySem Ev
theorem between_ok (x lo hi : Int) : sem_is_between [.int x, .int lo, .int hi] = M.pure (.bl (decide (lo ≤ x ∧ x ≤ hi))) := by
  refine pure_wp fun S => ?_
  (unfold sem_is_between; refine Ev.go_fn rfl ?_; unfold pk_is_between; simp only [Ev.slots, List.map_cons, List.map_nil, List.length_cons, List.length_nil, List.cons_append, List.nil_append, List.replicate, Nat.reduceSub, Nat.reduceAdd])
  (repeat regstrif_gather)
  refine go_val (is_integer_ok x) ?_
  (repeat regstrif_gather)
  unfold chainD
  (repeat regstrif_gather)
  refine ite_d (fun c => ?_) (fun c => ?_)
  · (repeat regstrif_gather)
    exact ⟨by simp [c], rfl⟩
  · (repeat regstrif_gather)
    exact ⟨by simp [c], rfl⟩
def exD (v : Int × Int × Int) : D := .ins 2 [tri v]
def MOSTI : Int := 10000000000000000000000000000000000000000
def limD (r : List Pc) : D := if (mat r).c = 0 then .tup [.int 1, .int 0] else if (mat r).b = 0 then exD (norm 0 1 0) else exD (norm (mat r).c ((mat r).d - (mat r).a) (mat r).b)
def ladD (r : List Pc) (v : Int × Int) : D := .ins 5 [pairD v, patD r]
theorem check_pat_ok (r : List Pc) : sem_check_pattern [patD r] = M.pure .non := by
  refine pure_wp fun S => ?_
  (unfold sem_check_pattern; refine Ev.go_fn rfl ?_; unfold pk_check_pattern; simp only [Ev.slots, List.map_cons, List.map_nil, List.length_cons, List.length_nil, List.cons_append, List.nil_append, List.replicate, Nat.reduceSub, Nat.reduceAdd])
  (repeat regstrif_gather)
  refine go_val (r := .bl true) rfl ?_
  (repeat regstrif_gather)
  exact ⟨trivial, rfl⟩
theorem ladder_ok (r : List Pc) (v : Int × Int) (d : D) (hc : sem_check_resistance [d] = M.pure .non) (hp : sem_pair_of [d] = M.pure (pairD v)) : sem_LadderX_initX [patD r, d] = M.pure (ladD r v) := by
  refine pure_wp fun S => ?_
  unfold sem_LadderX_initX
  refine go_mk rfl ?_
  unfold pk_LadderX_initX
  simp only [Ev.slots, List.map_cons, List.map_nil, List.length_cons, List.length_nil, List.cons_append, List.nil_append, List.replicate, Nat.reduceSub, Nat.reduceAdd]
  (repeat regstrif_gather)
  refine go_val (check_pat_ok r) ?_
  (repeat regstrif_gather)
  refine go_val hc ?_
  (repeat regstrif_gather)
  refine gs_sup (by exact rfl) (by exact rfl) ?_
  (repeat regstrif_gather)
  refine go_val hp ?_
  (repeat regstrif_gather)
  refine ⟨rfl, ?_⟩
  unfold pk_RunX_initX
  simp only [Ev.slots, List.map_cons, List.map_nil, List.length_cons, List.length_nil, List.cons_append, List.nil_append, List.replicate, Nat.reduceSub, Nat.reduceAdd]
  (repeat regstrif_gather)
  refine gs_setF (by exact rfl) (by exact rfl) ?_
  (repeat regstrif_gather)
  refine ⟨_, rfl, ?_⟩
  (repeat regstrif_gather)
  refine ⟨_, rfl, ?_⟩
  (repeat regstrif_gather)
  refine gs_setF (by exact rfl) (by exact rfl) ?_
  (repeat regstrif_gather)
  refine ⟨_, rfl, ?_⟩
  (repeat regstrif_gather)
  exact ⟨_, rfl, rfl, rfl⟩
end K15
set_option maxRecDepth 100000
set_option maxHeartbeats 1000000
namespace K15
open PySem Ev
def Mx.flip (m : Mx) : Mx := ⟨m.d, m.b, m.c, m.a⟩
theorem flip_mul (m n : Mx) : (m.mul n).flip = n.flip.mul m.flip := by
  simp only [Mx.flip, Mx.mul, Mx.mk.injEq]
  refine ⟨by grind, by grind, by grind, by grind⟩
theorem flip_pc (p : Pc) : p.m.flip = p.m := by
  obtain ⟨b, o⟩ := p
  cases b <;> rfl
theorem mat_one (p : Pc) : mat [p] = p.m := by
  rw [mat_cons]
  show p.m.mul one = _
  rw [Mx.mul_one]
theorem mat_rev : ∀ r : List Pc, mat r.reverse = (mat r).flip
  | [] => rfl
  | p :: r => by
    rw [List.reverse_cons, mat_app, mat_rev r, mat_one, mat_cons, flip_mul, flip_pc]
theorem scl_app : ∀ r q : List Pc, scl (r ++ q) = scl r * scl q
  | [], q => by show scl q = 1 * scl q; omega
  | p :: r, q => by
    have e1 : scl (p :: (r ++ q)) = (if p.rail then 1 else 1 * p.o) * scl (r ++ q) := chain_scl (r ++ q) _ _
    have e2 : scl (p :: r) = (if p.rail then 1 else 1 * p.o) * scl r := chain_scl r _ _
    rw [List.cons_append, e1, e2, scl_app r q]
    grind
theorem scl_rev : ∀ r : List Pc, scl r.reverse = scl r
  | [] => rfl
  | p :: r => by
    have e1 : scl [p] = (if p.rail then 1 else 1 * p.o) * scl [] := chain_scl [] _ _
    have e2 : scl (p :: r) = (if p.rail then 1 else 1 * p.o) * scl r := chain_scl r _ _
    have e3 : scl [] = 1 := rfl
    rw [List.reverse_cons, scl_app, scl_rev r, e1, e2, e3]
    grind
theorem row_rev {r : List Pc} (h : Row r) : Row r.reverse := ⟨fun p hp => h.1 p (List.mem_reverse.mp hp), by rw [List.length_reverse]; exact h.2⟩
theorem fmt_pc {p : Pc} (h : p.ok) (x : SV) : ∀ S, joinFs [fun sd => M.bind (getv 1 sd) dFmt, fun _ => M.pure (D.str " "), fun sd => M.bind (getv 2 sd) dFmt] Str.empty [x, .val (.str p.w), .val (.int p.o)] S = some (.ok (.str p.text), S) := by
  revert p
  intro p h
  refine pc_all (P := fun p => ∀ S, joinFs [fun sd => M.bind (getv 1 sd) dFmt, fun _ => M.pure (D.str " "), fun sd => M.bind (getv 2 sd) dFmt] Str.empty [x, .val (.str p.w), .val (.int p.o)] S = some (.ok (.str p.text), S)) ?_ ?_ ?_ ?_ ?_ ?_ ?_ ?_ ?_ ?_ ?_ ?_ h
  all_goals
    intro b S
    cases b <;> kernel_rfl
theorem str_ok {r : List Pc} (h : Row r) : sem_PatternX_strX [patD r] = M.pure (.str (rowText r)) := by
  refine pure_wp fun S => ?_
  (unfold sem_PatternX_strX; refine Ev.go_fn rfl ?_; unfold pk_PatternX_strX; simp only [Ev.slots, List.map_cons, List.map_nil, List.length_cons, List.length_nil, List.cons_append, List.nil_append, List.replicate, Nat.reduceSub, Nat.reduceAdd])
  (repeat regstrif_gather)
  refine go_val (r := (", " : Str)) rfl ?_
  (repeat regstrif_gather)
  refine go_val (attr_row r) ?_
  unfold rowD
  (repeat regstrif_gather)
  refine go_filter (p := fun _ => true) (f := Pc.D) (g := fun p => D.str p.text) r ?_ (by have := h.2; unfold lim; omega) ?_
  · intro p hp
    refine ⟨_, rfl, rfl, fun _ => ?_⟩
    funext S
    exact fmt_pc (h.1 p hp) _ S
  · (repeat regstrif_gather)
    rw [List.filter_eq_self.mpr fun _ _ => rfl]
    exact go_val (join_row r h) ⟨rfl, rfl⟩
end K15
set_option maxRecDepth 100000
set_option maxHeartbeats 1000000
namespace K15
open PySem Ev
theorem ad_ge : ∀ {r : List Pc}, (∀ p ∈ r, p.ok) → scl r ≤ (mat r).a ∧ scl r ≤ (mat r).d ∧ 0 ≤ (mat r).b ∧ 0 ≤ (mat r).c ∧ 0 < scl r
  | [], _ => by decide
  | p :: r, h => by
    obtain ⟨i1, i2, i3, i4, i5⟩ := ad_ge (r := r) fun q hq => h q (List.mem_cons_of_mem _ hq)
    have hp := h p List.mem_cons_self
    have e2 : scl (p :: r) = (if p.rail then 1 else 1 * p.o) * scl r := chain_scl r _ _
    obtain ⟨b, o⟩ := p
    have o1 : 1 ≤ o := hp.1
    rw [mat_cons, e2]
    cases b with
    | true =>
      have oc := Int.mul_nonneg (show 0 ≤ o by omega) i4
      have od := Int.mul_nonneg (show 0 ≤ o by omega) (show 0 ≤ (mat r).d by omega)
      simp only [Mx.mul, Pc.m, if_true]
      omega
    | false =>
      have oa := Int.mul_le_mul_of_nonneg_left i1 (show 0 ≤ o by omega)
      have od := Int.mul_le_mul_of_nonneg_left i2 (show 0 ≤ o by omega)
      have ob := Int.mul_nonneg (show 0 ≤ o by omega) i3
      have oc := Int.mul_nonneg (show 0 ≤ o by omega) i4
      have os := Int.mul_pos (show 0 < o by omega) i5
      simp only [Mx.mul, Pc.m, Bool.false_eq_true, if_false, Int.one_mul]
      omega
theorem rung_c : ∀ {r : List Pc}, (∀ p ∈ r, p.ok) → (∃ p ∈ r, p.rail = false) → 0 < (mat r).c
  | [], _, h => by obtain ⟨p, h, _⟩ := h; cases h
  | p :: r, h, hx => by
    have hr : ∀ q ∈ r, q.ok := fun q hq => h q (List.mem_cons_of_mem _ hq)
    obtain ⟨i1, i2, i3, i4, i5⟩ := ad_ge hr
    have hp := h p List.mem_cons_self
    obtain ⟨b, o⟩ := p
    have o1 : 1 ≤ o := hp.1
    rw [mat_cons]
    cases b with
    | true =>
      obtain ⟨q, hq, e⟩ := hx
      rcases List.mem_cons.mp hq with rfl | hq
      · cases e
      have := rung_c hr ⟨q, hq, e⟩
      show 0 < 0 * (mat r).a + 1 * (mat r).c
      omega
    | false =>
      have oc := Int.mul_nonneg (show 0 ≤ o by omega) i4
      show 0 < 1 * (mat r).a + o * (mat r).c
      omega
theorem rail_b : ∀ {r : List Pc}, (∀ p ∈ r, p.ok) → (∃ p ∈ r, p.rail = true) → 0 < (mat r).b
  | [], _, h => by obtain ⟨p, h, _⟩ := h; cases h
  | p :: r, h, hx => by
    have hr : ∀ q ∈ r, q.ok := fun q hq => h q (List.mem_cons_of_mem _ hq)
    obtain ⟨i1, i2, i3, i4, i5⟩ := ad_ge hr
    have hp := h p List.mem_cons_self
    obtain ⟨b, o⟩ := p
    have o1 : 1 ≤ o := hp.1
    rw [mat_cons]
    cases b with
    | true =>
      have od := Int.mul_pos (show 0 < o by omega) (show 0 < (mat r).d by omega)
      show 0 < 1 * (mat r).b + o * (mat r).d
      omega
    | false =>
      obtain ⟨q, hq, e⟩ := hx
      rcases List.mem_cons.mp hq with rfl | hq
      · cases e
      have := Int.mul_pos (show 0 < o by omega) (rail_b hr ⟨q, hq, e⟩)
      show 0 < o * (mat r).b + 0 * (mat r).d
      omega
theorem norm_sq {a b c : Int} (ha : a ≠ 0) (h : rt (wth a b c) * rt (wth a b c) = wth a b c) : norm a b c = (0, (lowP (rt (wth a b c) - b, 2 * a)).2, (lowP (rt (wth a b c) - b, 2 * a)).1) := by
  unfold norm
  rw [if_neg ha, if_pos h]
theorem norm_no {a b c : Int} (ha : a ≠ 0) (h : ¬ rt (wth a b c) * rt (wth a b c) = wth a b c) : norm a b c = (a / (Int.gcd (Int.gcd a b.natAbs) c : Int), b / (Int.gcd (Int.gcd a b.natAbs) c : Int), c / (Int.gcd (Int.gcd a b.natAbs) c : Int)) := by
  unfold norm
  rw [if_neg ha, if_neg h]
theorem wth_neg (a b c : Int) : wth a (-b) c = wth a b c := by
  unfold wth
  grind
theorem norm_neg {a b c : Int} (ha : 0 < a) (h : ¬ rt (wth a b c) * rt (wth a b c) = wth a b c) : norm a (-b) c = ((norm a b c).1, -(norm a b c).2.1, (norm a b c).2.2) := by
  have h2 : ¬ rt (wth a (-b) c) * rt (wth a (-b) c) = wth a (-b) c := by rw [wth_neg]; exact h
  rw [norm_no (by omega) h, norm_no (by omega) h2]
  have e : (-b).natAbs = b.natAbs := Int.natAbs_neg b
  rw [e]
  dsimp only
  have d : (Int.gcd (Int.gcd a b.natAbs) c : Int) ∣ b := by
    have g2 : Int.gcd (Int.gcd a b.natAbs) c ∣ Int.gcd a b.natAbs := by
      have := Int.gcd_dvd_natAbs_left (Int.gcd a b.natAbs : Int) c
      simpa using this
    have g3 : Int.gcd a b.natAbs ∣ b.natAbs := by
      have := Int.gcd_dvd_natAbs_right a (b.natAbs : Int)
      simpa using this
    exact Int.ofNat_dvd_left.mpr (Nat.dvd_trans g2 g3)
  rw [Int.neg_ediv_of_dvd d]
theorem norm_fst {a b c : Int} (ha : 0 < a) (h : ¬ rt (wth a b c) * rt (wth a b c) = wth a b c) : (norm a b c).1 ≠ 0 := by
  rw [norm_no (by omega) h]
  obtain ⟨gp, gl⟩ := gcd_pos' (b := b) (c := c) ha
  dsimp only
  have : 1 ≤ a / (Int.gcd (Int.gcd a b.natAbs) c : Int) := Int.le_ediv_of_mul_le gp (by omega)
  omega
theorem roots_mul {B C D s b0 b1 c0 c1 w x1 x2 y1 y2 : Int} (hs : s ≠ 0) (hC : C ≠ 0) (hb : b0 * s = B * b1) (hc : c0 * s = C * c1) (hw : w * w = D * D + 4 * C * B) (hx : x1 * (2 * C) = (w - D) * x2) (hy : y1 * (2 * C) = (w + D) * y2) : (b0 * c1 * x2) * y2 = y1 * (b1 * c0 * x1) := by
  have e1 : C * (b0 * c1) = B * (b1 * c0) := by
    have : s * (C * (b0 * c1)) = s * (B * (b1 * c0)) := by grind
    exact Int.eq_of_mul_eq_mul_left hs this
  have e2 : (y1 * (2 * C)) * (x1 * (2 * C)) = 4 * C * B * (x2 * y2) := by
    rw [hx, hy]
    grind
  have c4 : 4 * C * C ≠ 0 := Int.mul_ne_zero (Int.mul_ne_zero (by decide) hC) hC
  refine Int.eq_of_mul_eq_mul_left c4 ?_
  grind
end K15
set_option maxRecDepth 100000
set_option maxHeartbeats 2000000
namespace K15
open PySem Ev
structure Mix (r : List Pc) (m : Int) : Prop where
  row : RowN r
  len : (r.length : Int) ≤ m
  rail : ∃ p ∈ r, p.rail = true
  rung : ∃ p ∈ r, p.rail = false
end K15
set_option maxRecDepth 100000
set_option maxHeartbeats 1000000
namespace K15
open PySem Ev
end K15
set_option maxRecDepth 100000
set_option maxHeartbeats 1000000
namespace K15
open PySem Ev
theorem div_back {a g : Int} (ha : 0 < a) (hg : 0 < g) (d : g ∣ a) : a / (a / g) = g := by
  obtain ⟨k, rfl⟩ := d
  have k0 : 0 < k := by
    rcases Int.lt_or_le 0 k with z | z
    · exact z
    · have := Int.mul_nonneg (show 0 ≤ g by omega) (show 0 ≤ -k by omega)
      have e : g * -k = -(g * k) := by grind
      omega
  rw [Int.mul_ediv_cancel_left _ (by omega), Int.mul_ediv_cancel _ (by omega)]
end K15
set_option maxRecDepth 100000
set_option maxHeartbeats 1000000
namespace K15
open PySem Ev
theorem left_big {k : Nat} {x y : Int} (hx : Sm k x) (hy : Sm k y) : ∃ n, n < 2 * k + 3 ∧ Left x y n := by
  refine ⟨2 * k + 2, by omega, 2 * k, ?_, by split <;> omega⟩
  have p : (0 : Int) < 2 ^ k := Int.pow_pos (by decide)
  have a : x * y ≤ x * 2 ^ k := Int.mul_le_mul_of_nonneg_left (Int.le_of_lt hy.2) hx.1
  have b : x * 2 ^ k < 2 ^ k * 2 ^ k := Int.mul_lt_mul_of_pos_right hx.2 p
  rw [Nat.two_mul, Int.pow_add]
  exact Int.lt_of_le_of_lt a b
theorem common_big {k : Nat} (a b : Int) (ha : Sm k a) (hb : Sm k b) (hk : k ≤ 100000) : sem_common [.int a, .int b] = M.pure (.int (Int.gcd a b)) := by
  refine pure_wp fun S => ?_
  obtain ⟨n, hn, hl⟩ := left_big ha hb
  (unfold sem_common; refine Ev.go_fn rfl ?_; unfold pk_common; simp only [Ev.slots, List.map_cons, List.map_nil, List.length_cons, List.length_nil, List.cons_append, List.nil_append, List.replicate, Nat.reduceSub, Nat.reduceAdd])
  (repeat regstrif_gather)
  refine gs_iter (J := fun n sd S' => S' = S ∧ ∃ x y : Int, sd = [.val (.int x), .val (.int y)] ∧ 0 ≤ x ∧ 0 ≤ y ∧ Int.gcd x y = Int.gcd a b ∧ Left x y n) ?_ n _ _ (by unfold bigW; omega) ⟨rfl, a, b, rfl, ha.1, hb.1, rfl, hl⟩
  rintro n sd S' ⟨rfl, x, y, rfl, hx, hy, hg, hn⟩
  (repeat regstrif_gather)
  refine ite_d (fun h => ?_) (fun h => ?_)
  · (repeat regstrif_gather)
    obtain ⟨n', l', h'⟩ := left_step hx h hn
    exact ⟨n', l', rfl, y, x % y, rfl, hy, Int.emod_nonneg x (by omega), (gcd_step x y hx h).trans hg, h'⟩
  · have y0 : y = 0 := by omega
    subst y0
    (repeat regstrif_gather)
    simp only [Int.gcd_zero] at hg
    refine ⟨?_, rfl⟩
    rw [← hg]
    congr 1
    omega
theorem gcd_sm {k : Nat} {a b : Int} (ha : Sm k a) (hb : Sm k b) : Sm k (Int.gcd a b : Int) := by
  by_cases z : a = 0
  · subst z
    rw [Int.gcd_zero_left]
    exact ⟨by omega, by have := hb.2; have := hb.1; omega⟩
  · have d : (Int.gcd a b : Int) ∣ a := Int.gcd_dvd_left _ _
    have l := Int.le_of_dvd (by have := ha.1; omega) d
    exact ⟨by omega, Int.lt_of_le_of_lt l ha.2⟩
theorem gcd_pos2 {a b : Int} (h : a ≠ 0 ∨ b ≠ 0) : 0 < (Int.gcd a b : Int) := by
  have : 0 < Int.gcd a b := by rw [Int.gcd_pos_iff]; exact h
  omega
theorem lowest_big {k : Nat} (t b : Int) (ht : Sm k t) (hb : Sm k b) (h : 0 < t + b) (hk : k ≤ 9000) : sem_lowest [.int t, .int b] = M.pure (pairD (lowP (t, b))) := by
  refine pure_wp fun S => ?_
  have g0 : 0 < (Int.gcd t b : Int) := gcd_pos2 (by have := ht.1; have := hb.1; omega)
  have g1 := gcd_sm ht hb
  have bg : Bd k (Int.gcd t b : Int) := bd_sm g1
  have bg : Bd 9000 (Int.gcd t b : Int) := bd_sm (g1.mono hk)
  (unfold sem_lowest; refine Ev.go_fn rfl ?_; unfold pk_lowest; simp only [Ev.slots, List.map_cons, List.map_nil, List.length_cons, List.length_nil, List.cons_append, List.nil_append, List.replicate, Nat.reduceSub, Nat.reduceAdd])
  (repeat regstrif_gather)
  refine go_val (common_big t b ht hb (by omega)) ?_
  (repeat regstrif_gather)
  exact ⟨rfl, rfl⟩
theorem shown_big {k : Nat} (m : Mx) (v : Int × Int) (hm : m.S k) (ht : Sm 100 v.1) (hb : Sm 100 v.2) (hk : k ≤ 8000) (h0 : 0 < m.top v.1 v.2 + m.bot v.1 v.2) : sem_shown [m.D, pairD v] = M.pure (pairD (lowP (m.top v.1 v.2, m.bot v.1 v.2))) := by
  refine pure_wp fun S => ?_
  have t1 : Sm (k + 100 + 1) (m.top v.1 v.2) := (hm.a.mul ht).add (hm.b.mul hb)
  have t2 : Sm (k + 100 + 1) (m.bot v.1 v.2) := (hm.c.mul ht).add (hm.d.mul hb)
  have ld : sem_led [m.D, pairD v] = M.pure (.tup [.int (m.top v.1 v.2), .int (m.bot v.1 v.2)]) := led_ok (k := k + 100) m v.1 v.2 (hm.mono (by omega)) (ht.mono (by omega)) (hb.mono (by omega)) (by omega)
  (unfold sem_shown; refine Ev.go_fn rfl ?_; unfold pk_shown; simp only [Ev.slots, List.map_cons, List.map_nil, List.length_cons, List.length_nil, List.cons_append, List.nil_append, List.replicate, Nat.reduceSub, Nat.reduceAdd])
  (repeat regstrif_gather)
  refine go_val ld ?_
  (repeat regstrif_gather)
  exact go_val (lowest_big _ _ t1 t2 h0 (by omega)) ⟨rfl, rfl⟩
def Sc (s : Int) (m q : Mx) : Prop := m.a = s * q.a ∧ m.b = s * q.b ∧ m.c = s * q.c ∧ m.d = s * q.d
theorem Sc.refl (m : Mx) : Sc 1 m m := ⟨by omega, by omega, by omega, by omega⟩
theorem Sc.trans {s t : Int} {m n q : Mx} (h : Sc s m n) (l : Sc t n q) : Sc (s * t) m q := by
  obtain ⟨h1, h2, h3, h4⟩ := h
  obtain ⟨l1, l2, l3, l4⟩ := l
  refine ⟨?_, ?_, ?_, ?_⟩
  · rw [h1, l1, Int.mul_assoc]
  · rw [h2, l2, Int.mul_assoc]
  · rw [h3, l3, Int.mul_assoc]
  · rw [h4, l4, Int.mul_assoc]
theorem Sc.mul {s t : Int} {m n p q : Mx} (h : Sc s m p) (l : Sc t n q) : Sc (s * t) (m.mul n) (p.mul q) := by
  obtain ⟨h1, h2, h3, h4⟩ := h
  obtain ⟨l1, l2, l3, l4⟩ := l
  refine ⟨?_, ?_, ?_, ?_⟩ <;> simp only [Mx.mul, h1, h2, h3, h4, l1, l2, l3, l4] <;> grind
theorem Sc.top {s : Int} {m q : Mx} (h : Sc s m q) (t b : Int) : m.top t b = s * q.top t b := by
  obtain ⟨h1, h2, h3, h4⟩ := h
  simp only [Mx.top, h1, h2]
  grind
theorem Sc.bot {s : Int} {m q : Mx} (h : Sc s m q) (t b : Int) : m.bot t b = s * q.bot t b := by
  obtain ⟨h1, h2, h3, h4⟩ := h
  simp only [Mx.bot, h3, h4]
  grind
def Mx.pow (m : Mx) : Nat → Mx
  | 0 => one
  | n + 1 => m.mul (m.pow n)
theorem Mx.pow_add (m : Mx) (i : Nat) : ∀ j, m.pow (j + i) = (m.pow j).mul (m.pow i)
  | 0 => by rw [Nat.zero_add]; exact (Mx.one_mul _).symm
  | j + 1 => by
    rw [Nat.add_right_comm]
    show m.mul (m.pow (j + i)) = (m.mul (m.pow j)).mul _
    rw [Mx.pow_add m i j, Mx.assoc]
theorem Mx.pow_sq (m : Mx) : ∀ h, m.pow (2 * h) = (m.mul m).pow h
  | 0 => rfl
  | h + 1 => by
    show m.mul (m.mul (m.pow (2 * h))) = (m.mul m).mul _
    rw [Mx.pow_sq m h, Mx.assoc]
theorem Sc.pow {s : Int} {m q : Mx} (h : Sc s m q) : ∀ n : Nat, Sc (s ^ n) (m.pow n) (q.pow n)
  | 0 => by
    show Sc (s ^ 0) one one
    rw [Int.pow_zero]
    exact Sc.refl one
  | n + 1 => by
    rw [Int.pow_succ, Int.mul_comm]
    exact h.mul (Sc.pow h n)
structure Mx.P (m : Mx) : Prop where
  a : 0 < m.a
  b : 0 ≤ m.b
  c : 0 ≤ m.c
  d : 0 < m.d
theorem Mx.P.mul {m n : Mx} (h : m.P) (l : n.P) : (m.mul n).P := by
  have h1 := h.a
  have h2 := h.d
  have l1 := l.a
  have l2 := l.d
  refine ⟨?_, ?_, ?_, ?_⟩ <;> simp only [Mx.mul]
  · have := Int.mul_pos h1 l1
    have := Int.mul_nonneg h.b l.c
    omega
  · have := Int.mul_nonneg (Int.le_of_lt h1) l.b
    have := Int.mul_nonneg h.b (Int.le_of_lt l2)
    omega
  · have := Int.mul_nonneg h.c (Int.le_of_lt l1)
    have := Int.mul_nonneg (Int.le_of_lt h2) l.c
    omega
  · have := Int.mul_nonneg h.c l.b
    have := Int.mul_pos h2 l2
    omega
theorem Mx.P.one : (K15.one).P := ⟨by decide, by decide, by decide, by decide⟩
theorem Mx.P.pow {m : Mx} (h : m.P) : ∀ n, (m.pow n).P
  | 0 => Mx.P.one
  | n + 1 => h.mul (Mx.P.pow h n)
theorem Mx.P.vec {m : Mx} (h : m.P) {t b : Int} (ht : 0 ≤ t) (hb : 0 ≤ b) (p : 0 < t + b) : 0 ≤ m.top t b ∧ 0 ≤ m.bot t b ∧ 0 < m.top t b + m.bot t b := by
  have h1 := Int.mul_nonneg (Int.le_of_lt h.a) ht
  have h2 := Int.mul_nonneg h.b hb
  have h3 := Int.mul_nonneg h.c ht
  have h4 := Int.mul_nonneg (Int.le_of_lt h.d) hb
  have : 0 < m.a * t ∨ 0 < m.d * b := by
    rcases Int.lt_or_le 0 t with z | z
    · exact .inl (Int.mul_pos h.a z)
    · exact .inr (Int.mul_pos h.d (by omega))
  unfold Mx.top Mx.bot
  omega
theorem mat_P {r : List Pc} (h : ∀ p ∈ r, p.ok) : (mat r).P := by
  obtain ⟨h1, h2, h3, h4, h5⟩ := ad_ge h
  exact ⟨by omega, h3, h4, by omega⟩
def Mx.g (m : Mx) : Int := (Int.gcd (Int.gcd m.a m.b : Int) (Int.gcd m.c m.d : Int) : Int)
def Mx.slim (m : Mx) : Mx := ⟨m.a / m.g, m.b / m.g, m.c / m.g, m.d / m.g⟩
theorem slim_sc {m : Mx} (h : m.P) : 0 < m.g ∧ Sc m.g m m.slim := by
  have p : 0 < m.g := gcd_pos2 (.inl (by have := gcd_pos2 (b := m.b) (.inl (show m.a ≠ 0 by have := h.a; omega)); omega))
  have d1 : m.g ∣ (Int.gcd m.a m.b : Int) := Int.gcd_dvd_left _ _
  have d2 : m.g ∣ (Int.gcd m.c m.d : Int) := Int.gcd_dvd_right _ _
  have e1 : m.g ∣ m.a := Int.dvd_trans d1 (Int.gcd_dvd_left _ _)
  have e2 : m.g ∣ m.b := Int.dvd_trans d1 (Int.gcd_dvd_right _ _)
  have e3 : m.g ∣ m.c := Int.dvd_trans d2 (Int.gcd_dvd_left _ _)
  have e4 : m.g ∣ m.d := Int.dvd_trans d2 (Int.gcd_dvd_right _ _)
  exact ⟨p, (Int.mul_ediv_cancel' e1).symm, (Int.mul_ediv_cancel' e2).symm, (Int.mul_ediv_cancel' e3).symm, (Int.mul_ediv_cancel' e4).symm⟩
theorem slim_P {m : Mx} (h : m.P) : m.slim.P := by
  obtain ⟨p, s1, s2, s3, s4⟩ := slim_sc h
  have po : ∀ {x y : Int}, 0 < x → x = m.g * y → 0 < y := fun {x y} h e => by
    rcases Int.lt_or_le 0 y with z | z
    · exact z
    · have := Int.mul_nonneg (Int.le_of_lt p) (show 0 ≤ -y by omega)
      have e2 : m.g * -y = -(m.g * y) := by grind
      omega
  exact ⟨po h.a s1, Int.ediv_nonneg h.b (Int.le_of_lt p), Int.ediv_nonneg h.c (Int.le_of_lt p), po h.d s4⟩
theorem slim_S {m : Mx} {k : Nat} (h : m.S k) : m.slim.S k := by
  have q : ∀ {x : Int}, Sm k x → Sm k (x / m.g) := fun {x} h => ⟨Int.ediv_nonneg h.1 (Int.natCast_nonneg _), Int.lt_of_le_of_lt (Int.ediv_le_self _ h.1) h.2⟩
  exact ⟨q h.a, q h.b, q h.c, q h.d⟩
theorem slim_ok {k : Nat} {m : Mx} (h : m.S k) (p : m.P) (hk : k ≤ 9000) : sem_slim [m.D] = M.pure m.slim.D := by
  refine pure_wp fun S => ?_
  obtain ⟨gp, _⟩ := slim_sc p
  have g1 := gcd_sm h.a h.b
  have g2 := gcd_sm h.c h.d
  have bg : Bd k m.g := bd_sm (gcd_sm g1 g2)
  have cg := common_big _ _ g1 g2 (by omega)
  have ca := common_big _ _ h.a h.b (by omega)
  have cc := common_big _ _ h.c h.d (by omega)
  have cg : sem_common [.int (Int.gcd m.a m.b : Int), .int (Int.gcd m.c m.d : Int)] = M.pure (.int m.g) := cg
  have bg : Bd 9000 m.g := bd_sm ((gcd_sm g1 g2).mono hk)
  unfold Mx.D Mx.slim
  generalize m.g = g at *
  (unfold sem_slim; refine Ev.go_fn rfl ?_; unfold pk_slim; simp only [Ev.slots, List.map_cons, List.map_nil, List.length_cons, List.length_nil, List.cons_append, List.nil_append, List.replicate, Nat.reduceSub, Nat.reduceAdd])
  (repeat regstrif_gather)
  refine go_val ca ?_
  (repeat regstrif_gather)
  refine go_val cc ?_
  (repeat regstrif_gather)
  refine go_val cg ?_
  (repeat regstrif_gather)
  refine go_filter (p := fun _ => true) (f := Ev.D.int) (g := fun x => Ev.D.int (x / g)) [m.a, m.b, m.c, m.d] ?_ (by simp only [List.length_cons, List.length_nil]; decide) ?_
  · intro x hx
    refine ⟨_, rfl, rfl, fun _ => ?_⟩
    refine pure_wp fun S => ?_
    (repeat regstrif_gather)
    exact ⟨rfl, rfl⟩
  · (repeat regstrif_gather)
    show Wp (dTuple (.lst [.int (m.a / g), .int (m.b / g), .int (m.c / g), .int (m.d / g)])) S _
    exact go_pure ⟨rfl, rfl⟩
theorem rep_even {q r : Mx} (hr : r.P) (h : Nat) : ∃ s : Int, 0 < s ∧ Sc s (q.mul (r.pow (2 * h))) (q.mul ((r.mul r).slim.pow h)) := by
  obtain ⟨g, l⟩ := slim_sc (hr.mul hr)
  refine ⟨(r.mul r).g ^ h, Int.pow_pos g, ?_⟩
  rw [Mx.pow_sq]
  have := (Sc.refl q).mul (l.pow h)
  rw [Int.one_mul] at this
  exact this
theorem rep_odd {q r : Mx} (hq : q.P) (hr : r.P) (h : Nat) : ∃ s : Int, 0 < s ∧ Sc s (q.mul (r.pow (2 * h + 1))) ((q.mul r).slim.mul ((r.mul r).slim.pow h)) := by
  obtain ⟨g1, l1⟩ := slim_sc (hq.mul hr)
  obtain ⟨g2, l2⟩ := slim_sc (hr.mul hr)
  refine ⟨(q.mul r).g * (r.mul r).g ^ h, Int.mul_pos g1 (Int.pow_pos g2), ?_⟩
  have e : q.mul (r.pow (2 * h + 1)) = (q.mul r).mul ((r.mul r).pow h) := by
    show q.mul (r.mul (r.pow (2 * h))) = _
    rw [Mx.pow_sq, Mx.assoc]
  rw [e]
  exact l1.mul (l2.pow h)
theorem repeated_wp {k : Nat} {m : Mx} {n f : Nat} (h : m.S k) (k1 : 1 ≤ k) (p : m.P) (hn : n < 2 ^ f) (hf : f < 60) (hk : (k + 1) * 2 ^ f ≤ 8000) (S : List Ob) : Wp (sem_repeated [m.D, .int n]) S fun d S' => S' = S ∧ ∃ (q : Mx) (s : Int), d = q.D ∧ 0 < s ∧ Sc s (m.pow n) q ∧ q.P ∧ q.S 8000 := by
  (unfold sem_repeated; refine Ev.go_fn rfl ?_; unfold pk_repeated; simp only [Ev.slots, List.map_cons, List.map_nil, List.length_cons, List.length_nil, List.cons_append, List.nil_append, List.replicate, Nat.reduceSub, Nat.reduceAdd])
  (repeat regstrif_gather)
  refine gs_iter (J := fun f sd S' => S' = S ∧ ∃ (q r : Mx) (s : Int) (c : Nat) (k : Nat), sd = [.val m.D, .val (.int c), .val q.D, .val r.D] ∧ c < 2 ^ f ∧ (k + 1) * 2 ^ f ≤ 8000 ∧ 0 < s ∧ Sc s (m.pow n) (q.mul (r.pow c)) ∧ q.P ∧ r.P ∧ q.S k ∧ r.S k) ?_ f _ _ (by unfold bigW; omega) ⟨rfl, one, m, 1, n, k, rfl, hn, hk, by decide, by rw [Mx.one_mul]; exact Sc.refl _, Mx.P.one, p, one_sm.mono k1, h⟩
  rintro f sd S' ⟨rfl, q, r, s, c, k, rfl, hc, hk, hs, sc, hq, hr, sq, sr⟩
  (repeat regstrif_gather)
  refine ite_d (fun z => ?_) (fun z => ?_)
  · rcases f with _ | f
    · simp at hc
      omega
    have e2 : 2 ^ (f + 1) = 2 * 2 ^ f := by rw [Nat.pow_succ, Nat.mul_comm]
    have hk2 : ((2 * k + 1) + 1) * 2 ^ f ≤ 8000 := by
      have : ((2 * k + 1) + 1) * 2 ^ f = (k + 1) * 2 ^ (f + 1) := by rw [e2]; grind
      omega
    have p2 : 0 < 2 ^ f := Nat.pow_pos (by decide)
    have kb : 2 * k + 2 ≤ 8000 := by
      have := Nat.le_mul_of_pos_right (2 * k + 1 + 1) p2
      omega
    have s2 : (r.mul r).S (2 * k + 1) := (sr.mul sr).mono (by omega)
    have s1 : (q.mul r).S (2 * k + 1) := (sq.mul sr).mono (by omega)
    have j1 := joined_ok q r sq sr (by omega)
    have j2 := joined_ok r r sr sr (by omega)
    have l1 := slim_ok s1 (hq.mul hr) (by omega)
    have l2 := slim_ok s2 (hr.mul hr) (by omega)
    have ch : ((c : Int) / 2) = ((c / 2 : Nat) : Int) := by omega
    (repeat regstrif_gather)
    refine ite_d (fun y => ?_) (fun y => ?_)
    · (repeat regstrif_gather)
      refine go_val j1 ?_
      (repeat regstrif_gather)
      refine go_val l1 ?_
      (repeat regstrif_gather)
      refine go_val j2 ?_
      (repeat regstrif_gather)
      refine go_val l2 ?_
      (repeat regstrif_gather)
      obtain ⟨t, t0, tc⟩ := rep_odd hq hr (c / 2)
      have ce : 2 * (c / 2) + 1 = c := by omega
      rw [ce] at tc
      exact ⟨f, by omega, rfl, _, _, s * t, c / 2, 2 * k + 1, by rw [ch], by omega, hk2, Int.mul_pos hs t0, sc.trans tc, slim_P (hq.mul hr), slim_P (hr.mul hr), slim_S s1, slim_S s2⟩
    · (repeat regstrif_gather)
      refine go_val j2 ?_
      (repeat regstrif_gather)
      refine go_val l2 ?_
      (repeat regstrif_gather)
      obtain ⟨t, t0, tc⟩ := rep_even (q := q) hr (c / 2)
      have ce : 2 * (c / 2) = c := by omega
      rw [ce] at tc
      exact ⟨f, by omega, rfl, _, _, s * t, c / 2, 2 * k + 1, by rw [ch], by omega, hk2, Int.mul_pos hs t0, sc.trans tc, hq, slim_P (hr.mul hr), sq.mono (by omega), slim_S s2⟩
  · have c0 : c = 0 := by omega
    subst c0
    (repeat regstrif_gather)
    have e : q.mul (r.pow 0) = q := Mx.mul_one q
    rw [e] at sc
    have p2 : 0 < 2 ^ f := Nat.pow_pos (by decide)
    have := Nat.le_mul_of_pos_right (k + 1) p2
    exact ⟨rfl, q, s, rfl, hs, sc, hq, sq.mono (by omega)⟩
end K15
set_option maxRecDepth 100000
set_option maxHeartbeats 1000000
namespace K15
open PySem Ev
theorem lowP_scale {s t b : Int} (hs : 0 < s) (ht : 0 ≤ t) (hb : 0 ≤ b) (h : 0 < t + b) : lowP (s * t, s * b) = lowP (t, b) := by
  have h1 := Int.mul_nonneg (Int.le_of_lt hs) ht
  have h2 := Int.mul_nonneg (Int.le_of_lt hs) hb
  have h3 : 0 < s * t + s * b := by rw [← Int.mul_add]; exact Int.mul_pos hs h
  obtain ⟨u1, u2⟩ := low_cross h1 h2 h3 ht hb h (by grind)
  unfold lowP
  rw [u1, u2]
def valP (r : List Pc) (v : Int × Int) (n : Nat) : Int × Int := lowP (((mat r).pow n).top v.1 v.2, ((mat r).pow n).bot v.1 v.2)
theorem Row.s41 {r : List Pc} (h : Row r) : (mat r).S 41 := h.sm41.1
theorem value_ok {r : List Pc} (h : Row r) {v : Int × Int} (hv : Vec 100 v) {n : Nat} (hn : n ≤ 100) : sem_Ladder_value_at [ladD r v, .int n] = M.pure (pairD (valP r v n)) := by
  refine pure_wp fun S => ?_
  have mp := mat_P h.1
  (unfold sem_Ladder_value_at; refine Ev.go_fn rfl ?_; unfold pk_Ladder_value_at; simp only [Ev.slots, List.map_cons, List.map_nil, List.length_cons, List.length_nil, List.cons_append, List.nil_append, List.replicate, Nat.reduceSub, Nat.reduceAdd])
  (repeat regstrif_gather)
  refine go_val (r := patD r) rfl ?_
  refine go_val (attr_chain r) ?_
  (repeat regstrif_gather)
  refine go_use (repeated_wp h.s41 (by decide) mp (n := n) (f := 7) (by omega) (by decide) (by decide) S) ?_
  rintro d S' ⟨rfl, q, s, rfl, hs, sc, qp, qs⟩
  (repeat regstrif_gather)
  refine go_val (r := pairD v) rfl ?_
  (repeat regstrif_gather)
  obtain ⟨q1, q2, q3⟩ := qp.vec hv.t.1 hv.b.1 hv.p
  refine go_val (shown_big q v qs hv.t hv.b (by decide) q3) ?_
  refine ⟨?_, rfl⟩
  unfold valP
  rw [sc.top, sc.bot, lowP_scale hs q1 q2 q3]
theorem check_count_ok (n : Nat) (hn : n ≤ 100) : sem_check_count [.int n] = M.pure .non := by
  refine pure_wp fun S => ?_
  (unfold sem_check_count; refine Ev.go_fn rfl ?_; unfold pk_check_count; simp only [Ev.slots, List.map_cons, List.map_nil, List.length_cons, List.length_nil, List.cons_append, List.nil_append, List.replicate, Nat.reduceSub, Nat.reduceAdd])
  (repeat regstrif_gather)
  refine go_val (between_ok _ _ _) ?_
  rw [decide_eq_true (show (0 : Int) ≤ (n : Int) ∧ (n : Int) ≤ 100 by omega)]
  (repeat regstrif_gather)
  exact ⟨trivial, rfl⟩
theorem call_ok {r : List Pc} (h : Row r) {v : Int × Int} (hv : Vec 100 v) {n : Nat} (hn : n ≤ 100) : sem_RunX_callX [ladD r v, .int n] = M.pure (pairD (valP r v n)) := by
  refine pure_wp fun S => ?_
  (unfold sem_RunX_callX; refine Ev.go_fn rfl ?_; unfold pk_RunX_callX; simp only [Ev.slots, List.map_cons, List.map_nil, List.length_cons, List.length_nil, List.cons_append, List.nil_append, List.replicate, Nat.reduceSub, Nat.reduceAdd])
  (repeat regstrif_gather)
  refine go_val (check_count_ok n hn) ?_
  (repeat regstrif_gather)
  refine go_val (r := sem_Ladder_value_at) rfl ?_
  exact go_val (value_ok h hv hn) ⟨rfl, rfl⟩
theorem sign_ok (n : Int) : sem_sign_of [.int n] = M.pure (.int (if 0 < n then 1 else if n < 0 then -1 else 0)) := by
  refine pure_wp fun S => ?_
  (unfold sem_sign_of; refine Ev.go_fn rfl ?_; unfold pk_sign_of; simp only [Ev.slots, List.map_cons, List.map_nil, List.length_cons, List.length_nil, List.cons_append, List.nil_append, List.replicate, Nat.reduceSub, Nat.reduceAdd])
  (repeat regstrif_gather)
  refine ite_d (fun c => ?_) (fun c => ?_)
  · rw [if_pos c]
    (repeat regstrif_gather)
    exact ⟨rfl, rfl⟩
  · rw [if_neg c]
    (repeat regstrif_gather)
    refine ite_d (fun c => ?_) (fun c => ?_)
    · rw [if_pos c]
      (repeat regstrif_gather)
      exact ⟨rfl, rfl⟩
    · rw [if_neg c]
      (repeat regstrif_gather)
      exact ⟨rfl, rfl⟩
def sgn (n : Int) : Int := if 0 < n then 1 else if n < 0 then -1 else 0
def cmpP (v w : Int × Int) : Int := sgn (v.1 * w.2 - w.1 * v.2)
theorem compare_ok {k : Nat} (v w : Int × Int) (h1 : Sm k v.1) (h2 : Sm k v.2) (h3 : Sm k w.1) (h4 : Sm k w.2) (hk : k ≤ 10000) : sem_compare [pairD v, pairD w] = M.pure (.int (cmpP v w)) := by
  refine pure_wp fun S => ?_
  have b1 : Bd 10000 v.1 := bd_sm (h1.mono hk)
  have b2 : Bd 10000 v.2 := bd_sm (h2.mono hk)
  have b3 : Bd 10000 w.1 := bd_sm (h3.mono hk)
  have b4 : Bd 10000 w.2 := bd_sm (h4.mono hk)
  (unfold sem_compare; refine Ev.go_fn rfl ?_; unfold pk_compare; simp only [Ev.slots, List.map_cons, List.map_nil, List.length_cons, List.length_nil, List.cons_append, List.nil_append, List.replicate, Nat.reduceSub, Nat.reduceAdd])
  unfold pairD
  (repeat regstrif_gather)
  exact go_val (sign_ok _) ⟨rfl, rfl⟩
theorem next_ok {r : List Pc} (h : Row r) (v : Int × Int) {w : Int × Int} (hw : Vec 100 w) : sem_Ladder_next_of [ladD r v, pairD w] = M.pure (pairD ((mat r).top w.1 w.2, (mat r).bot w.1 w.2)) := by
  refine pure_wp fun S => ?_
  have ld : sem_led [(mat r).D, pairD w] = M.pure (.tup [.int ((mat r).top w.1 w.2), .int ((mat r).bot w.1 w.2)]) := led_ok (k := 100) _ w.1 w.2 (h.s41.mono (by decide)) hw.t hw.b (by decide)
  (unfold sem_Ladder_next_of; refine Ev.go_fn rfl ?_; unfold pk_Ladder_next_of; simp only [Ev.slots, List.map_cons, List.map_nil, List.length_cons, List.length_nil, List.cons_append, List.nil_append, List.replicate, Nat.reduceSub, Nat.reduceAdd])
  (repeat regstrif_gather)
  refine go_val (r := patD r) rfl ?_
  refine go_val (attr_chain r) ?_
  (repeat regstrif_gather)
  exact go_val ld ⟨rfl, rfl⟩
theorem goes_ok {r : List Pc} (h : Row r) {v : Int × Int} (hv : Vec 100 v) : sem_Run_goes [ladD r v] = M.pure (.int (cmpP ((mat r).top v.1 v.2, (mat r).bot v.1 v.2) v)) := by
  refine pure_wp fun S => ?_
  have h41 := h.s41
  have t1 : Sm (100 + 100 + 1) ((mat r).top v.1 v.2) := ((h41.a.mono (by decide)).mul hv.t).add ((h41.b.mono (by decide)).mul hv.b)
  have t2 : Sm (100 + 100 + 1) ((mat r).bot v.1 v.2) := ((h41.c.mono (by decide)).mul hv.t).add ((h41.d.mono (by decide)).mul hv.b)
  (unfold sem_Run_goes; refine Ev.go_fn rfl ?_; unfold pk_Run_goes; simp only [Ev.slots, List.map_cons, List.map_nil, List.length_cons, List.length_nil, List.cons_append, List.nil_append, List.replicate, Nat.reduceSub, Nat.reduceAdd])
  (repeat regstrif_gather)
  refine go_val (r := sem_Ladder_next_of) rfl ?_
  (repeat regstrif_gather)
  refine go_val (r := pairD v) rfl ?_
  (repeat regstrif_gather)
  refine go_val (next_ok h v hv) ?_
  (repeat regstrif_gather)
  refine go_val (r := pairD v) rfl ?_
  (repeat regstrif_gather)
  exact go_val (compare_ok _ _ t1 t2 (hv.t.mono (by decide)) (hv.b.mono (by decide)) (by decide)) ⟨rfl, rfl⟩
end K15
set_option maxRecDepth 100000
set_option maxHeartbeats 1000000
namespace K15
open PySem Ev
theorem norm_bd {a b c : Int} (h : Eqn a b c) : Bd 150 (norm a b c).1 ∧ Bd 150 (norm a b c).2.1 ∧ Bd 150 (norm a b c).2.2 := by
  have h' := h
  obtain ⟨a0, a1, b0, b1, c0, c1, z, p⟩ := h'
  have z0 : Bd 150 (0 : Int) := .mk (by decide)
  by_cases ca : a = 0
  · have b2 := z ca
    unfold norm
    rw [if_pos ca]
    obtain ⟨s1, s2⟩ := low_sm (k := 150) (t := c) (b := b) ⟨by omega, by omega⟩ ⟨by omega, by omega⟩ (by omega)
    exact ⟨z0, bd_sm s2, bd_sm s1⟩
  · have ca' : 0 < a := by omega
    have rb := rt_big h ca'
    have rl : rt (wth a b c) < 2 ^ 145 := rt_lt (rt_is (wth_bd h).1) (wth_bd h).2
    by_cases sq : rt (wth a b c) * rt (wth a b c) = wth a b c
    · rw [norm_sq ca sq]
      obtain ⟨s1, s2⟩ := low_sm (k := 150) (t := rt (wth a b c) - b) (b := 2 * a) ⟨by omega, by omega⟩ ⟨by omega, by omega⟩ (by omega)
      exact ⟨z0, bd_sm s2, bd_sm s1⟩
    · rw [norm_no ca sq]
      have b1 : Bd 150 a := .mk (by omega)
      have b2 : Bd 150 b := .mk (by omega)
      have b3 : Bd 150 c := .mk (by omega)
      exact ⟨Bd.ediv b1, Bd.ediv b2, Bd.ediv b3⟩
theorem tri_shw {v : Int × Int × Int} (h : Bd 150 v.1 ∧ Bd 150 v.2.1 ∧ Bd 150 v.2.2) : Shw 1 6000 (tri v) :=
  (shw_tup (shl_cons (shw_int h.1 (by decide)) (shl_cons (shw_int h.2.1 (by decide)) (shl_cons (shw_int h.2.2 (by decide)) shl_nil)))).mono (by decide) (by decide)
theorem norm_010 : norm 0 1 0 = (0, 1, 0) := by
  unfold norm
  rw [if_pos rfl]
  decide +kernel
def Nm (r : List Pc) : Int × Int × Int := if (mat r).b = 0 then (0, 1, 0) else norm (mat r).c ((mat r).d - (mat r).a) (mat r).b
theorem limD_eq (r : List Pc) : limD r = if (mat r).c = 0 then .tup [.int 1, .int 0] else exD (Nm r) := by
  unfold limD Nm
  rw [norm_010]
  split
  · rfl
  · split <;> rfl
theorem row_eqn {r : List Pc} (h : Row r) (hc : (mat r).c ≠ 0) (hb : (mat r).b ≠ 0) : Eqn (mat r).c ((mat r).d - (mat r).a) (mat r).b := by
  obtain ⟨⟨⟨a1, a2⟩, ⟨b1, b2⟩, ⟨c1, c2⟩, ⟨d1, d2⟩⟩, s1, s2⟩ := h.sm41
  exact ⟨by omega, by omega, by omega, by omega, by omega, by omega, fun h => by omega, fun h => by omega⟩
theorem Nm_bd {r : List Pc} (h : Row r) (hc : (mat r).c ≠ 0) : Bd 150 (Nm r).1 ∧ Bd 150 (Nm r).2.1 ∧ Bd 150 (Nm r).2.2 := by
  unfold Nm
  split
  · exact ⟨.mk (by decide), .mk (by decide), .mk (by decide)⟩
  · rename_i hb
    exact norm_bd (row_eqn h hc hb)
theorem mat13 : ∀ {r : List Pc}, (∀ p ∈ r, p.ok) → (mat r).a ≤ 13 ^ r.length ∧ (mat r).b ≤ 13 ^ r.length ∧ (mat r).c ≤ 13 ^ r.length ∧ (mat r).d ≤ 13 ^ r.length
  | [], _ => by decide
  | p :: r, h => by
    have hr : ∀ q ∈ r, q.ok := fun q hq => h q (List.mem_cons_of_mem _ hq)
    obtain ⟨i1, i2, i3, i4⟩ := mat13 hr
    obtain ⟨j1, j2, j3, j4, j5⟩ := ad_ge hr
    obtain ⟨o1, o2⟩ := h p List.mem_cons_self
    have ml : ∀ x : Int, 0 ≤ x → p.o * x ≤ 12 * x := fun x hx => Int.mul_le_mul_of_nonneg_right o2 hx
    have oa := ml (mat r).a (by omega)
    have ob := ml (mat r).b (by omega)
    have oc := ml (mat r).c (by omega)
    have od := ml (mat r).d (by omega)
    have e : (13 : Int) ^ (r.length + 1) = 13 * 13 ^ r.length := by rw [Int.pow_succ, Int.mul_comm]
    rw [List.length_cons, mat_cons, e]
    obtain ⟨b, o⟩ := p
    dsimp only at oa ob oc od
    cases b with
    | true =>
      simp only [Mx.mul, Pc.m, if_true]
      omega
    | false =>
      simp only [Mx.mul, Pc.m, Bool.false_eq_true, if_false]
      omega
theorem mat_small {r : List Pc} (h : Row r) : (mat r).a ≤ 815730721 ∧ (mat r).b ≤ 815730721 ∧ (mat r).c ≤ 815730721 ∧ (mat r).d ≤ 815730721 := by
  have m := mat13 h.1
  have l : (13 : Int) ^ r.length ≤ 13 ^ 8 := by exact_mod_cast Nat.pow_le_pow_right (by decide) h.2
  have e : (13 : Int) ^ 8 = 815730721 := by decide
  omega
theorem rt_small {n K s : Int} (h : IsRt n s) (k0 : 0 < K) (hn : n ≤ 5 * (K * K)) : s < 3 * K := by
  rcases Int.lt_or_le s (3 * K) with z | z
  · exact z
  · have := Int.mul_le_mul z z (by omega) (by have := h.nn; omega)
    have e : 3 * K * (3 * K) = 9 * (K * K) := by grind
    have p := Int.mul_pos k0 k0
    have := h.le
    omega
structure Lim (r : List Pc) (v : Int × Int) : Prop where
  en : EndV v
  b : 0 < v.2
  eq : (mat r).c * (v.1 * v.1) + ((mat r).d - (mat r).a) * (v.1 * v.2) = (mat r).b * (v.2 * v.2)
theorem lim_frac {r : List Pc} (h : Row r) (hc : (mat r).c ≠ 0) (hz : (Nm r).1 = 0) : Lim r ((Nm r).2.2, (Nm r).2.1) := by
  by_cases hb : (mat r).b = 0
  · have e : Nm r = (0, 1, 0) := by unfold Nm; rw [if_pos hb]
    rw [e]
    refine ⟨end_01, by decide, ?_⟩
    rw [hb]
    simp
  · have eq := row_eqn h hc hb
    have e : Nm r = norm (mat r).c ((mat r).d - (mat r).a) (mat r).b := by unfold Nm; rw [if_neg hb]
    rw [e] at hz ⊢
    obtain ⟨j1, j2, j3, j4, j5⟩ := ad_ge h.1
    obtain ⟨m1, m2, m3, m4⟩ := mat_small h
    have cp : 0 < (mat r).c := by omega
    have bp : 0 < (mat r).b := by omega
    by_cases sq : rt (wth (mat r).c ((mat r).d - (mat r).a) (mat r).b) * rt (wth (mat r).c ((mat r).d - (mat r).a) (mat r).b) = wth (mat r).c ((mat r).d - (mat r).a) (mat r).b
    · have hr := rt_is (wth_bd eq).1
      have big := rt_big eq cp
      rw [norm_sq hc sq]
      obtain ⟨D, hD⟩ : ∃ D, (mat r).d - (mat r).a = D := ⟨_, rfl⟩
      rw [hD] at sq hr big ⊢
      have sm : wth (mat r).c D (mat r).b ≤ 5 * (815730721 * 815730721) := by
        have d1 : (D.natAbs : Int) ≤ 815730721 := by omega
        have d2 := Int.mul_le_mul d1 d1 (by omega) (by decide)
        rw [Int.natAbs_mul_self'] at d2
        have d3 := Int.mul_le_mul m3 m2 (by omega) (by decide)
        have e : wth (mat r).c D (mat r).b = D * D + 4 * ((mat r).c * (mat r).b) := by unfold wth; grind
        omega
      have w3 := rt_small (K := 815730721) hr (by decide) sm
      have e : wth (mat r).c D (mat r).b = D * D + 4 * (mat r).c * (mat r).b := rfl
      generalize rt (wth (mat r).c D (mat r).b) = W at *
      rw [e] at sq
      clear hr hz eq sm
      obtain ⟨g, g0, g1, g2⟩ := lowP_mul (v := (W - D, 2 * (mat r).c)) (by show 0 ≤ W - D; omega) (by show 0 ≤ 2 * (mat r).c; omega) (by show 0 < W - D + 2 * (mat r).c; omega)
      have evd := end_low (t := W - D) (b := 2 * (mat r).c) (by omega) (by omega) (by omega) (by omega)
      generalize lowP (W - D, 2 * (mat r).c) = X at evd g1 g2 ⊢
      have g1 : g * X.1 = W - D := g1
      have g2 : g * X.2 = 2 * (mat r).c := g2
      have x2 : 0 < X.2 := by
        rcases Int.lt_or_le 0 X.2 with z | z
        · exact z
        · have : X.2 = 0 := by have := evd.b0; omega
          rw [this, Int.mul_zero] at g2
          omega
      refine ⟨evd, x2, ?_⟩
      rw [hD]
      show (mat r).c * (X.1 * X.1) + D * (X.1 * X.2) = (mat r).b * (X.2 * X.2)
      have gg : g * g ≠ 0 := Int.mul_ne_zero (by omega) (by omega)
      refine Int.eq_of_mul_eq_mul_left gg ?_
      have e1 : g * g * ((mat r).c * (X.1 * X.1) + D * (X.1 * X.2)) = (mat r).c * ((g * X.1) * (g * X.1)) + D * ((g * X.1) * (g * X.2)) := by grind
      have e2 : g * g * ((mat r).b * (X.2 * X.2)) = (mat r).b * ((g * X.2) * (g * X.2)) := by grind
      rw [e1, e2, g1, g2]
      grind
    · exact absurd hz (norm_fst cp sq)
def Fix (m : Mx) (v : Int × Int) : Prop := m.top v.1 v.2 * v.2 = v.1 * m.bot v.1 v.2
theorem Lim.fix {r : List Pc} {v : Int × Int} (h : Lim r v) : Fix (mat r) v := by
  have := h.eq
  unfold Fix Mx.top Mx.bot
  grind
theorem Fix.mul {m n : Mx} {v : Int × Int} (b : v.2 ≠ 0) (h : Fix m v) (l : Fix n v) : Fix (m.mul n) v := by
  unfold Fix at *
  rw [top_mul, bot_mul]
  refine Int.eq_of_mul_eq_mul_left b ?_
  simp only [Mx.top, Mx.bot] at *
  generalize n.a * v.1 + n.b * v.2 = p at *
  generalize n.c * v.1 + n.d * v.2 = q at *
  have e1 : v.2 * ((m.a * p + m.b * q) * v.2) = (m.a * (p * v.2) + m.b * q * v.2) * v.2 := by grind
  have e2 : v.2 * (v.1 * (m.c * p + m.d * q)) = v.1 * (m.c * (p * v.2) + m.d * q * v.2) := by grind
  rw [e1, e2, l]
  have e3 : (m.a * (v.1 * q) + m.b * q * v.2) * v.2 = q * ((m.a * v.1 + m.b * v.2) * v.2) := by grind
  rw [e3, h]
  grind
theorem Fix.pow {m : Mx} {v : Int × Int} (b : v.2 ≠ 0) (h : Fix m v) : ∀ n, Fix (m.pow n) v
  | 0 => by unfold Fix Mx.pow Mx.top Mx.bot one; grind
  | n + 1 => h.mul b (Fix.pow b h n)
theorem fix_low {m : Mx} (p : m.P) {v : Int × Int} (en : EndV v) (h : Fix m v) : lowP (m.top v.1 v.2, m.bot v.1 v.2) = v := by
  obtain ⟨q1, q2, q3⟩ := p.vec en.t0 en.b0 en.p
  obtain ⟨u1, u2⟩ := low_cross q1 q2 q3 en.t0 en.b0 en.p h
  have e : lowP (m.top v.1 v.2, m.bot v.1 v.2) = lowP v := by
    unfold lowP
    rw [u1, u2]
  rw [e, en.low]
end K15
set_option maxRecDepth 100000
set_option maxHeartbeats 1000000
namespace K15
open PySem Ev
def act (m : Mx) (v : Int × Int) : Int × Int := (m.top v.1 v.2, m.bot v.1 v.2)
theorem act_mul (m n : Mx) (v : Int × Int) : act (m.mul n) v = act m (act n v) := by
  unfold act
  rw [top_mul, bot_mul]
theorem act_one (v : Int × Int) : act one v = v := by
  unfold act one Mx.top Mx.bot
  simp
structure Nn (v : Int × Int) : Prop where
  t : 0 ≤ v.1
  b : 0 ≤ v.2
  p : 0 < v.1 + v.2
theorem Nn.act {m : Mx} (h : m.P) {v : Int × Int} (n : Nn v) : Nn (act m v) := by
  obtain ⟨a, b, c⟩ := h.vec n.t n.b n.p
  exact ⟨a, b, c⟩
theorem Nn.low {v : Int × Int} (n : Nn v) : Nn (lowP v) := by
  obtain ⟨g, g0, e1, e2⟩ := lowP_mul n.t n.b n.p
  have nn : ∀ {x y : Int}, 0 ≤ y → g * x = y → 0 ≤ x := fun {x y} hy e => by
    rcases Int.lt_or_le x 0 with z | z
    · have := Int.mul_neg_of_pos_of_neg g0 z
      omega
    · exact z
  refine ⟨nn n.t e1, nn n.b e2, ?_⟩
  have a := nn n.t e1
  have b := nn n.b e2
  rcases Int.lt_or_le 0 ((lowP v).1 + (lowP v).2) with z | z
  · exact z
  · have z1 : (lowP v).1 = 0 := by omega
    have z2 : (lowP v).2 = 0 := by omega
    rw [z1, Int.mul_zero] at e1
    rw [z2, Int.mul_zero] at e2
    have := n.p
    omega
theorem low_act {m : Mx} (h : m.P) {v : Int × Int} (n : Nn v) : lowP (act m (lowP v)) = lowP (act m v) := by
  obtain ⟨g, g0, e1, e2⟩ := lowP_mul n.t n.b n.p
  have l := n.low
  obtain ⟨a, b, c⟩ := h.vec l.t l.b l.p
  have k := lowP_scale g0 a b c
  have e : (g * m.top (lowP v).1 (lowP v).2, g * m.bot (lowP v).1 (lowP v).2) = act m v := by
    unfold act
    rw [← top_scale, ← bot_scale, e1, e2]
  rw [← e, k]
  rfl
theorem valP_act (r : List Pc) (v : Int × Int) (n : Nat) : valP r v n = lowP (act ((mat r).pow n) v) := rfl
theorem Mx.pow_succ' (m : Mx) (n : Nat) : m.pow (n + 1) = (m.pow n).mul m := by
  have := Mx.pow_add m 1 n
  rw [this]
  congr 1
  exact Mx.mul_one m
theorem pow_slide (m n : Mx) : ∀ k, ((m.mul n).pow k).mul m = m.mul ((n.mul m).pow k)
  | 0 => by
    show one.mul m = m.mul one
    rw [Mx.one_mul, Mx.mul_one]
  | k + 1 => by
    rw [Mx.pow_succ', Mx.pow_succ' (n.mul m)]
    have ih := pow_slide m n k
    have e1 : (((m.mul n).pow k).mul (m.mul n)).mul m = (((m.mul n).pow k).mul m).mul (n.mul m) := by
      rw [Mx.assoc, Mx.assoc, Mx.assoc]
    rw [e1, ih, Mx.assoc]
theorem Mx.pow_mul (m : Mx) (i : Nat) : ∀ j, m.pow (i * j) = (m.pow i).pow j
  | 0 => rfl
  | j + 1 => by
    rw [Nat.mul_succ, Nat.add_comm, Mx.pow_add]
    show _ = (m.pow i).mul ((m.pow i).pow j)
    rw [Mx.pow_mul m i j]
def chg (m : Mx) (v : Int × Int) : Int := (act m v).1 * v.2 - v.1 * (act m v).2
theorem chg_eq (m : Mx) (v : Int × Int) : chg m v = m.b * (v.2 * v.2) + (m.a - m.d) * (v.1 * v.2) - m.c * (v.1 * v.1) := by
  unfold chg act Mx.top Mx.bot
  grind
theorem chg_act (m : Mx) (v : Int × Int) : chg m (act m v) = m.det * chg m v := by
  unfold chg act Mx.top Mx.bot Mx.det
  grind
theorem sgn_mul {k x : Int} (h : 0 < k) : sgn (k * x) = sgn x := by
  unfold sgn
  rcases Int.lt_trichotomy x 0 with z | z | z
  · have := Int.mul_neg_of_pos_of_neg h z
    rw [if_neg (by omega), if_pos this, if_neg (by omega), if_pos z]
  · subst z
    simp
  · have := Int.mul_pos h z
    rw [if_pos this, if_pos z]
theorem chg_pow {m : Mx} (h : 0 < m.det) (v : Int × Int) : ∀ n, sgn (chg m (act (m.pow n) v)) = sgn (chg m v)
  | 0 => by
    show sgn (chg m (act one v)) = _
    rw [act_one]
  | n + 1 => by
    show sgn (chg m (act (m.mul (m.pow n)) v)) = _
    rw [act_mul, chg_act, sgn_mul h, chg_pow h v n]
theorem chg_low {m : Mx} {v : Int × Int} (n : Nn v) : sgn (chg m (lowP v)) = sgn (chg m v) := by
  obtain ⟨g, g0, e1, e2⟩ := lowP_mul n.t n.b n.p
  have e : chg m v = g * (g * chg m (lowP v)) := by
    rw [chg_eq, chg_eq, ← e1, ← e2]
    grind
  rw [e, sgn_mul g0, sgn_mul g0]
structure Tms (s : Int) (m q : Mx) : Prop where
  b : m.b = s * q.b
  c : m.c = s * q.c
  d : m.d - m.a = s * (q.d - q.a)
theorem Tms.two (m : Mx) : Tms (m.a + m.d) (m.mul m) m := by
  refine ⟨?_, ?_, ?_⟩ <;> simp only [Mx.mul] <;> grind
theorem Tms.three (m : Mx) : Tms (m.a * m.a + m.a * m.d + m.d * m.d + m.b * m.c) ((m.mul m).mul m) m := by
  refine ⟨?_, ?_, ?_⟩ <;> simp only [Mx.mul] <;> grind
theorem Tms.chg {s : Int} {m q : Mx} (h : Tms s m q) (v : Int × Int) : chg m v = s * chg q v := by
  rw [chg_eq, chg_eq, h.b, h.c]
  have e : m.a - m.d = s * (q.a - q.d) := by
    have := h.d
    have e : s * (q.a - q.d) = -(s * (q.d - q.a)) := by grind
    omega
  rw [e]
  grind
theorem rt_sq {s w : Int} (hs : 0 ≤ s) (h : s * s = w) : rt w = s := by
  have w0 : 0 ≤ w := by rw [← h]; exact Int.mul_nonneg hs hs
  exact (rt_is w0).uniq ⟨hs, by omega, by
    have : (s + 1) * (s + 1) = s * s + 2 * s + 1 := by grind
    omega⟩
theorem sq_dvd {s k w : Int} (hs : 0 < s) (h : k * k = s * s * w) : ∃ q, k = s * q := by
  have d : s ^ 2 ∣ k ^ 2 := ⟨w, by rw [Int.pow_succ, Int.pow_succ, Int.pow_zero, Int.one_mul, Int.pow_succ, Int.pow_succ, Int.pow_zero, Int.one_mul]; exact h⟩
  exact (Int.pow_dvd_pow_iff (by decide)).mp d
theorem norm_scale {s a b c : Int} (hs : 0 < s) (ha : 0 ≤ a) (hc : 0 ≤ c) (hz : a = 0 → 0 < b) (hp : 0 < a → 0 < c) (hw : 0 ≤ wth a b c) (big : 0 < a → (b.natAbs : Int) ≤ rt (wth a b c)) : norm (s * a) (s * b) (s * c) = norm a b c := by
  by_cases a0 : a = 0
  · subst a0
    have b0 := hz rfl
    unfold norm
    rw [Int.mul_zero, if_pos rfl, if_pos rfl, lowP_scale hs hc (by omega) (by omega)]
  · have sa : s * a ≠ 0 := Int.mul_ne_zero (by omega) a0
    have ap : 0 < a := by omega
    have we : wth (s * a) (s * b) (s * c) = s * s * wth a b c := by unfold wth; grind
    have r := rt_is hw
    by_cases sq : rt (wth a b c) * rt (wth a b c) = wth a b c
    · have e : rt (wth (s * a) (s * b) (s * c)) = s * rt (wth a b c) := rt_sq (Int.mul_nonneg (by omega) r.nn) (by
        have e : s * rt (wth a b c) * (s * rt (wth a b c)) = s * s * (rt (wth a b c) * rt (wth a b c)) := by
          generalize rt (wth a b c) = t
          grind
        rw [e, sq, we])
      have sq2 : rt (wth (s * a) (s * b) (s * c)) * rt (wth (s * a) (s * b) (s * c)) = wth (s * a) (s * b) (s * c) := by
        rw [e, we]
        generalize wth a b c = w at *
        generalize rt w = t at *
        subst sq
        grind
      rw [norm_sq sa sq2, norm_sq a0 sq, e]
      have bg := big ap
      have e1 : s * rt (wth a b c) - s * b = s * (rt (wth a b c) - b) := by grind
      have e2 : 2 * (s * a) = s * (2 * a) := by grind
      rw [e1, e2, lowP_scale hs (by omega) (by omega) (by omega)]
    · have sq2 : ¬ rt (wth (s * a) (s * b) (s * c)) * rt (wth (s * a) (s * b) (s * c)) = wth (s * a) (s * b) (s * c) := by
        intro h
        rw [we] at h
        obtain ⟨q, hq⟩ := sq_dvd hs h
        have rn := (rt_is (show 0 ≤ s * s * wth a b c from Int.mul_nonneg (Int.mul_nonneg (by omega) (by omega)) hw)).nn
        rw [hq] at h rn
        have q0 : 0 ≤ q := by
          rcases Int.lt_or_le q 0 with z | z
          · have := Int.mul_neg_of_pos_of_neg hs z
            omega
          · exact z
        have ss : s * s ≠ 0 := Int.mul_ne_zero (by omega) (by omega)
        have e : q * q = wth a b c := Int.eq_of_mul_eq_mul_left ss (by
          have : s * s * (q * q) = s * q * (s * q) := by grind
          rw [this, h])
        exact sq (by rw [rt_sq q0 e, e])
      rw [norm_no sa sq2, norm_no a0 sq]
      have sn : (s.natAbs : Int) = s := by omega
      have nb : ((s * b).natAbs : Int) = s * b.natAbs := by
        rw [Int.natAbs_mul, Int.natCast_mul, sn]
      have g1 : (Int.gcd (s * a) (s * b).natAbs : Int) = s * (Int.gcd a b.natAbs : Int) := by
        rw [nb, Int.gcd_mul_left, Int.natCast_mul, sn]
      have g2 : (Int.gcd (Int.gcd (s * a) (s * b).natAbs : Int) (s * c) : Int) = s * (Int.gcd (Int.gcd a b.natAbs : Int) c : Int) := by
        rw [g1, Int.gcd_mul_left, Int.natCast_mul, sn]
      rw [g2]
      have d : ∀ x : Int, s * x / (s * (Int.gcd (Int.gcd a b.natAbs : Int) c : Int)) = x / (Int.gcd (Int.gcd a b.natAbs : Int) c : Int) := fun x => Int.mul_ediv_mul_of_pos _ _ hs
      rw [d, d, d]
theorem lim_tms {s : Int} {r q : List Pc} (hs : 0 < s) (hr : Row r) (hq : Row q) (h : Tms s (mat q) (mat r)) : limD q = limD r := by
  have zb : (mat q).b = 0 ↔ (mat r).b = 0 := by
    rw [h.b]
    constructor
    · intro e
      rcases Int.mul_eq_zero.mp e with z | z
      · omega
      · exact z
    · intro e; rw [e, Int.mul_zero]
  have zc : (mat q).c = 0 ↔ (mat r).c = 0 := by
    rw [h.c]
    constructor
    · intro e
      rcases Int.mul_eq_zero.mp e with z | z
      · omega
      · exact z
    · intro e; rw [e, Int.mul_zero]
  rw [limD_eq, limD_eq]
  by_cases c0 : (mat r).c = 0
  · rw [if_pos c0, if_pos (zc.mpr c0)]
  · rw [if_neg c0, if_neg (fun e => c0 (zc.mp e))]
    unfold Nm
    by_cases b0 : (mat r).b = 0
    · rw [if_pos b0, if_pos (zb.mpr b0)]
    · rw [if_neg b0, if_neg (fun e => b0 (zb.mp e))]
      have eq := row_eqn hr c0 b0
      rw [h.b, h.c, h.d]
      rw [norm_scale hs eq.a0 eq.c0 (fun e => by have := eq.z e; omega) eq.p (wth_bd eq).1 (fun a => rt_big eq a)]
theorem low_end {v : Int × Int} (n : Nn v) (h1 : (lowP v).1 ≤ 10 ^ 12) (h2 : (lowP v).2 ≤ 10 ^ 12) : EndV (lowP v) := by
  have l := n.low
  refine ⟨lowP_idem n.t n.b n.p, l.t, h1, l.b, h2, fun z => ?_, l.p⟩
  obtain ⟨g, g0, e1, e2⟩ := lowP_mul n.t n.b n.p
  rw [z, Int.mul_zero] at e2
  have v2 : v.2 = 0 := e2.symm
  have v1 : 0 < v.1 := by have := n.p; omega
  show v.1 / (Int.gcd v.1 v.2 : Int) = 1
  rw [v2]
  have e : (Int.gcd v.1 0 : Int) = v.1 := by
    rw [Int.gcd_zero_right]
    omega
  rw [e]
  exact Int.ediv_self (by omega)
end K15
set_option maxRecDepth 100000
set_option maxHeartbeats 1000000
namespace K15
open PySem Ev
theorem front_big {k : Nat} (hk : k ≤ 900) (r : List Pc) (h : Row r) (v : Int × Int) (hv : Vec k v) : sem__law_front [.lst (r.map Pc.D), pairD v] = M.pure (pairD (lowT (frontV r v).1 (frontV r v).2, lowB (frontV r v).1 (frontV r v).2)) := by
  refine pure_of fun S => ?_
  have fv := front_vec h.1 hv
  have l := h.2
  have lp := law_pair_ok (frontV r v).1 (frontV r v).2 fv.t.1 fv.b.1 fv.p (fv.t.mono (by omega : _ ≤ 1000)).2 (fv.b.mono (by omega : _ ≤ 1000)).2
  unfold sem__law_front
  rw [run_fn]
  refine ⟨rfl, ?_⟩
  show RunS pk__law_front.1 [.val (.lst (r.map Pc.D)), .val (pairD v), .no, .no, .no, .no] S _ _ _ _
  unfold pk__law_front pairD
  have rv : dRev (.lst (r.map Pc.D)) = M.pure (.lst (r.reverse.map Pc.D)) := by
    rw [List.map_reverse]
    rfl
  simp only [runS_seq, runS_tgt, runS_for, run_bind, run_pure, getv, tupT, consT, setT, List.length_cons, List.length_nil, Nat.reduceAdd, if_true, List.getElem?_cons_zero, List.getElem?_cons_succ, List.set_cons_zero, List.set_cons_succ, rv]
  unfold seqOf
  simp only [run_pure]
  refine loop_rule (J := fun ds sd S' => S' = S ∧ ∃ (r1 r2 : List Pc) (u w : SV), ds = r1.reverse.map Pc.D ∧ r = r1 ++ r2 ∧ sd = [.val (.lst (r.map Pc.D)), .val (.tup [.int v.1, .int v.2]), .val (.int (frontV r2 v).1), .val (.int (frontV r2 v).2), u, w]) ?_ ?_ _ _ _ ?_
  · rintro d ds sd S' ⟨rfl, r1, r2, u, w, e, er, rfl⟩
    obtain ⟨r0, p, rfl⟩ : ∃ r0 p, r1 = r0 ++ [p] := by
      rcases List.eq_nil_or_concat r1 with z | ⟨r0, p, z⟩
      · rw [z] at e; cases e
      · exact ⟨r0, p, by rw [z, List.concat_eq_append]⟩
    rw [List.reverse_append, List.reverse_singleton, List.singleton_append, List.map_cons] at e
    cases e
    have er2 : r = r0 ++ (p :: r2) := by rw [er, List.append_assoc]; rfl
    have hp : p.ok := h.1 p (by rw [er2]; simp)
    have hr2 : ∀ q ∈ r2, q.ok := fun q hq => h.1 q (by rw [er2]; simp [hq])
    have fv2 := front_vec hr2 hv
    have l2 : r2.length ≤ 8 := by
      have := congrArg List.length er2
      rw [List.length_append, List.length_cons] at this
      omega
    have so := Pc.sm hp
    have fe : frontV (p :: r2) v = stepV p (frontV r2 v) := rfl
    refine ⟨_, _, rfl, ?_⟩
    generalize frontV r2 v = x at fv2 fe
    obtain ⟨b, o⟩ := p
    cases b with
    | true =>
      simp only [runS_if, runS_seq, runS_tgt, runS_next, run_bind, run_pure, getv, setT, List.getElem?_cons_zero, List.getElem?_cons_succ, List.set_cons_zero, List.set_cons_succ, eq_str, Pc.w, if_true, toB_bl]
      rw [if_pos (decide_eq_true trivial)]
      rw [mulS so fv2.b (by omega)]
      simp only [run_pure, add_int]
      refine ⟨trivial, r0, _ :: r2, .val (.str "rail"), .val (.int o), rfl, er2, ?_⟩
      rw [fe]
      rfl
    | false =>
      simp only [runS_if, runS_seq, runS_tgt, runS_par, runS_next, run_bind, run_pure, getv, setT, List.getElem?_cons_zero, List.getElem?_cons_succ, List.set_cons_zero, List.set_cons_succ, eq_str, eq_int, Pc.w, Bool.false_eq_true, if_false, toB_bl, rung_ne]
      by_cases hb : x.2 = 0
      · rw [if_pos (decide_eq_true hb)]
        refine ⟨trivial, r0, _ :: r2, .val (.str "rung"), .val (.int o), rfl, er2, ?_⟩
        rw [fe]
        unfold stepV
        simp [hb]
      · rw [if_neg (by simpa using hb)]
        rw [mulS so fv2.t (by omega), mulS so fv2.b (by omega)]
        simp only [run_pure, add_int]
        refine ⟨trivial, r0, _ :: r2, .val (.str "rung"), .val (.int o), rfl, er2, ?_⟩
        rw [fe]
        unfold stepV
        simp [hb]
  · rintro sd S' ⟨rfl, r1, r2, u, w, e, er, rfl⟩
    have r10 : r1 = [] := by
      rcases r1 with _ | ⟨p, r1⟩
      · rfl
      · simp at e
    subst r10
    rw [List.nil_append] at er
    subst er
    simp only [runS_seq, runS_ret, run_bind, run_pure, getv, List.getElem?_cons_zero, List.getElem?_cons_succ, lp]
    exact ⟨rfl, trivial⟩
  · exact ⟨rfl, r, [], _, _, rfl, by rw [List.append_nil], rfl⟩
theorem rung_c2 : ∀ {r : List Pc}, (∀ p ∈ r, p.ok) → (∃ p ∈ r, p.rail = false) → scl r ≤ 12 * (mat r).c
  | [], _, h => by obtain ⟨p, h, _⟩ := h; cases h
  | p :: r, h, hx => by
    have hr : ∀ q ∈ r, q.ok := fun q hq => h q (List.mem_cons_of_mem _ hq)
    obtain ⟨i1, i2, i3, i4, i5⟩ := ad_ge hr
    obtain ⟨o1, o2⟩ := h p List.mem_cons_self
    have e2 : scl (p :: r) = (if p.rail then 1 else 1 * p.o) * scl r := chain_scl r _ _
    obtain ⟨b, o⟩ := p
    dsimp only at o1 o2
    rw [mat_cons, e2]
    cases b with
    | true =>
      obtain ⟨q, hq, e⟩ := hx
      rcases List.mem_cons.mp hq with rfl | hq
      · cases e
      have := rung_c2 hr ⟨q, hq, e⟩
      show (if true = true then 1 else 1 * o) * scl r ≤ 12 * (0 * (mat r).a + 1 * (mat r).c)
      rw [if_pos rfl]
      omega
    | false =>
      have oc := Int.mul_nonneg (show 0 ≤ o by omega) i4
      have os := Int.mul_le_mul_of_nonneg_right o2 (Int.le_of_lt i5)
      show (if false = true then 1 else 1 * o) * scl r ≤ 12 * (1 * (mat r).a + o * (mat r).c)
      rw [if_neg (by decide), Int.one_mul]
      omega
theorem rail_b2 : ∀ {r : List Pc}, (∀ p ∈ r, p.ok) → (∃ p ∈ r, p.rail = true) → scl r ≤ (mat r).b
  | [], _, h => by obtain ⟨p, h, _⟩ := h; cases h
  | p :: r, h, hx => by
    have hr : ∀ q ∈ r, q.ok := fun q hq => h q (List.mem_cons_of_mem _ hq)
    obtain ⟨i1, i2, i3, i4, i5⟩ := ad_ge hr
    obtain ⟨o1, o2⟩ := h p List.mem_cons_self
    have e2 : scl (p :: r) = (if p.rail then 1 else 1 * p.o) * scl r := chain_scl r _ _
    obtain ⟨b, o⟩ := p
    dsimp only at o1 o2
    rw [mat_cons, e2]
    cases b with
    | true =>
      have od := Int.mul_le_mul_of_nonneg_right o1 (show 0 ≤ (mat r).d by omega)
      show (if true = true then 1 else 1 * o) * scl r ≤ 1 * (mat r).b + o * (mat r).d
      rw [if_pos rfl]
      omega
    | false =>
      obtain ⟨q, hq, e⟩ := hx
      rcases List.mem_cons.mp hq with rfl | hq
      · cases e
      have := Int.mul_le_mul_of_nonneg_left (rail_b2 hr ⟨q, hq, e⟩) (show 0 ≤ o by omega)
      show (if false = true then 1 else 1 * o) * scl r ≤ o * (mat r).b + 0 * (mat r).d
      rw [if_neg (by decide), Int.one_mul]
      omega
theorem trace2 : ∀ {r : List Pc}, (∀ p ∈ r, p.ok) → (∃ p ∈ r, p.rail = true) → (∃ p ∈ r, p.rail = false) → 25 * scl r ≤ 12 * ((mat r).a + (mat r).d)
  | [], _, h, _ => by obtain ⟨p, h, _⟩ := h; cases h
  | p :: r, h, hx, hy => by
    have hr : ∀ q ∈ r, q.ok := fun q hq => h q (List.mem_cons_of_mem _ hq)
    obtain ⟨i1, i2, i3, i4, i5⟩ := ad_ge hr
    obtain ⟨o1, o2⟩ := h p List.mem_cons_self
    have e2 : scl (p :: r) = (if p.rail then 1 else 1 * p.o) * scl r := chain_scl r _ _
    obtain ⟨b, o⟩ := p
    dsimp only at o1 o2
    rw [mat_cons, e2]
    cases b with
    | true =>
      obtain ⟨q, hq, e⟩ := hy
      rcases List.mem_cons.mp hq with rfl | hq
      · cases e
      have c := rung_c2 hr ⟨q, hq, e⟩
      have oc := Int.mul_le_mul_of_nonneg_right o1 i4
      show 25 * ((if true = true then 1 else 1 * o) * scl r) ≤ 12 * ((1 * (mat r).a + o * (mat r).c) + (0 * (mat r).b + 1 * (mat r).d))
      rw [if_pos rfl]
      omega
    | false =>
      obtain ⟨q, hq, e⟩ := hx
      rcases List.mem_cons.mp hq with rfl | hq
      · cases e
      have b2 := rail_b2 hr ⟨q, hq, e⟩
      have oa := Int.mul_le_mul_of_nonneg_left i1 (show 0 ≤ o by omega)
      have od := Int.mul_le_mul_of_nonneg_left i2 (show 0 ≤ o by omega)
      have os := Int.mul_le_mul_of_nonneg_right o2 (Int.le_of_lt i5)
      show 25 * ((if false = true then 1 else 1 * o) * scl r) ≤ 12 * ((o * (mat r).a + 0 * (mat r).c) + (1 * (mat r).b + o * (mat r).d))
      rw [if_neg (by decide), Int.one_mul]
      omega
def Qn (m : Mx) (v : Int × Int) (n : Nat) : Int := (act (m.pow n) v).2
theorem Qn_step (m : Mx) (v : Int × Int) (n : Nat) : Qn m v (n + 2) = (m.a + m.d) * Qn m v (n + 1) - m.det * Qn m v n := by
  unfold Qn
  have e1 : act (m.pow (n + 2)) v = act m (act m (act (m.pow n) v)) := by
    show act (m.mul (m.mul (m.pow n))) v = _
    rw [act_mul, act_mul]
  have e2 : act (m.pow (n + 1)) v = act m (act (m.pow n) v) := by
    show act (m.mul (m.pow n)) v = _
    rw [act_mul]
  rw [e1, e2]
  generalize act (m.pow n) v = w
  unfold act Mx.top Mx.bot Mx.det
  grind
structure Mp (m : Mx) (s : Int) : Prop where
  p : m.P
  s0 : 0 < s
  a : s ≤ m.a
  d : s ≤ m.d
  b : s ≤ m.b
  c : s ≤ 12 * m.c
  t : 25 * s ≤ 12 * (m.a + m.d)
  e : m.det = s * s
  s1 : s ≤ 28561
  a1 : m.a ≤ 28561
  b1 : m.b ≤ 28561
  c1 : m.c ≤ 28561
theorem Mp.Q0 {m : Mx} {s : Int} (h : Mp m s) {v : Int × Int} (n : Nn v) (k : Nat) : 0 ≤ Qn m v k := (Nn.act (Mx.P.pow h.p k) n).b
theorem Mp.grow {m : Mx} {s : Int} (h : Mp m s) {v : Int × Int} (n : Nn v) {k : Nat} {x y z w : Int} (hx : 0 < x) (hy : 0 < y) (i : y * (s * Qn m v k) ≤ x * Qn m v (k + 1)) (hw : 0 < w) (hz : 12 * y * z ≤ w * (25 * y - 12 * x)) : z * (s * Qn m v (k + 1)) ≤ w * Qn m v (k + 2) := by
  have q0 := h.Q0 n k
  have q1 := h.Q0 n (k + 1)
  have st := Qn_step m v k
  rw [h.e] at st
  have s0 := h.s0
  have t := h.t
  generalize Qn m v k = q at *
  generalize Qn m v (k + 1) = r at *
  generalize Qn m v (k + 2) = u at *
  generalize m.a + m.d = T at *
  have i2 := Int.mul_le_mul_of_nonneg_left i (Int.le_of_lt s0)
  have t2 := Int.mul_le_mul_of_nonneg_right t q1
  have sr : 0 ≤ s * r := Int.mul_nonneg (Int.le_of_lt s0) q1
  have hz2 := Int.mul_le_mul_of_nonneg_right hz sr
  have yu : y * (12 * u) ≥ (25 * y - 12 * x) * (s * r) := by
    rw [st]
    have t3 := Int.mul_le_mul_of_nonneg_left t2 (Int.le_of_lt hy)
    have e1 : y * (12 * (T * r - s * s * q)) = y * (12 * T * r) - 12 * (s * (y * (s * q))) := by grind
    have e2 : (25 * y - 12 * x) * (s * r) = y * (25 * s * r) - 12 * (s * (x * r)) := by grind
    omega
  have y12 : 0 < 12 * y := by omega
  refine Int.le_of_mul_le_mul_left ?_ y12
  have wu := Int.mul_le_mul_of_nonneg_left yu (Int.le_of_lt hw)
  have e3 : 12 * y * (z * (s * r)) = 12 * y * z * (s * r) := by grind
  have e4 : 12 * y * (w * u) = w * (y * (12 * u)) := by grind
  have e5 : w * ((25 * y - 12 * x) * (s * r)) = w * (25 * y - 12 * x) * (s * r) := by grind
  omega
theorem Mp.q01 {m : Mx} {s : Int} (h : Mp m s) {v : Int × Int} (n : Nn v) : s * Qn m v 0 ≤ Qn m v 1 := by
  show s * (act one v).2 ≤ (act (m.mul one) v).2
  rw [act_one, Mx.mul_one]
  show s * v.2 ≤ m.c * v.1 + m.d * v.2
  have a := Int.mul_le_mul_of_nonneg_right h.d n.b
  have b := Int.mul_nonneg h.p.c n.t
  omega
theorem Mp.r1 {m : Mx} {s : Int} (h : Mp m s) {v : Int × Int} (n : Nn v) : 13 * (s * Qn m v 1) ≤ 12 * Qn m v 2 := h.grow n (k := 0) (x := 1) (y := 1) (by decide) (by decide) (by have := h.q01 n; show 1 * (s * Qn m v 0) ≤ 1 * Qn m v 1; omega) (by decide) (by decide)
theorem Mp.r2 {m : Mx} {s : Int} (h : Mp m s) {v : Int × Int} (n : Nn v) : 8 * (s * Qn m v 2) ≤ 7 * Qn m v 3 := h.grow n (x := 12) (y := 13) (by decide) (by decide) (h.r1 n) (by decide) (by decide)
theorem Mp.r3 {m : Mx} {s : Int} (h : Mp m s) {v : Int × Int} (n : Nn v) : 6 * (s * Qn m v 3) ≤ 5 * Qn m v 4 := h.grow n (x := 7) (y := 8) (by decide) (by decide) (h.r2 n) (by decide) (by decide)
theorem Mp.r4 {m : Mx} {s : Int} (h : Mp m s) {v : Int × Int} (n : Nn v) : ∀ k : Nat, 5 * (s * Qn m v (4 + k)) ≤ 4 * Qn m v (4 + k + 1)
  | 0 => h.grow n (x := 5) (y := 6) (by decide) (by decide) (h.r3 n) (by decide) (by decide)
  | k + 1 => h.grow n (x := 4) (y := 5) (by decide) (by decide) (h.r4 n k) (by decide) (by decide)
theorem Mp.far {m : Mx} {s : Int} (h : Mp m s) {v : Int × Int} (n : Nn v) : ∀ k : Nat, 5 ^ k * (s ^ (k + 3) * Qn m v 1) ≤ 4 ^ k * Qn m v (4 + k)
  | 0 => by
    have s0 := Int.le_of_lt h.s0
    have a1 := h.r1 n
    have a2 := h.r2 n
    have a3 := h.r3 n
    have q1 := Int.mul_nonneg s0 (h.Q0 n 1)
    have q2 := Int.mul_nonneg s0 (h.Q0 n 2)
    have q3 := Int.mul_nonneg s0 (h.Q0 n 3)
    have b1 := Int.mul_le_mul_of_nonneg_left (show s * Qn m v 1 ≤ Qn m v 2 by omega) s0
    have b2 := Int.mul_le_mul_of_nonneg_left (Int.le_trans b1 (show s * Qn m v 2 ≤ Qn m v 3 by omega)) s0
    have b3 : s * Qn m v 3 ≤ Qn m v 4 := by omega
    have e : s ^ (0 + 3) * Qn m v 1 = s * (s * (s * Qn m v 1)) := by grind
    show 5 ^ 0 * (s ^ (0 + 3) * Qn m v 1) ≤ 4 ^ 0 * Qn m v 4
    rw [e]
    omega
  | k + 1 => by
    have s0 := Int.le_of_lt h.s0
    have ih := Mp.far h n k
    have r := h.r4 n k
    have p4 : (0 : Int) ≤ 4 ^ k := Int.pow_nonneg (by decide)
    have i2 := Int.mul_le_mul_of_nonneg_left ih (show 0 ≤ 5 * s by omega)
    have r2 := Int.mul_le_mul_of_nonneg_left r p4
    have e1 : 5 ^ (k + 1) * (s ^ (k + 1 + 3) * Qn m v 1) = 5 * s * (5 ^ k * (s ^ (k + 3) * Qn m v 1)) := by grind
    have e2 : 5 * s * (4 ^ k * Qn m v (4 + k)) = 4 ^ k * (5 * (s * Qn m v (4 + k))) := by grind
    have e3 : 4 ^ k * (4 * Qn m v (4 + k + 1)) = 4 ^ (k + 1) * Qn m v (4 + (k + 1)) := by
      rw [Int.pow_succ, ← Nat.add_assoc]
      grind
    rw [e1, ← e3]
    omega
end K15
set_option maxRecDepth 100000
set_option maxHeartbeats 4000000
namespace K15
open PySem Ev
theorem law_pair_big {k : Nat} (t b : Int) (ht : Sm k t) (hb : Sm k b) (h : 0 < t + b) (hk : k ≤ 9000) : sem__law_pair [.int t, .int b] = M.pure (pairD (lowP (t, b))) := by
  refine pure_wp fun S => ?_
  obtain ⟨n, hn, hl⟩ := left_big ht hb
  have g0 : 0 < (Int.gcd t b : Int) := gcd_pos2 (by have := ht.1; have := hb.1; omega)
  have g1 := gcd_sm ht hb
  have bg : Bd 9000 (Int.gcd t b : Int) := bd_sm (g1.mono hk)
  (unfold sem__law_pair; refine Ev.go_fn rfl ?_; unfold pk__law_pair; simp only [Ev.slots, List.map_cons, List.map_nil, List.length_cons, List.length_nil, List.cons_append, List.nil_append, List.replicate, Nat.reduceSub, Nat.reduceAdd])
  (repeat regstrif_gather)
  refine gs_iter (J := fun n sd S' => S' = S ∧ ∃ x y : Int, sd = [.val (.int t), .val (.int b), .val (.int x), .val (.int y)] ∧ 0 ≤ x ∧ 0 ≤ y ∧ Int.gcd x y = Int.gcd t b ∧ Left x y n) ?_ n _ _ (by unfold bigW; omega) ⟨rfl, t, b, rfl, ht.1, hb.1, rfl, hl⟩
  rintro n sd S' ⟨rfl, x, y, rfl, hx, hy, hg, hn⟩
  (repeat regstrif_gather)
  refine ite_d (fun h => ?_) (fun h => ?_)
  · (repeat regstrif_gather)
    obtain ⟨n', l', h'⟩ := left_step hx h hn
    exact ⟨n', l', rfl, y, x % y, rfl, hy, Int.emod_nonneg x (by omega), (gcd_step x y hx h).trans hg, h'⟩
  · have y0 : y = 0 := by omega
    subst y0
    simp only [Int.gcd_zero] at hg
    have xg : x = (Int.gcd t b : Int) := by omega
    subst xg
    (repeat regstrif_gather)
    exact ⟨rfl, rfl⟩
theorem front_huge {k : Nat} (hk : k ≤ 8000) (r : List Pc) (h : Row r) (v : Int × Int) (hv : Vec k v) : sem__law_front [.lst (r.map Pc.D), pairD v] = M.pure (pairD (lowT (frontV r v).1 (frontV r v).2, lowB (frontV r v).1 (frontV r v).2)) := by
  refine pure_of fun S => ?_
  have fv := front_vec h.1 hv
  have l := h.2
  have lp := law_pair_big (frontV r v).1 (frontV r v).2 fv.t fv.b fv.p (by omega)
  unfold sem__law_front
  rw [run_fn]
  refine ⟨rfl, ?_⟩
  show RunS pk__law_front.1 [.val (.lst (r.map Pc.D)), .val (pairD v), .no, .no, .no, .no] S _ _ _ _
  unfold pk__law_front pairD
  have rv : dRev (.lst (r.map Pc.D)) = M.pure (.lst (r.reverse.map Pc.D)) := by
    rw [List.map_reverse]
    rfl
  simp only [runS_seq, runS_tgt, runS_for, run_bind, run_pure, getv, tupT, consT, setT, List.length_cons, List.length_nil, Nat.reduceAdd, if_true, List.getElem?_cons_zero, List.getElem?_cons_succ, List.set_cons_zero, List.set_cons_succ, rv]
  unfold seqOf
  simp only [run_pure]
  refine loop_rule (J := fun ds sd S' => S' = S ∧ ∃ (r1 r2 : List Pc) (u w : SV), ds = r1.reverse.map Pc.D ∧ r = r1 ++ r2 ∧ sd = [.val (.lst (r.map Pc.D)), .val (.tup [.int v.1, .int v.2]), .val (.int (frontV r2 v).1), .val (.int (frontV r2 v).2), u, w]) ?_ ?_ _ _ _ ?_
  · rintro d ds sd S' ⟨rfl, r1, r2, u, w, e, er, rfl⟩
    obtain ⟨r0, p, rfl⟩ : ∃ r0 p, r1 = r0 ++ [p] := by
      rcases List.eq_nil_or_concat r1 with z | ⟨r0, p, z⟩
      · rw [z] at e; cases e
      · exact ⟨r0, p, by rw [z, List.concat_eq_append]⟩
    rw [List.reverse_append, List.reverse_singleton, List.singleton_append, List.map_cons] at e
    cases e
    have er2 : r = r0 ++ (p :: r2) := by rw [er, List.append_assoc]; rfl
    have hp : p.ok := h.1 p (by rw [er2]; simp)
    have hr2 : ∀ q ∈ r2, q.ok := fun q hq => h.1 q (by rw [er2]; simp [hq])
    have fv2 := front_vec hr2 hv
    have l2 : r2.length ≤ 8 := by
      have := congrArg List.length er2
      rw [List.length_append, List.length_cons] at this
      omega
    have so := Pc.sm hp
    have fe : frontV (p :: r2) v = stepV p (frontV r2 v) := rfl
    refine ⟨_, _, rfl, ?_⟩
    generalize frontV r2 v = x at fv2 fe
    obtain ⟨b, o⟩ := p
    cases b with
    | true =>
      simp only [runS_if, runS_seq, runS_tgt, runS_next, run_bind, run_pure, getv, setT, List.getElem?_cons_zero, List.getElem?_cons_succ, List.set_cons_zero, List.set_cons_succ, eq_str, Pc.w, if_true, toB_bl]
      rw [if_pos (decide_eq_true trivial)]
      rw [mulS so fv2.b (by omega)]
      simp only [run_pure, add_int]
      refine ⟨trivial, r0, _ :: r2, .val (.str "rail"), .val (.int o), rfl, er2, ?_⟩
      rw [fe]
      rfl
    | false =>
      simp only [runS_if, runS_seq, runS_tgt, runS_par, runS_next, run_bind, run_pure, getv, setT, List.getElem?_cons_zero, List.getElem?_cons_succ, List.set_cons_zero, List.set_cons_succ, eq_str, eq_int, Pc.w, Bool.false_eq_true, if_false, toB_bl, rung_ne]
      by_cases hb : x.2 = 0
      · rw [if_pos (decide_eq_true hb)]
        refine ⟨trivial, r0, _ :: r2, .val (.str "rung"), .val (.int o), rfl, er2, ?_⟩
        rw [fe]
        unfold stepV
        simp [hb]
      · rw [if_neg (by simpa using hb)]
        rw [mulS so fv2.t (by omega), mulS so fv2.b (by omega)]
        simp only [run_pure, add_int]
        refine ⟨trivial, r0, _ :: r2, .val (.str "rung"), .val (.int o), rfl, er2, ?_⟩
        rw [fe]
        unfold stepV
        simp [hb]
  · rintro sd S' ⟨rfl, r1, r2, u, w, e, er, rfl⟩
    have r10 : r1 = [] := by
      rcases r1 with _ | ⟨p, r1⟩
      · rfl
      · simp at e
    subst r10
    rw [List.nil_append] at er
    subst er
    simp only [runS_seq, runS_ret, run_bind, run_pure, getv, List.getElem?_cons_zero, List.getElem?_cons_succ, lp]
    exact ⟨rfl, trivial⟩
  · exact ⟨rfl, r, [], _, _, rfl, by rw [List.append_nil], rfl⟩
theorem pow_S {m : Mx} {k : Nat} (h : m.S k) (k1 : 1 ≤ k) : ∀ n : Nat, (m.pow n).S ((k + 1) * n + k)
  | 0 => one_sm.mono (by omega)
  | n + 1 => (h.mul (pow_S h k1 n)).mono (by rw [Nat.mul_succ]; omega)
def wV (r : List Pc) (e : Int × Int) (n : Nat) : Int × Int := act ((mat r).pow n) e
theorem wV_0 (r : List Pc) (e : Int × Int) : wV r e 0 = e := act_one e
theorem wV_S (r : List Pc) (e : Int × Int) (n : Nat) : wV r e (n + 1) = act (mat r) (wV r e n) := act_mul _ _ _
theorem wV_nn {r : List Pc} (h : Row r) {e : Int × Int} (ne : Nn e) (n : Nat) : Nn (wV r e n) := Nn.act (Mx.P.pow (mat_P h.1) n) ne
structure Wk (r : List Pc) (s n : Nat) : Prop where
  row : Row r
  S : (mat r).S s
  s1 : 1 ≤ s
  sn : (s + 1) * n + s + 101 ≤ 1900
theorem Wk.le {r : List Pc} {s n k : Nat} (h : Wk r s n) (l : k ≤ n) : (s + 1) * k + s + 101 ≤ 1900 := by
  have := Nat.mul_le_mul_left (s + 1) l
  have := h.sn
  omega
theorem wV_sm {r : List Pc} {s n : Nat} (h : Wk r s n) {e : Int × Int} (he : Vec 100 e) {k : Nat} (l : k ≤ n) : Sm 1900 (wV r e k).1 ∧ Sm 1900 (wV r e k).2 := by
  have ps := pow_S h.S h.s1 k
  have t1 : Sm ((s + 1) * k + s + 100 + 1) (wV r e k).1 := (ps.a.mul he.t).add (ps.b.mul he.b)
  have t2 : Sm ((s + 1) * k + s + 100 + 1) (wV r e k).2 := (ps.c.mul he.t).add (ps.d.mul he.b)
  have := h.le l
  exact ⟨t1.mono (by omega), t2.mono (by omega)⟩
theorem val_vecW {r : List Pc} {s n : Nat} (h : Wk r s n) {v : Int × Int} (hv : Vec 100 v) {k : Nat} (l : k ≤ n) : Vec 1900 (valP r v k) := by
  obtain ⟨t1, t2⟩ := wV_sm h hv l
  have nv : Nn v := ⟨hv.t.1, hv.b.1, hv.p⟩
  have na := wV_nn h.row nv k
  obtain ⟨a, c⟩ := low_sm t1 t2 na.p
  exact ⟨a, c, low_pos na.t na.b na.p⟩
theorem front_valW {r : List Pc} {s n : Nat} (h : Wk r s n) {v : Int × Int} (hv : Vec 100 v) {k : Nat} (l : k ≤ n) : sem__law_front [.lst (r.map Pc.D), pairD (valP r v k)] = M.pure (pairD (valP r v (k + 1))) := by
  have w := val_vecW h hv l
  have e := front_huge (k := 1900) (by decide) r h.row (valP r v k) w
  rw [e]
  have nv : Nn v := ⟨hv.t.1, hv.b.1, hv.p⟩
  have na := Nn.act (Mx.P.pow (mat_P h.row.1) k) nv
  obtain ⟨mv, mx⟩ := mat_vec h.row.1 w
  have fv := front_vec h.row.1 w
  obtain ⟨u1, u2⟩ := low_cross mv.t.1 mv.b.1 mv.p fv.t.1 fv.b.1 fv.p mx
  have e2 : lowP (frontV r (valP r v k)) = valP r v (k + 1) := by
    have e3 : lowP (frontV r (valP r v k)) = lowP (act (mat r) (valP r v k)) := by
      unfold lowP
      dsimp only at u1 u2
      rw [← u1, ← u2]
      rfl
    rw [e3, valP_act, low_act (mat_P h.row.1) na, ← act_mul]
    rfl
  exact congrArg (fun z => M.pure (pairD z)) e2
theorem next_big {k : Nat} {r : List Pc} (h : Row r) (v : Int × Int) {w : Int × Int} (h1 : Sm k w.1) (h2 : Sm k w.2) (k1 : 100 ≤ k) (hk : k ≤ 9000) : sem_Ladder_next_of [ladD r v, pairD w] = M.pure (pairD (act (mat r) w)) := by
  refine pure_wp fun S => ?_
  have ld : sem_led [(mat r).D, pairD w] = M.pure (.tup [.int ((mat r).top w.1 w.2), .int ((mat r).bot w.1 w.2)]) := led_ok (k := k) _ w.1 w.2 (h.s41.mono (by omega)) h1 h2 (by omega)
  (unfold sem_Ladder_next_of; refine Ev.go_fn rfl ?_; unfold pk_Ladder_next_of; simp only [Ev.slots, List.map_cons, List.map_nil, List.length_cons, List.length_nil, List.cons_append, List.nil_append, List.replicate, Nat.reduceSub, Nat.reduceAdd])
  (repeat regstrif_gather)
  refine go_val (r := patD r) rfl ?_
  refine go_val (attr_chain r) ?_
  (repeat regstrif_gather)
  exact go_val ld ⟨rfl, rfl⟩
theorem opening_wp {r : List Pc} {s n : Nat} (h : Wk r s n) {e : Int × Int} (he : Vec 100 e) (hn : n ≤ 100) (S : List Ob) : Wp (sem_Run_opening [ladD r e, .int n]) S fun l S' => l = (List.range n).map (fun k => pairD (valP r e k)) ∧ S' = S := by
  unfold sem_Run_opening
  refine wp_gen rfl ?_
  show Wg pk_Run_opening.1 [.val (ladD r e), .val (.int n), .no, .no] S [] _
  unfold pk_Run_opening
  refine wg_seq (wg_plain ?_)
  (repeat regstrif_gather)
  refine go_val (check_count_ok n hn) ?_
  (repeat regstrif_gather)
  refine wg_seq (wg_plain ?_)
  (repeat regstrif_gather)
  refine go_val (r := pairD e) rfl ?_
  (repeat regstrif_gather)
  refine wg_seq (wg_for (J := fun ds sd S' out => S' = S ∧ ∃ (k : Nat) (x3 : SV), ds.length + k = n ∧ out = (List.range k).map (fun k => pairD (valP r e k)) ∧ sd = [.val (ladD r e), .val (.int n), .val (pairD (wV r e k)), x3]) ?_ ?_ ?_)
  · (repeat regstrif_gather)
    exact ⟨rfl, 0, _, by simp [rngD], rfl, by rw [wV_0]; rfl⟩
  · rintro d ds sd S' out ⟨rfl, k, x3, hk, rfl, rfl⟩
    rw [List.length_cons] at hk
    obtain ⟨t1, t2⟩ := wV_sm h he (show k ≤ n by omega)
    have na := wV_nn h.row ⟨he.t.1, he.b.1, he.p⟩ k
    refine ⟨_, _, rfl, ?_⟩
    refine wg_seq (wg_yield (by rw [List.length_map, List.length_range]; unfold lim; omega) ?_)
    (repeat regstrif_gather)
    refine go_val (ix0 _) ?_
    (repeat regstrif_gather)
    refine go_val (ix1 _) ?_
    (repeat regstrif_gather)
    refine go_val (lowest_big (k := 1900) _ _ t1 t2 na.p (by decide)) ?_
    refine wg_seq (wg_plain ?_)
    (repeat regstrif_gather)
    refine go_val (r := sem_Ladder_next_of) rfl ?_
    (repeat regstrif_gather)
    refine go_val (next_big (k := 1900) h.row e t1 t2 (by decide) (by decide)) ?_
    (repeat regstrif_gather)
    refine wg_nil ⟨rfl, k + 1, _, by omega, ?_, by rw [wV_S]; rfl⟩
    rw [List.range_succ, List.map_append, List.map_cons, List.map_nil]
    rfl
  · rintro sd S' out ⟨rfl, k, x3, hk, rfl, rfl⟩
    simp only [List.length_nil, Nat.zero_add] at hk
    subst hk
    exact wg_nil ⟨rfl, rfl⟩
end K15
set_option maxRecDepth 100000
set_option maxHeartbeats 4000000
namespace K15
open PySem Ev
structure Ld (v : Int × Int) : Prop where
  t0 : 0 ≤ v.1
  t1 : v.1 ≤ 10 ^ 12
  b0 : 0 ≤ v.2
  b1 : v.2 ≤ 10 ^ 12
  op : v.2 = 0 → v.1 = 1
theorem Ld.p {v : Int × Int} (h : Ld v) : 0 < v.1 + v.2 := by
  have := h.t0
  have := h.b0
  rcases Int.lt_or_le 0 v.2 with z | z
  · omega
  · have := h.op (by omega)
    omega
def Pd (v : Int × Int) (d : D) : Prop := sem_check_resistance [d] = M.pure .non ∧ sem_pair_of [d] = M.pure (pairD (lowP v))
theorem pd_tup {v : Int × Int} (h : Ld v) : Pd v (pairD v) := by
  have t := h.t1
  have b := h.b1
  exact ⟨check_tup v.1 v.2 ⟨h.t0, h.t1, h.b0, h.b1, h.op⟩, pair_of_tup v.1 v.2 h.t0 h.b0 h.p (by omega) (by omega)⟩
theorem told_ok (S : List Ob) (n : Nat) (h : Cup S n) {v : Int × Int} (hv : Ld v) : Wp (sem__law_told [.ref n, pairD v]) S fun d S' => Pd v d ∧ Cup S' n := by
  have p11 : dPow (.int 10) (.int 11) = M.pure (.int 100000000000) := funext fun S => by kernel_rfl
  have pt := pd_tup hv
  obtain ⟨t0, t1, b0, b1, op⟩ := id hv
  have bt : Bd 50 v.1 := .mk (by omega)
  have bb : Bd 50 v.2 := .mk (by omega)
  (unfold sem__law_told; refine Ev.go_fn rfl ?_; unfold pk__law_told; simp only [Ev.slots, List.map_cons, List.map_nil, List.length_cons, List.length_nil, List.cons_append, List.nil_append, List.replicate, Nat.reduceSub, Nat.reduceAdd])
  (repeat regstrif_gather)
  refine go_val (ix1 v) ?_
  (repeat regstrif_gather)
  refine ite_d (fun z => ?_) (fun z => ?_)
  · (repeat regstrif_gather)
    exact ⟨pt, h⟩
  · have bp : 0 < v.2 := by omega
    have rest : ∀ S2 : List Ob, Cup S2 n → ∀ k : Int, 0 ≤ k → k < 3 → ¬ (100000000000 < v.1 ∨ 100000000000 < v.2) → Pd v (.tup [.int ((1 + k) * v.1), .int ((1 + k) * v.2)]) := fun S2 h2 k k0 k1 no => by
      have m1 := Int.mul_le_mul_of_nonneg_right (show 1 + k ≤ 3 by omega) t0
      have m2 := Int.mul_le_mul_of_nonneg_right (show 1 + k ≤ 3 by omega) b0
      have n1 := Int.mul_nonneg (show 0 ≤ 1 + k by omega) t0
      have n2 := Int.mul_pos (show 0 < 1 + k by omega) bp
      have l := pd_tup (v := ((1 + k) * v.1, (1 + k) * v.2)) ⟨n1, by dsimp only; omega, by dsimp only; omega, by dsimp only; omega, fun q => by dsimp only at q; omega⟩
      have e : lowP ((1 + k) * v.1, (1 + k) * v.2) = lowP v := lowP_scale (by omega) t0 b0 hv.p
      exact ⟨l.1, by rw [← e]; exact l.2⟩
    have one : v.2 = 1 → Pd v (.int v.1) := fun q => by
      refine ⟨check_int v.1 t0 t1, ?_⟩
      rw [pair_of_int]
      have e : lowP v = (v.1, 1) := by
        have : v = (v.1, 1) := Prod.ext rfl q
        rw [this]
        unfold lowP lowT lowB
        simp
      rw [e]
      rfl
    (repeat regstrif_gather)
    refine go_val (ix1 v) ?_
    (repeat regstrif_gather)
    have fin : ∀ S2 : List Ob, Cup S2 n → Wp (sem__law_sip [.ref n, .int 3]) S2 fun d S' => ∃ k : Int, d = .int k ∧ 0 ≤ k ∧ k < 3 ∧ Cup S' n := fun S2 h2 => sip_wp h2 (by decide) (by decide) fun k S3 k0 k1 h3 => ⟨k, rfl, k0, k1, h3⟩
    refine ite_d (fun y => ?_) (fun y => ?_)
    focus
      (repeat regstrif_gather)
      refine sip_wp h (by decide) (by decide) fun e S2 _ _ h2 => ?_
      (repeat regstrif_gather)
      refine ite_d (fun x => ?_) (fun x => ?_)
      focus
        (repeat regstrif_gather)
        refine go_val (ix0 v) ?_
        exact ⟨one y, h2⟩
      clear y
      (repeat regstrif_gather)
    rotate_left
    focus
      (repeat regstrif_gather)
      have h2 := h
    all_goals
      refine go_use (fin _ h2) ?_
      rintro d S3 ⟨k, rfl, k0, k1, h3⟩
      have bk : Bd 10 k := .mk (by omega)
      (repeat regstrif_gather)
      refine go_val (ix0 v) ?_
      (repeat regstrif_gather)
      refine go_val p11 ?_
      (repeat regstrif_gather)
      refine ite_d (fun c1 => ?_) (fun c1 => ?_)
      · (repeat regstrif_gather)
        exact ⟨pt, h3⟩
      · (repeat regstrif_gather)
        refine go_val (ix1 v) ?_
        (repeat regstrif_gather)
        refine go_val p11 ?_
        (repeat regstrif_gather)
        refine ite_d (fun c2 => ?_) (fun c2 => ?_)
        · (repeat regstrif_gather)
          exact ⟨pt, h3⟩
        · (repeat regstrif_gather)
          refine go_val (ix0 v) ?_
          (repeat regstrif_gather)
          refine go_val (ix1 v) ?_
          (repeat regstrif_gather)
          exact ⟨rest S3 h3 k k0 k1 (fun q => q.elim c1 c2), h3⟩
theorem gs_mid {m1 m2 : MS} {sd : List SV} {S : List Ob} {N : List SV → List Ob → Prop} {R : D → List Ob → Prop} {B C : List SV → List Ob → Prop} (Mid : List SV → List Ob → Prop) (h1 : Ws m1 sd S Mid R B C) (h2 : ∀ sd' S', Mid sd' S' → Ws m2 sd' S' N R B C) : Ws (seqS m1 m2) sd S N R B C :=
  ws_run.mpr (runS_seq.mpr (h1.run.mono (fun sd' S' h => (h2 sd' S' h).run) (fun _ _ h => h) (fun _ _ h => h) (fun _ _ h => h)))
theorem end_wp {S : List Ob} {n : Nat} {P : D → List Ob → Prop} (h : Cup S n) (q : ∀ v S', EndV v → Cup S' n → P (pairD v) S') : Wp (sem__law_end [.ref n]) S P :=
  ((end_draw S n h).mono fun d S' z => by obtain ⟨v, rfl, a, c⟩ := z; exact q v S' a c).wp
theorem EndV.nn {v : Int × Int} (h : EndV v) : Nn v := ⟨h.t0, h.b0, h.p⟩
theorem goes_attr {r : List Pc} (h : Row r) {v : Int × Int} (hv : Vec 100 v) : attr (tab [(5, .prop sem_Run_goes)]) (ladD r v) = M.pure (.int (sgn (chg (mat r) v))) := by
  show noErr (sem_Run_goes [ladD r v]) = _
  rw [goes_ok h hv]
  rfl
theorem at_last (ds : List D) (d : D) : L2.atI (ds ++ [d]) (-1) = some d := by
  unfold L2.atI L2.ixN
  rw [List.length_append, List.length_singleton, if_neg (by decide), if_pos (by omega)]
  show (ds ++ [d])[(-1 + ((ds.length + 1 : Nat) : Int)).toNat]? = some d
  have e : (-1 + ((ds.length + 1 : Nat) : Int)).toNat = ds.length := by omega
  rw [e]
  simp
theorem walk_ok {r : List Pc} {s n : Nat} (h : Wk r s n) (hn : n ≤ 200) {v : Int × Int} (hv : Vec 100 v) (lv : lowP v = v) : sem__law_walk [.lst (r.map Pc.D), pairD v, .int n] = M.pure (.lst ((List.range (n + 1)).map fun k => pairD (valP r v k))) := by
  refine pure_wp fun S => ?_
  have v0 : valP r v 0 = v := by
    rw [valP_act]
    show lowP (act one v) = v
    rw [act_one, lv]
  (unfold sem__law_walk; refine Ev.go_fn rfl ?_; unfold pk__law_walk; simp only [Ev.slots, List.map_cons, List.map_nil, List.length_cons, List.length_nil, List.cons_append, List.nil_append, List.replicate, Nat.reduceSub, Nat.reduceAdd])
  (repeat regstrif_gather)
  refine gs_loop (J := fun ds sd S' => S' = S ∧ ds.length ≤ n ∧ ∃ y : SV, sd = [.val (.lst (r.map Pc.D)), .val (pairD v), .val (.int n), .own (.lst ((List.range (n + 1 - ds.length)).map fun k => pairD (valP r v k))), y]) ?_ ?_ _ _ _ ⟨rfl, by simp [rngD], _, by simp [rngD, v0]; rfl⟩
  · rintro d ds sd S' ⟨rfl, hl, y, rfl⟩
    rw [List.length_cons] at hl ⊢
    refine ⟨_, _, rfl, ?_⟩
    (repeat regstrif_gather)
    have lg : ((List.range (n + 1 - (ds.length + 1))).map fun k => pairD (valP r v k)).length = n - ds.length := by
      rw [List.length_map, List.length_range]
      omega
    refine gs_app (by exact rfl) (by rw [lg]; unfold lim; omega) ?_
    (repeat regstrif_gather)
    have ix : L2.atI ((List.range (n + 1 - (ds.length + 1))).map fun k => pairD (valP r v k)) (-1) = some (pairD (valP r v (n - 1 - ds.length))) := by
      have e : n + 1 - (ds.length + 1) = n - 1 - ds.length + 1 := by omega
      rw [e, List.range_succ, List.map_append, List.map_cons, List.map_nil]
      exact at_last _ _
    refine go_val (r := pairD (valP r v (n - 1 - ds.length))) ?_ ?_
    · unfold ownIx
      simp only [List.getElem?_cons_zero, List.getElem?_cons_succ]
      exact ix_lst ix
    (repeat regstrif_gather)
    refine go_val (front_valW h hv (k := n - 1 - ds.length) (by omega)) ?_
    (repeat regstrif_gather)
    have e1 : n + 1 - ds.length = (n + 1 - (ds.length + 1)) + 1 := by omega
    have e2 : n - 1 - ds.length + 1 = n + 1 - (ds.length + 1) := by omega
    rw [e1, List.range_succ, List.map_append, List.map_cons, List.map_nil, e2]
    exact ⟨rfl, by omega, _, rfl⟩
  · rintro sd S' ⟨rfl, hl, y, rfl⟩
    (repeat regstrif_gather)
    exact ⟨rfl, rfl⟩
theorem below_big (v w : Int × Int) (hv : Vec 1900 v) (hw : Vec 1900 w) : sem__law_below [pairD v, pairD w] = M.pure (.bl (decide (v.1 * w.2 < w.1 * v.2))) := by
  refine pure_wp fun S => ?_
  have b1 := bd_sm hv.t
  have b2 := bd_sm hv.b
  have b3 := bd_sm hw.t
  have b4 := bd_sm hw.b
  unfold pairD
  (unfold sem__law_below; refine Ev.go_fn rfl ?_; unfold pk__law_below; simp only [Ev.slots, List.map_cons, List.map_nil, List.length_cons, List.length_nil, List.cons_append, List.nil_append, List.replicate, Nat.reduceSub, Nat.reduceAdd])
  (repeat regstrif_gather)
  exact ⟨rfl, rfl⟩
theorem goes_two (v w : Int × Int) (hv : Vec 1900 v) (hw : Vec 1900 w) : sem__law_goes [pairD v, pairD w] = M.pure (.int (sgn (w.1 * v.2 - v.1 * w.2))) := by
  refine pure_wp fun S => ?_
  have b1 := below_big v w hv hw
  have b2 := below_big w v hw hv
  (unfold sem__law_goes; refine Ev.go_fn rfl ?_; unfold pk__law_goes; simp only [Ev.slots, List.map_cons, List.map_nil, List.length_cons, List.length_nil, List.cons_append, List.nil_append, List.replicate, Nat.reduceSub, Nat.reduceAdd])
  (repeat regstrif_gather)
  refine go_val b1 ?_
  (repeat regstrif_gather)
  refine ite_d (fun c => ?_) (fun c => ?_)
  · (repeat regstrif_gather)
    refine ⟨?_, rfl⟩
    unfold sgn
    rw [if_pos (by omega)]
  · (repeat regstrif_gather)
    refine go_val b2 ?_
    (repeat regstrif_gather)
    refine ite_d (fun c2 => ?_) (fun c2 => ?_)
    · (repeat regstrif_gather)
      refine ⟨?_, rfl⟩
      unfold sgn
      rw [if_neg (by omega), if_pos (by omega)]
    · (repeat regstrif_gather)
      refine ⟨?_, rfl⟩
      unfold sgn
      rw [if_neg (by omega), if_neg (by omega)]
theorem goes_step {r : List Pc} (h : Row r) {e : Int × Int} (ne : Nn e) (k : Nat) : sgn ((valP r e (k + 1)).1 * (valP r e k).2 - (valP r e k).1 * (valP r e (k + 1)).2) = sgn (chg (mat r) e) := by
  have nw := wV_nn h ne k
  have nl : Nn (valP r e k) := nw.low
  have na := Nn.act (mat_P h.1) nl
  have e1 : valP r e (k + 1) = lowP (act (mat r) (valP r e k)) := by
    show lowP (act ((mat r).mul ((mat r).pow k)) e) = lowP (act (mat r) (lowP (act ((mat r).pow k) e)))
    have la := low_act (mat_P h.1) nw
    unfold wV at la
    rw [la, act_mul]
  obtain ⟨g, g0, a1, a2⟩ := lowP_mul na.t na.b na.p
  rw [← e1] at a1 a2
  have c : chg (mat r) (valP r e k) = g * ((valP r e (k + 1)).1 * (valP r e k).2 - (valP r e k).1 * (valP r e (k + 1)).2) := by
    unfold chg
    rw [← a1, ← a2]
    grind
  have c2 := sgn_mul (x := (valP r e (k + 1)).1 * (valP r e k).2 - (valP r e k).1 * (valP r e (k + 1)).2) g0
  rw [← c] at c2
  rw [← c2]
  have cl : sgn (chg (mat r) (valP r e k)) = sgn (chg (mat r) (wV r e k)) := chg_low nw
  rw [cl]
  exact chg_pow (det_pos h.1) e k
theorem wk_of {r : List Pc} {n : Nat} (hr : RowN r) (h : (r.length ≤ 4 ∧ n ≤ 101) ∨ n ≤ 25) : ∃ s, Wk r s n := by
  have m := mat13 hr.1
  have nn := mat_nn hr.row
  rcases h with ⟨l, hn⟩ | hn
  · have p : (13 : Int) ^ r.length ≤ 13 ^ 4 := by exact_mod_cast Nat.pow_le_pow_right (by decide) l
    have e : (13 : Int) ^ 4 = 28561 := by decide
    exact ⟨15, hr.row, ⟨⟨nn.1, by omega⟩, ⟨nn.2.1, by omega⟩, ⟨nn.2.2.1, by omega⟩, ⟨nn.2.2.2, by omega⟩⟩, by decide, by omega⟩
  · have p : (13 : Int) ^ r.length ≤ 13 ^ 8 := by exact_mod_cast Nat.pow_le_pow_right (by decide) hr.2.2
    have e : (13 : Int) ^ 8 = 815730721 := by decide
    exact ⟨30, hr.row, ⟨⟨nn.1, by omega⟩, ⟨nn.2.1, by omega⟩, ⟨nn.2.2.1, by omega⟩, ⟨nn.2.2.2, by omega⟩⟩, by decide, by omega⟩
end K15
set_option maxRecDepth 100000
set_option maxHeartbeats 4000000
namespace K15
open PySem Ev
theorem EndV.ld {v : Int × Int} (h : EndV v) : Ld v := ⟨h.t0, h.t1, h.b0, h.b1, h.op⟩
theorem lad_any (r : List Pc) {v : Int × Int} (h : EndV v) {d : D} (p : Pd v d) : sem_LadderX_initX [patD r, d] = M.pure (ladD r v) := by
  have e := p.2
  rw [h.low] at e
  exact ladder_ok r v d p.1 e
theorem Wk.cut {r : List Pc} {s n k : Nat} (h : Wk r s n) (l : k ≤ n) : Wk r s k := ⟨h.row, h.S, h.s1, h.le l⟩
theorem own_pat {r : List Pc} (h : Row r) : eqXN false (tab [(1, sem_PatternX_eqX)]) (tab [(1, (2, pkd_PatternX_eqX.1))]) (patD r) (patD r) = M.pure (.bl true) := by
  have e := eqX_pat false h h
  rw [decide_eq_true (show SameN r r from ⟨rfl, rfl, rfl, rfl⟩)] at e
  funext S
  show eqX false (tab [(1, sem_PatternX_eqX)]) (patD r) (patD r) S = _
  rw [e]
  rfl
theorem str_pat {r : List Pc} (h : Row r) : strX (tab [(1, sem_PatternX_strX)]) (patD r) = M.pure (.str (rowText r)) := by
  show M.bind (noErr (sem_PatternX_strX [patD r])) _ = _
  rw [str_ok h]
  rfl
theorem shw_pair {v : Int × Int} (h1 : Sm 1900 v.1) (h2 : Sm 1900 v.2) : Shw 1 4000 (pairD v) :=
  (shw_tup (shl_cons (shw_int (bd_sm h1) (by decide)) (shl_cons (shw_int (bd_sm h2) (by decide)) shl_nil))).mono (by decide) (by decide)
theorem sgn_bd (x : Int) : Bd 4 (sgn x) := by
  unfold sgn
  split
  · exact .mk (by decide)
  · split <;> exact .mk (by decide)
theorem at_nat {ds : List D} {k : Nat} {d : D} (h : ds[k]? = some d) : L2.atI ds (k : Int) = some d := by
  have l : k < ds.length := (List.getElem?_eq_some_iff.mp h).1
  unfold L2.atI L2.ixN
  rw [if_pos (by omega), if_pos (by omega)]
  show ds[((k : Nat) : Int).toNat]? = some d
  rw [Int.toNat_natCast]
  exact h
theorem load_attr (r : List Pc) (v : Int × Int) : attr (tab [(5, .prop sem_Run_load)]) (ladD r v) = M.pure (pairD v) := by
  have e : sem_Run_load [ladD r v] = M.pure (pairD v) := by
    refine pure_wp fun S => ?_
    (unfold sem_Run_load; refine Ev.go_fn rfl ?_; unfold pk_Run_load; simp only [Ev.slots, List.map_cons, List.map_nil, List.length_cons, List.length_nil, List.cons_append, List.nil_append, List.replicate, Nat.reduceSub, Nat.reduceAdd])
    (repeat regstrif_gather)
    exact go_val (r := pairD v) rfl ⟨rfl, rfl⟩
  show noErr (sem_Run_load [ladD r v]) = _
  rw [e]
  rfl
theorem range_dn (m : Nat) : rngD 0 m = (List.range m).map fun k : Nat => D.int k := by
  unfold rngD
  refine List.map_congr_left fun k _ => ?_
  rw [Int.zero_add]
theorem call_lad (r : List Pc) (v : Int × Int) (g : List D → M D) (fa : M (List D)) : callD (tab [(5, g)]) fa (ladD r v) = M.bind fa fun ds => g (ladD r v :: ds) := rfl
theorem right_ok (S : List Ob) (n : Nat) (h : Cup S n) : Wp (sem__law_right [.ref n]) S fun d _ => d = .bl true := by
  (unfold sem__law_right; refine Ev.go_fn rfl ?_; unfold pk__law_right; simp only [Ev.slots, List.map_cons, List.map_nil, List.length_cons, List.length_nil, List.cons_append, List.nil_append, List.replicate, Nat.reduceSub, Nat.reduceAdd])
  (repeat regstrif_gather)
  refine gs_times (J := fun sd S' => Cup S' n ∧ ∃ x1 x2 x3 x4 x5 x6 x7 x8 x9 : SV, sd = [.val (.ref n), x1, x2, x3, x4, x5, x6, x7, x8, x9]) ?_ ?_ ⟨h, _, _, _, _, _, _, _, _, _, rfl⟩
  · rintro i sd S1 i0 i1 ⟨h1, x1, x2, x3, x4, x5, x6, x7, x8, x9, rfl⟩
    regstrif_gather
    refine gs_mid (fun sd' S' => ∃ r v, RowN r ∧ (i = 0 → r.length ≤ 4) ∧ EndV v ∧ Cup S' n ∧ sd' = [.val (.ref n), .val (.int i), .val (.lst (r.map Pc.D)), .val (pairD v), x4, x5, x6, x7, x8, x9]) ?_ ?_
    · (repeat regstrif_gather)
      refine ite_d (fun c => ?_) (fun c => ?_)
      all_goals
        (repeat regstrif_gather)
        refine row_wp h1 (by decide) (by decide) fun r S2 hr hl h2 => ?_
        (repeat regstrif_gather)
        refine go_use ((end_draw S2 n h2).wp) ?_
        rintro d S3 ⟨v, rfl, hv, h3⟩
        (repeat regstrif_gather)
        exact ⟨r, v, hr, fun z => by omega, hv, h3, rfl⟩
    · rintro sd2 S2 ⟨r, v, hr, l4, hv, h2, rfl⟩
      have Rr := hr.row
      have ne := hr.ne
      have rd := law_read_ok r Rr ne
      have nv := hv.nn
      (repeat regstrif_gather)
      refine go_val rd ?_
      (repeat regstrif_gather)
      refine go_use (told_ok S2 n h2 hv.ld) ?_
      rintro d S3 ⟨pd, h3⟩
      (repeat regstrif_gather)
      refine go_val (lad_any r hv pd) ?_
      regstrif_gather
      refine gs_mid (fun sd' S' => ∃ m : Nat, ((r.length ≤ 4 ∧ m ≤ 100) ∨ m ≤ 24) ∧ Cup S' n ∧ sd' = [.val (.ref n), .val (.int i), .val (.lst (r.map Pc.D)), .val (pairD v), .val (patD r), .val (ladD r v), .val (.int m), x7, x8, x9]) ?_ ?_
      · (repeat regstrif_gather)
        have oth : ∀ S5 : List Ob, Cup S5 n → ∀ P : D → List Ob → Prop, (∀ (m : Nat) S6, ((r.length ≤ 4 ∧ m ≤ 100) ∨ m ≤ 24) → Cup S6 n → P (.int m) S6) → Wp (sem__law_sip [.ref n, .int 25]) S5 P := fun S5 h5 P q => sip_wp h5 (by decide) (by decide) fun k S6 k0 k1 h6 => by
          obtain ⟨m, rfl⟩ := Int.eq_ofNat_of_zero_le k0
          exact q m S6 (.inr (by omega)) h6
        refine ite_d (fun c => ?_) (fun c => ?_)
        · (repeat regstrif_gather)
          refine sip_wp h3 (by decide) (by decide) fun k S4 _ _ h4 => ?_
          (repeat regstrif_gather)
          refine ite_d (fun c2 => ?_) (fun c2 => ?_)
          · (repeat regstrif_gather)
            exact ⟨100, .inl ⟨l4 c, by decide⟩, h4, rfl⟩
          · (repeat regstrif_gather)
            refine oth S4 h4 _ fun m S5 hm h5 => ?_
            (repeat regstrif_gather)
            exact ⟨m, hm, h5, rfl⟩
        · (repeat regstrif_gather)
          refine oth S3 h3 _ fun m S5 hm h5 => ?_
          (repeat regstrif_gather)
          exact ⟨m, hm, h5, rfl⟩
      rintro sd3 S4 ⟨m, hm, h4, rfl⟩
      obtain ⟨s, wk⟩ := wk_of (n := m + 1) hr (by omega)
      have m100 : m ≤ 100 := by omega
      have due : sem__law_walk [.lst (r.map Pc.D), pairD v, .int ((m : Int) + 1)] = M.pure (.lst ((List.range (m + 2)).map fun k => pairD (valP r v k))) := walk_ok wk (by omega) hv.vec hv.low
      (repeat regstrif_gather)
      refine go_val due ?_
      have op : ∀ k : Nat, k ≤ m → sem_Run_opening [ladD r v, .int k] = M.pure ((List.range k).map fun k => pairD (valP r v k)) := fun k hk => pure_wp fun S => opening_wp (wk.cut (by omega)) hv.vec (by omega) S
      have tk : ((List.range (m + 2)).map fun k => pairD (valP r v k)).take (m : Int).toNat = (List.range m).map fun k => pairD (valP r v k) := by
        rw [← List.map_take, List.take_range, Int.toNat_natCast, Nat.min_eq_left (by omega)]
      have sp : ∀ k : Nat, k ≤ m + 1 → Shw 1 4000 (pairD (valP r v k)) := fun k hk => by
        have w := val_vecW wk hv.vec (k := k) hk
        exact shw_pair w.t w.b
      have sv : Shw 1 4000 (pairD v) := shw_pair (hv.vec.t.mono (by decide)) (hv.vec.b.mono (by decide))
      have shw : ∀ k : Nat, k ≤ m → Shw 3 800000 (.lst ((List.range k).map fun k => pairD (valP r v k))) := fun k hk => by
        have a := shw_lst (shl_all (k := 1) (n := 4000) (ds := (List.range k).map fun k => pairD (valP r v k)) fun d hd => by
          obtain ⟨j, hj, rfl⟩ := List.mem_map.mp hd
          have := List.mem_range.mp hj
          exact sp j (by omega))
        rw [List.length_map, List.length_range] at a
        exact a.mono (by decide) (by omega)
      have shw2 : ∀ k : Nat, k ≤ m + 1 → Shw 3 20000 (.lst [pairD (valP r v k), pairD (valP r v k)]) := fun k hk => (shw_lst (shl_cons (sp k hk) (shl_cons (sp k hk) shl_nil))).mono (by decide) (by decide)
      have ckm := call_ok Rr hv.vec (n := m) m100
      have ixm : ∀ k : Nat, k ≤ m + 1 → dIx (.lst ((List.range (m + 2)).map fun k => pairD (valP r v k))) (.int k) = M.pure (pairD (valP r v k)) := fun k hk => ix_lst (at_nat (by rw [List.getElem?_map, List.getElem?_range (by omega)]; rfl))
      have ix0 : dIx (.lst ((List.range (m + 2)).map fun k => pairD (valP r v k))) (.int 0) = M.pure (pairD (valP r v 0)) := ixm 0 (by omega)
      have ix1 : dIx (.lst ((List.range (m + 2)).map fun k => pairD (valP r v k))) (.int 1) = M.pure (pairD (valP r v 1)) := ixm 1 (by omega)
      have gk : ∀ k : Nat, k ≤ m → sem__law_goes [pairD (valP r v k), pairD (valP r v (k + 1))] = M.pure (.int (sgn (chg (mat r) v))) := fun k hk => by
        rw [goes_two _ _ (val_vecW wk hv.vec (k := k) (by omega)) (val_vecW wk hv.vec (k := k + 1) (by omega)), goes_step Rr nv k]
      have shx : Shw 3 20000 (.lst [pairD v, .int (sgn (chg (mat r) v)), pairD (valP r v m)]) := (shw_lst (shl_cons sv (shl_cons (shw_int (sgn_bd _) (by decide)) (shl_cons (sp m (by omega)) shl_nil)))).mono (by decide) (by decide)
      have shm := shw m (Nat.le_refl _)
      have opm := op m (by omega)
      have op0 := op 0 (by omega)
      generalize (List.range (m + 2)).map (fun k => pairD (valP r v k)) = L2 at *
      generalize (List.range m).map (fun k => pairD (valP r v k)) = L0 at *
      (repeat regstrif_gather)
      refine go_val (r := fun ds => sem_Run_opening (perm [0, 1] ds)) rfl ?_
      (repeat regstrif_gather)
      refine go_val opm ?_
      (repeat regstrif_gather)
      rw [tk]
      (repeat regstrif_gather)
      refine go_val (r := fun ds => sem_Run_opening (perm [0, 1] ds)) rfl ?_
      (repeat regstrif_gather)
      refine go_val opm ?_
      (repeat regstrif_gather)
      rw [tk]
      (repeat regstrif_gather)
      refine gs_times (J := fun sd S' => Cup S' n ∧ ∃ y8 y9 : SV, sd = [.val (.ref n), .val (.int i), .val (.lst (r.map Pc.D)), .val (pairD v), .val (patD r), .val (ladD r v), .val (.int m), .val (.lst L2), y8, y9]) ?_ ?_ ⟨h4, _, _, rfl⟩
      · rintro i2 sd S5 _ _ ⟨h5, y8, y9, rfl⟩
        (repeat regstrif_gather)
        refine sip_wp h5 (by omega) (by omega) fun k S6 k0 k1 h6 => ?_
        obtain ⟨k, rfl⟩ := Int.eq_ofNat_of_zero_le k0
        have ck := call_ok Rr hv.vec (n := k) (by omega)
        have ik := ixm k (by omega)
        have shk := shw2 k (by omega)
        (repeat regstrif_gather)
        refine go_eq (call_lad r v _ _) ?_
        (repeat regstrif_gather)
        refine go_val ck ?_
        (repeat regstrif_gather)
        refine go_eq (call_lad r v _ _) ?_
        (repeat regstrif_gather)
        refine go_val ck ?_
        (repeat regstrif_gather)
        refine go_val ik ?_
        (repeat regstrif_gather)
        refine go_val ik ?_
        (repeat regstrif_gather)
        exact ⟨h6, _, _, rfl⟩
      rintro sd5 S5 ⟨h5, y8, y9, rfl⟩
      (repeat regstrif_gather)
      refine go_val (load_attr r v) ?_
      (repeat regstrif_gather)
      refine go_val (goes_attr Rr hv.vec) ?_
      (repeat regstrif_gather)
      refine go_eq (call_lad r v _ _) ?_
      (repeat regstrif_gather)
      refine go_val ckm ?_
      (repeat regstrif_gather)
      refine go_val ix0 ?_
      (repeat regstrif_gather)
      refine go_val ix1 ?_
      (repeat regstrif_gather)
      refine go_val (gk 0 (by omega)) ?_
      (repeat regstrif_gather)
      refine go_val (ixm m (by omega)) ?_
      (repeat regstrif_gather)
      rw [Int.toNat_natCast, range_dn m]
      refine go_filter (p := fun _ => false) (f := fun k : Nat => D.int k) (g := fun k : Nat => D.int k) (List.range m) (fun k hk => ⟨_, rfl, ?_, nofun⟩) (by rw [List.length_range]; unfold lim; omega) ?_
      · have km := List.mem_range.mp hk
        have ik := ixm k (by omega)
        have ik1 : dIx (.lst L2) (.int ((k : Int) + 1)) = M.pure (pairD (valP r v (k + 1))) := ixm (k + 1) (by omega)
        refine pure_wp fun S => ?_
        (repeat regstrif_gather)
        refine go_val ik ?_
        (repeat regstrif_gather)
        refine go_val ik1 ?_
        (repeat regstrif_gather)
        refine go_val (gk k (by omega)) ?_
        (repeat regstrif_gather)
        refine go_val (goes_attr Rr hv.vec) ?_
        (repeat regstrif_gather)
        exact ⟨by rw [decide_eq_true rfl]; rfl, rfl⟩
      · have fl : (List.range m).filter (fun _ => false) = [] := List.filter_eq_nil_iff.mpr (fun _ _ => by simp)
        rw [fl, List.map_nil]
        (repeat regstrif_gather)
        refine go_val (Ev.eq_self true (shw_lst shl_nil) (by decide)) ?_
        (repeat regstrif_gather)
        refine go_val (r := patD r) rfl ?_
        (repeat regstrif_gather)
        refine go_val (own_pat Rr) ?_
        (repeat regstrif_gather)
        refine go_val (r := patD r) rfl ?_
        (repeat regstrif_gather)
        refine go_val (str_pat Rr) ?_
        (repeat regstrif_gather)
        refine go_val (str_pat Rr) ?_
        (repeat regstrif_gather)
        refine go_val (r := fun ds => sem_Run_opening (perm [0, 1] ds)) rfl ?_
        (repeat regstrif_gather)
        refine go_val op0 ?_
        (repeat regstrif_gather)
        refine go_val (Ev.eq_self true (shw_lst shl_nil) (by decide)) ?_
        (repeat regstrif_gather)
        exact ⟨h5, _, _, _, _, _, _, _, _, _, rfl⟩
  · rintro sd S2 ⟨h2, x1, x2, x3, x4, x5, x6, x7, x8, x9, rfl⟩
    (repeat regstrif_gather)
    rfl
def pg15 : List Pc := [⟨true, 1⟩, ⟨false, 1⟩]
theorem law_ok (S : List Ob) (ns : List Int) (l : ns.length ≤ 63) (hb : ∀ z ∈ ns, Builtin.Int.intBits z ≤ 1048576) : Wp (sem_law [.scr (ns.map D.int)]) S fun d _ => d = .bl true := by
  (unfold sem_law; refine Ev.go_fn rfl ?_; unfold pk_law; simp only [Ev.slots, List.map_cons, List.map_nil, List.length_cons, List.length_nil, List.cons_append, List.nil_append, List.replicate, Nat.reduceSub, Nat.reduceAdd])
  refine gs_seq (gs_asg (go_val (r := patD pg15) (by funext S; kernel_rfl) ?_))
  refine gs_seq (gs_asg (go_val (r := .lst [.lst [pairD (1, 1), pairD (3, 2), pairD (8, 5), pairD (21, 13)], .int 280571172992510140037611932413038677189525, pairD (3, 5)]) (by funext S; kernel_rfl) ?_))
  refine gs_seq (gs_if (go_val (r := false) (by funext S; kernel_rfl) ?_))
  (repeat regstrif_gather)
  simp only [List.length_map]
  (repeat regstrif_gather)
  refine Wp.mono (all_spots (by split <;> split <;> omega) S fun i h0 h1 S => ⟨_, rfl, ?_⟩) ?_
  · (repeat regstrif_gather)
    refine go_use (cup_ok S ns i h0 h1 hb) ?_
    rintro d S' ⟨rfl, hc⟩
    (repeat regstrif_gather)
    exact right_ok S' _ hc
  · intro acc S' h
    (repeat regstrif_gather)
    rw [h]
    exact go_pure rfl
theorem law_true (ns : List Int) (l : ns.length ≤ 63) (hb : ∀ z ∈ ns, Builtin.Int.intBits z ≤ 1048576) : ∃ S, sem_law [.scr (ns.map D.int)] [] = some (.ok (.bl true), S) := by
  obtain ⟨a, S, e, rfl⟩ := (law_ok [] ns l hb).ex
  exact ⟨S, e⟩
end K15
set_option maxRecDepth 100000
set_option maxHeartbeats 4000000
namespace K15
open PySem PySem.Spec PyProof.Rows L2 Ev
def adOf (l : List (Nat × Addr)) (i : Nat) : Addr := match tab l i with | some a => a | none => 0
theorem all_mk {l : PySem.W.OpenLaw} {w : World} {K : PySem.W.Frag} {h : Heap} {mg : Str → Option Value} {fa : Addr} (X : K.In h) (G : h.Ns mainGlobals mg) (hfa : mg "law" = some (.ref fa))
    {C0 : Addr} {C1 : Addr} {C5 : Addr} {f0 : Addr} {f1 : Addr} {f2 : Addr} {f3 : Addr} {f4 : Addr} {f5 : Addr} {f6 : Addr} {f7 : Addr} {f8 : Addr} {f9 : Addr} {f10 : Addr} {f11 : Addr} {f12 : Addr} {f13 : Addr} {f14 : Addr} {f15 : Addr} {f16 : Addr} {f17 : Addr} {f18 : Addr} {f19 : Addr} {f20 : Addr} {f21 : Addr} {f22 : Addr} {f23 : Addr} {f24 : Addr} {f25 : Addr} {f26 : Addr} {f27 : Addr} {f28 : Addr} {f29 : Addr} {f30 : Addr} {f31 : Addr} {f32 : Addr} {f33 : Addr} {f34 : Addr} {f35 : Addr} {f36 : Addr} {f37 : Addr} {f38 : Addr} {f39 : Addr} {f40 : Addr} {f41 : Addr} {f42 : Addr} {f43 : Addr} {f44 : Addr} {f45 : Addr} {f46 : Addr} {f47 : Addr} {f48 : Addr} {f49 : Addr} {f50 : Addr} {f51 : Addr} {f52 : Addr} {q43_5 : Addr} {rs43_5 : List Value} {q44_5 : Addr} {rs44_5 : List Value} {q48_1 : Addr} {rs48_1 : List Value} {q35 : Addr} {mc35 : Value} {rs35 : List Value} {od0 an0 : Option Addr} {sl0 : Array (Option Value)} {oc0 kV0 dc0 pm0 cd0 ct0 : Value} {od1 an1 : Option Addr} {sl1 : Array (Option Value)} {oc1 kV1 dc1 pm1 cd1 ct1 : Value} {od2 an2 : Option Addr} {sl2 : Array (Option Value)} {oc2 kV2 dc2 pm2 cd2 ct2 : Value} {od3 an3 : Option Addr} {sl3 : Array (Option Value)} {oc3 kV3 dc3 pm3 cd3 ct3 : Value} {od4 an4 : Option Addr} {sl4 : Array (Option Value)} {oc4 kV4 dc4 pm4 cd4 ct4 : Value} {od5 an5 : Option Addr} {sl5 : Array (Option Value)} {oc5 kV5 dc5 pm5 cd5 ct5 : Value} {od6 an6 : Option Addr} {sl6 : Array (Option Value)} {oc6 kV6 dc6 pm6 cd6 ct6 : Value} {od7 an7 : Option Addr} {sl7 : Array (Option Value)} {oc7 kV7 dc7 pm7 cd7 ct7 : Value} {od8 an8 : Option Addr} {sl8 : Array (Option Value)} {oc8 kV8 dc8 pm8 cd8 ct8 : Value} {od9 an9 : Option Addr} {sl9 : Array (Option Value)} {oc9 kV9 dc9 pm9 cd9 ct9 : Value} {od10 an10 : Option Addr} {sl10 : Array (Option Value)} {oc10 kV10 dc10 pm10 cd10 ct10 : Value} {od11 an11 : Option Addr} {sl11 : Array (Option Value)} {oc11 kV11 dc11 pm11 cd11 ct11 : Value} {od12 an12 : Option Addr} {sl12 : Array (Option Value)} {oc12 kV12 dc12 pm12 cd12 ct12 : Value} {od13 an13 : Option Addr} {sl13 : Array (Option Value)} {oc13 kV13 dc13 pm13 cd13 ct13 : Value} {od14 an14 : Option Addr} {sl14 : Array (Option Value)} {oc14 kV14 dc14 pm14 cd14 ct14 : Value} {od15 an15 : Option Addr} {sl15 : Array (Option Value)} {oc15 kV15 dc15 pm15 cd15 ct15 : Value} {od16 an16 : Option Addr} {sl16 : Array (Option Value)} {oc16 kV16 dc16 pm16 cd16 ct16 : Value} {od17 an17 : Option Addr} {sl17 : Array (Option Value)} {oc17 kV17 dc17 pm17 cd17 ct17 : Value} {od18 an18 : Option Addr} {sl18 : Array (Option Value)} {oc18 kV18 dc18 pm18 cd18 ct18 : Value} {od19 an19 : Option Addr} {sl19 : Array (Option Value)} {oc19 kV19 dc19 pm19 cd19 ct19 : Value} {od20 an20 : Option Addr} {sl20 : Array (Option Value)} {oc20 kV20 dc20 pm20 cd20 ct20 : Value} {od21 an21 : Option Addr} {sl21 : Array (Option Value)} {oc21 kV21 dc21 pm21 cd21 ct21 : Value} {od22 an22 : Option Addr} {sl22 : Array (Option Value)} {oc22 kV22 dc22 pm22 cd22 ct22 : Value} {cc23 cda23 : Addr} {od23 an23 ed23 gd23 : Option Addr} {sl23 es23 gs23 : Array (Option Value)} {oc23 kV23 dc23 pm23 ct23 ec23 gc23 : Value} {gv23 : Array Value} {fi23 : Str} {tf23 : Tok} {cd23 : ClassData} {od24 an24 : Option Addr} {sl24 : Array (Option Value)} {oc24 kV24 dc24 pm24 cd24 ct24 : Value} {od25 an25 : Option Addr} {sl25 : Array (Option Value)} {oc25 kV25 dc25 pm25 cd25 ct25 : Value} {od26 an26 : Option Addr} {sl26 : Array (Option Value)} {oc26 kV26 dc26 pm26 cd26 ct26 : Value} {od27 an27 : Option Addr} {sl27 : Array (Option Value)} {oc27 kV27 dc27 pm27 cd27 ct27 : Value} {od28 an28 : Option Addr} {sl28 : Array (Option Value)} {oc28 kV28 dc28 pm28 cd28 ct28 : Value} {od29 an29 : Option Addr} {sl29 : Array (Option Value)} {oc29 kV29 dc29 pm29 cd29 ct29 : Value} {od30 an30 : Option Addr} {sl30 : Array (Option Value)} {oc30 kV30 dc30 pm30 cd30 ct30 : Value} {od31 an31 : Option Addr} {sl31 : Array (Option Value)} {oc31 kV31 dc31 pm31 cd31 ct31 : Value} {od32 an32 : Option Addr} {sl32 : Array (Option Value)} {oc32 kV32 dc32 pm32 cd32 ct32 : Value} {od33 an33 : Option Addr} {sl33 : Array (Option Value)} {oc33 kV33 dc33 pm33 cd33 ct33 : Value} {od34 an34 : Option Addr} {sl34 : Array (Option Value)} {oc34 kV34 dc34 pm34 cd34 ct34 : Value} {od35 an35 : Option Addr} {sl35 : Array (Option Value)} {oc35 kV35 dc35 pm35 cd35 ct35 : Value} {od36 an36 : Option Addr} {sl36 : Array (Option Value)} {oc36 kV36 dc36 pm36 cd36 ct36 : Value} {od37 an37 : Option Addr} {sl37 : Array (Option Value)} {oc37 kV37 dc37 pm37 cd37 ct37 : Value} {od38 an38 : Option Addr} {sl38 : Array (Option Value)} {oc38 kV38 dc38 pm38 cd38 ct38 : Value} {od39 an39 : Option Addr} {sl39 : Array (Option Value)} {oc39 kV39 dc39 pm39 cd39 ct39 : Value} {od40 an40 : Option Addr} {sl40 : Array (Option Value)} {oc40 kV40 dc40 pm40 cd40 ct40 : Value} {od41 an41 : Option Addr} {sl41 : Array (Option Value)} {oc41 kV41 dc41 pm41 cd41 ct41 : Value} {od42 an42 : Option Addr} {sl42 : Array (Option Value)} {oc42 kV42 dc42 pm42 cd42 ct42 : Value} {od43 an43 : Option Addr} {sl43 : Array (Option Value)} {oc43 kV43 dc43 pm43 cd43 ct43 : Value} {od44 an44 : Option Addr} {sl44 : Array (Option Value)} {oc44 kV44 dc44 pm44 cd44 ct44 : Value} {od45 an45 : Option Addr} {sl45 : Array (Option Value)} {oc45 kV45 dc45 pm45 cd45 ct45 : Value} {od46 an46 : Option Addr} {sl46 : Array (Option Value)} {oc46 kV46 dc46 pm46 cd46 ct46 : Value} {od47 an47 : Option Addr} {sl47 : Array (Option Value)} {oc47 kV47 dc47 pm47 cd47 ct47 : Value} {od48 an48 : Option Addr} {sl48 : Array (Option Value)} {oc48 kV48 dc48 pm48 cd48 ct48 : Value} {od49 an49 : Option Addr} {sl49 : Array (Option Value)} {oc49 kV49 dc49 pm49 cd49 ct49 : Value} {od50 an50 : Option Addr} {sl50 : Array (Option Value)} {oc50 kV50 dc50 pm50 cd50 ct50 : Value} {od51 an51 : Option Addr} {sl51 : Array (Option Value)} {oc51 kV51 dc51 pm51 cd51 ct51 : Value} {od52 an52 : Option Addr} {sl52 : Array (Option Value)} {oc52 kV52 dc52 pm52 cd52 ct52 : Value} {t_MOST_PIECES : Tok} {t_MOST_OHMS : Tok} {T_WORDS : Addr} {o_WORDS : Option Addr} {its_WORDS : Array Value} {u_WORDS : Nat} {sl_WORDS : Array (Option Value)} {T_NOTHING : Addr} {o_NOTHING : Option Addr} {its_NOTHING : Array Value} {u_NOTHING : Nat} {sl_NOTHING : Array (Option Value)} {t_MOST_SECTIONS : Tok} {T_OPEN : Addr} {o_OPEN : Option Addr} {its_OPEN : Array Value} {u_OPEN : Nat} {sl_OPEN : Array (Option Value)} {t_GREATEST : Tok} {t_DIGITS : Tok} {t_MOST_DIGITS : Tok} {t_MOST_JOINED : Tok}
    (nC0 : PySem.W.nsIn K mainGlobals "Row" = some (some (.ref C0))) (pgC0 : PySem.W.plainGet K C0 Str.empty = true) (hdC0 : PySem.W.hasDictIn K C0 = true) (poC0 : PySem.W.plainOver K C0 = true)
    (saC0 : PySem.W.findIn K (.ref C0) "__setattr__" = some (some (.builtin "object.__setattr__"))) (ccC0 : PySem.W.findIn K (.ref C0) "__class__" = some (some (.builtin "object.__class__"))) (moC0 : PySem.W.mroIn K C0 (.type "object") = some true) (naC0_told : PySem.W.findIn K (.ref C0) "told" = some none)
    (nC1 : PySem.W.nsIn K mainGlobals "Pattern" = some (some (.ref C1))) (pgC1 : PySem.W.plainGet K C1 Str.empty = true) (hdC1 : PySem.W.hasDictIn K C1 = true) (poC1 : PySem.W.plainOver K C1 = true)
    (saC1 : PySem.W.findIn K (.ref C1) "__setattr__" = some (some (.builtin "object.__setattr__"))) (ccC1 : PySem.W.findIn K (.ref C1) "__class__" = some (some (.builtin "object.__class__"))) (moC1 : PySem.W.mroIn K C1 (.type "object") = some true) (naC1_row : PySem.W.findIn K (.ref C1) "row" = some none)
    (naC1_chain : PySem.W.findIn K (.ref C1) "chain" = some none) (naC1_scale : PySem.W.findIn K (.ref C1) "scale" = some none) (nC5 : PySem.W.nsIn K mainGlobals "Ladder" = some (some (.ref C5))) (pgC5 : PySem.W.plainGet K C5 Str.empty = true)
    (hdC5 : PySem.W.hasDictIn K C5 = true) (poC5 : PySem.W.plainOver K C5 = true) (saC5 : PySem.W.findIn K (.ref C5) "__setattr__" = some (some (.builtin "object.__setattr__"))) (ccC5 : PySem.W.findIn K (.ref C5) "__class__" = some (some (.builtin "object.__class__")))
    (moC5 : PySem.W.mroIn K C5 (.type "object") = some true) (naC5_first : PySem.W.findIn K (.ref C5) "first" = some none) (naC5_pattern : PySem.W.findIn K (.ref C5) "pattern" = some none) (a0 : PySem.W.nsIn K mainGlobals "is_integer" = some (some (.ref f0)))
    (a1 : PySem.W.nsIn K mainGlobals "is_between" = some (some (.ref f1))) (a2 : PySem.W.nsIn K mainGlobals "is_piece" = some (some (.ref f2))) (a3 : PySem.W.nsIn K mainGlobals "check_pieces" = some (some (.ref f3))) (a4 : PySem.W.nsIn K mainGlobals "joined" = some (some (.ref f4)))
    (a5 : PySem.W.nsIn K mainGlobals "chain_of" = some (some (.ref f5))) (a7 : PySem.W.nsIn K mainGlobals "check_count" = some (some (.ref f7))) (a8 : PySem.W.nsIn K mainGlobals "led" = some (some (.ref f8))) (a9 : PySem.W.nsIn K mainGlobals "common" = some (some (.ref f9)))
    (a10 : PySem.W.nsIn K mainGlobals "lowest" = some (some (.ref f10))) (a11 : PySem.W.nsIn K mainGlobals "shown" = some (some (.ref f11))) (a12 : PySem.W.nsIn K mainGlobals "slim" = some (some (.ref f12))) (a13 : PySem.W.nsIn K mainGlobals "repeated" = some (some (.ref f13)))
    (a16 : PySem.W.nsIn K mainGlobals "check_pattern" = some (some (.ref f16))) (a17 : PySem.W.nsIn K mainGlobals "is_fraction" = some (some (.ref f17))) (a18 : PySem.W.nsIn K mainGlobals "is_number" = some (some (.ref f18))) (a19 : PySem.W.nsIn K mainGlobals "is_resistance" = some (some (.ref f19)))
    (a20 : PySem.W.nsIn K mainGlobals "check_resistance" = some (some (.ref f20))) (a22 : PySem.W.nsIn K mainGlobals "pair_of" = some (some (.ref f22))) (a26 : PySem.W.nsIn K mainGlobals "_law_sip" = some (some (.ref f26))) (a27 : PySem.W.nsIn K mainGlobals "_law_pair" = some (some (.ref f27)))
    (a28 : PySem.W.nsIn K mainGlobals "_law_end" = some (some (.ref f28))) (a29 : PySem.W.nsIn K mainGlobals "_law_pick" = some (some (.ref f29))) (a30 : PySem.W.nsIn K mainGlobals "_law_row" = some (some (.ref f30))) (a31 : PySem.W.nsIn K mainGlobals "integer_in" = some (some (.ref f31)))
    (a32 : PySem.W.nsIn K mainGlobals "piece_in" = some (some (.ref f32))) (a34 : PySem.W.nsIn K mainGlobals "pattern_in" = some (some (.ref f34))) (a36 : PySem.W.nsIn K mainGlobals "_law_words" = some (some (.ref f36))) (a37 : PySem.W.nsIn K mainGlobals "_law_read" = some (some (.ref f37)))
    (a38 : PySem.W.nsIn K mainGlobals "_law_told" = some (some (.ref f38))) (a39 : PySem.W.nsIn K mainGlobals "_law_front" = some (some (.ref f39))) (a40 : PySem.W.nsIn K mainGlobals "_law_walk" = some (some (.ref f40))) (a41 : PySem.W.nsIn K mainGlobals "sign_of" = some (some (.ref f41)))
    (a42 : PySem.W.nsIn K mainGlobals "compare" = some (some (.ref f42))) (a45 : PySem.W.nsIn K mainGlobals "_law_below" = some (some (.ref f45))) (a46 : PySem.W.nsIn K mainGlobals "_law_goes" = some (some (.ref f46))) (a50 : PySem.W.nsIn K mainGlobals "_law_right" = some (some (.ref f50)))
    (a51 : PySem.W.nsIn K mainGlobals "_law_cup" = some (some (.ref f51))) (a52 : PySem.W.nsIn K mainGlobals "law" = some (some (.ref f52))) (a6_1 : PySem.W.findIn K (.ref C1) "__init__" = some (some (.ref f6))) (mkC1 : PySem.W.makesIn K C1 = true)
    (kpC1 : PySem.W.keepIn K (.ref C1) = true) (i6 : PySem.W.isFn K (.ref f6) = true) (a23_5 : PySem.W.findIn K (.ref C5) "__init__" = some (some (.ref f23))) (mkC5 : PySem.W.makesIn K C5 = true)
    (kpC5 : PySem.W.keepIn K (.ref C5) = true) (i23 : PySem.W.isFn K (.ref f23) = true) (a33_0 : PySem.W.findIn K (.ref C0) "__init__" = some (some (.ref f33))) (mkC0 : PySem.W.makesIn K C0 = true)
    (kpC0 : PySem.W.keepIn K (.ref C0) = true) (i33 : PySem.W.isFn K (.ref f33) = true) (a14_5 : PySem.W.findIn K (.ref C5) "value_at" = some (some (.ref f14))) (i14 : PySem.W.isFn K (.ref f14) = true)
    (k14 : PySem.W.keepIn K (.ref f14) = true) (a15_5 : PySem.W.findIn K (.ref C5) "__call__" = some (some (.ref f15))) (i15 : PySem.W.isFn K (.ref f15) = true) (x15 : PySem.W.fnIn K f15 = true)
    (a24_5 : PySem.W.findIn K (.ref C5) "next_of" = some (some (.ref f24))) (i24 : PySem.W.isFn K (.ref f24) = true) (k24 : PySem.W.keepIn K (.ref f24) = true) (a25_5 : PySem.W.findIn K (.ref C5) "opening" = some (some (.ref f25)))
    (i25 : PySem.W.isFn K (.ref f25) = true) (k25 : PySem.W.keepIn K (.ref f25) = true) (a43_5 : PySem.W.findIn K (.ref C5) "goes" = some (some (.ref q43_5))) (b43_5 : PySem.W.specialIn K (.ref q43_5) "__get__" = some (some (.builtin "property.__get__")))
    (d43_5 : PySem.W.takesIn K (.ref q43_5) = some true) (e43_5 : PySem.W.recIn K q43_5 "property" = some (.ref f43 :: rs43_5)) (a44_5 : PySem.W.findIn K (.ref C5) "load" = some (some (.ref q44_5))) (b44_5 : PySem.W.specialIn K (.ref q44_5) "__get__" = some (some (.builtin "property.__get__")))
    (d44_5 : PySem.W.takesIn K (.ref q44_5) = some true) (e44_5 : PySem.W.recIn K q44_5 "property" = some (.ref f44 :: rs44_5)) (a47_1 : PySem.W.findIn K (.ref C1) "__str__" = some (some (.ref f47))) (i47 : PySem.W.isFn K (.ref f47) = true)
    (foC1 : PySem.W.findIn K (.ref C1) "__format__" = some (some (.builtin "object.__format__"))) (a48_1 : PySem.W.findIn K (.ref C1) "numbers" = some (some (.ref q48_1))) (b48_1 : PySem.W.specialIn K (.ref q48_1) "__get__" = some (some (.builtin "property.__get__"))) (d48_1 : PySem.W.takesIn K (.ref q48_1) = some true)
    (e48_1 : PySem.W.recIn K q48_1 "property" = some (.ref f48 :: rs48_1)) (a49_1 : PySem.W.findIn K (.ref C1) "__eq__" = some (some (.ref f49))) (i49 : PySem.W.isFn K (.ref f49) = true) (neC1 : PySem.W.findIn K (.ref C1) "__ne__" = some (some (.builtin "object.__ne__")))
    (t35 : PySem.W.typeIn K (.ref C1) = some mc35) (b35 : PySem.W.readsIn K C1 mc35 = true) (d35 : PySem.W.specialIn K (.ref C1) "__getattribute__" = some (some (.builtin "type.__getattribute__"))) (a35 : PySem.W.findCls K (.ref C1) mc35 "read" = some (.get (.builtin "staticmethod.__get__") (.ref q35) .none (.ref C1)))
    (e35 : PySem.W.recIn K q35 "staticmethod" = some (.ref f35 :: rs35)) (l0 : K.lookup f0 = some ⟨oc0, od0, .func (PySem.W.fnOf "is_integer" "is_integer" (defArgs st_is_integer) (defBody st_is_integer) (defScope st_is_integer) .none kV0 dc0 pm0 an0 cd0 ct0), sl0⟩) (c0 : PySem.W.codeIn K cd0 "is_integer" = true) (k0 : PySem.W.keepIn K (.ref f0) = true)
    (l1 : K.lookup f1 = some ⟨oc1, od1, .func (PySem.W.fnOf "is_between" "is_between" (defArgs st_is_between) (defBody st_is_between) (defScope st_is_between) .none kV1 dc1 pm1 an1 cd1 ct1), sl1⟩) (c1 : PySem.W.codeIn K cd1 "is_between" = true) (k1 : PySem.W.keepIn K (.ref f1) = true) (l2 : K.lookup f2 = some ⟨oc2, od2, .func (PySem.W.fnOf "is_piece" "is_piece" (defArgs st_is_piece) (defBody st_is_piece) (defScope st_is_piece) .none kV2 dc2 pm2 an2 cd2 ct2), sl2⟩)
    (c2 : PySem.W.codeIn K cd2 "is_piece" = true) (k2 : PySem.W.keepIn K (.ref f2) = true) (l3 : K.lookup f3 = some ⟨oc3, od3, .func (PySem.W.fnOf "check_pieces" "check_pieces" (defArgs st_check_pieces) (defBody st_check_pieces) (defScope st_check_pieces) .none kV3 dc3 pm3 an3 cd3 ct3), sl3⟩) (c3 : PySem.W.codeIn K cd3 "check_pieces" = true)
    (k3 : PySem.W.keepIn K (.ref f3) = true) (l4 : K.lookup f4 = some ⟨oc4, od4, .func (PySem.W.fnOf "joined" "joined" (defArgs st_joined) (defBody st_joined) (defScope st_joined) .none kV4 dc4 pm4 an4 cd4 ct4), sl4⟩) (c4 : PySem.W.codeIn K cd4 "joined" = true) (k4 : PySem.W.keepIn K (.ref f4) = true)
    (l5 : K.lookup f5 = some ⟨oc5, od5, .func (PySem.W.fnOf "chain_of" "chain_of" (defArgs st_chain_of) (defBody st_chain_of) (defScope st_chain_of) .none kV5 dc5 pm5 an5 cd5 ct5), sl5⟩) (c5 : PySem.W.codeIn K cd5 "chain_of" = true) (k5 : PySem.W.keepIn K (.ref f5) = true) (l6 : K.lookup f6 = some ⟨oc6, od6, .func (PySem.W.fnOf "__init__" "Pattern.__init__" (defArgs st_PatternX_initX) (defBody st_PatternX_initX) (defScope st_PatternX_initX) .none kV6 dc6 pm6 an6 cd6 ct6), sl6⟩)
    (c6 : PySem.W.codeIn K cd6 "Pattern.__init__" = true) (k6 : PySem.W.keepIn K (.ref f6) = true) (l7 : K.lookup f7 = some ⟨oc7, od7, .func (PySem.W.fnOf "check_count" "check_count" (defArgs st_check_count) (defBody st_check_count) (defScope st_check_count) .none kV7 dc7 pm7 an7 cd7 ct7), sl7⟩) (c7 : PySem.W.codeIn K cd7 "check_count" = true)
    (k7 : PySem.W.keepIn K (.ref f7) = true) (l8 : K.lookup f8 = some ⟨oc8, od8, .func (PySem.W.fnOf "led" "led" (defArgs st_led) (defBody st_led) (defScope st_led) .none kV8 dc8 pm8 an8 cd8 ct8), sl8⟩) (c8 : PySem.W.codeIn K cd8 "led" = true) (k8 : PySem.W.keepIn K (.ref f8) = true)
    (l9 : K.lookup f9 = some ⟨oc9, od9, .func (PySem.W.fnOf "common" "common" (defArgs st_common) (defBody st_common) (defScope st_common) .none kV9 dc9 pm9 an9 cd9 ct9), sl9⟩) (c9 : PySem.W.codeIn K cd9 "common" = true) (k9 : PySem.W.keepIn K (.ref f9) = true) (l10 : K.lookup f10 = some ⟨oc10, od10, .func (PySem.W.fnOf "lowest" "lowest" (defArgs st_lowest) (defBody st_lowest) (defScope st_lowest) .none kV10 dc10 pm10 an10 cd10 ct10), sl10⟩)
    (c10 : PySem.W.codeIn K cd10 "lowest" = true) (k10 : PySem.W.keepIn K (.ref f10) = true) (l11 : K.lookup f11 = some ⟨oc11, od11, .func (PySem.W.fnOf "shown" "shown" (defArgs st_shown) (defBody st_shown) (defScope st_shown) .none kV11 dc11 pm11 an11 cd11 ct11), sl11⟩) (c11 : PySem.W.codeIn K cd11 "shown" = true)
    (k11 : PySem.W.keepIn K (.ref f11) = true) (l12 : K.lookup f12 = some ⟨oc12, od12, .func (PySem.W.fnOf "slim" "slim" (defArgs st_slim) (defBody st_slim) (defScope st_slim) .none kV12 dc12 pm12 an12 cd12 ct12), sl12⟩) (c12 : PySem.W.codeIn K cd12 "slim" = true) (k12 : PySem.W.keepIn K (.ref f12) = true)
    (l13 : K.lookup f13 = some ⟨oc13, od13, .func (PySem.W.fnOf "repeated" "repeated" (defArgs st_repeated) (defBody st_repeated) (defScope st_repeated) .none kV13 dc13 pm13 an13 cd13 ct13), sl13⟩) (c13 : PySem.W.codeIn K cd13 "repeated" = true) (k13 : PySem.W.keepIn K (.ref f13) = true) (l14 : K.lookup f14 = some ⟨oc14, od14, .func (PySem.W.fnOf "value_at" "Ladder.value_at" (defArgs st_Ladder_value_at) (defBody st_Ladder_value_at) (defScope st_Ladder_value_at) .none kV14 dc14 pm14 an14 cd14 ct14), sl14⟩)
    (c14 : PySem.W.codeIn K cd14 "Ladder.value_at" = true) (l15 : K.lookup f15 = some ⟨oc15, od15, .func (PySem.W.fnOf "__call__" "Run.__call__" (defArgs st_RunX_callX) (defBody st_RunX_callX) (defScope st_RunX_callX) .none kV15 dc15 pm15 an15 cd15 ct15), sl15⟩) (c15 : PySem.W.codeIn K cd15 "Run.__call__" = true) (k15 : PySem.W.keepIn K (.ref f15) = true)
    (l16 : K.lookup f16 = some ⟨oc16, od16, .func (PySem.W.fnOf "check_pattern" "check_pattern" (defArgs st_check_pattern) (defBody st_check_pattern) (defScope st_check_pattern) .none kV16 dc16 pm16 an16 cd16 ct16), sl16⟩) (c16 : PySem.W.codeIn K cd16 "check_pattern" = true) (k16 : PySem.W.keepIn K (.ref f16) = true) (l17 : K.lookup f17 = some ⟨oc17, od17, .func (PySem.W.fnOf "is_fraction" "is_fraction" (defArgs st_is_fraction) (defBody st_is_fraction) (defScope st_is_fraction) .none kV17 dc17 pm17 an17 cd17 ct17), sl17⟩)
    (c17 : PySem.W.codeIn K cd17 "is_fraction" = true) (k17 : PySem.W.keepIn K (.ref f17) = true) (l18 : K.lookup f18 = some ⟨oc18, od18, .func (PySem.W.fnOf "is_number" "is_number" (defArgs st_is_number) (defBody st_is_number) (defScope st_is_number) .none kV18 dc18 pm18 an18 cd18 ct18), sl18⟩) (c18 : PySem.W.codeIn K cd18 "is_number" = true)
    (k18 : PySem.W.keepIn K (.ref f18) = true) (l19 : K.lookup f19 = some ⟨oc19, od19, .func (PySem.W.fnOf "is_resistance" "is_resistance" (defArgs st_is_resistance) (defBody st_is_resistance) (defScope st_is_resistance) .none kV19 dc19 pm19 an19 cd19 ct19), sl19⟩) (c19 : PySem.W.codeIn K cd19 "is_resistance" = true) (k19 : PySem.W.keepIn K (.ref f19) = true)
    (l20 : K.lookup f20 = some ⟨oc20, od20, .func (PySem.W.fnOf "check_resistance" "check_resistance" (defArgs st_check_resistance) (defBody st_check_resistance) (defScope st_check_resistance) .none kV20 dc20 pm20 an20 cd20 ct20), sl20⟩) (c20 : PySem.W.codeIn K cd20 "check_resistance" = true) (k20 : PySem.W.keepIn K (.ref f20) = true) (l21 : K.lookup f21 = some ⟨oc21, od21, .func (PySem.W.fnOf "__init__" "Run.__init__" (defArgs st_RunX_initX) (defBody st_RunX_initX) (defScope st_RunX_initX) .none kV21 dc21 pm21 an21 cd21 ct21), sl21⟩)
    (c21 : PySem.W.codeIn K cd21 "Run.__init__" = true) (k21 : PySem.W.keepIn K (.ref f21) = true) (l22 : K.lookup f22 = some ⟨oc22, od22, .func (PySem.W.fnOf "pair_of" "pair_of" (defArgs st_pair_of) (defBody st_pair_of) (defScope st_pair_of) .none kV22 dc22 pm22 an22 cd22 ct22), sl22⟩) (c22 : PySem.W.codeIn K cd22 "pair_of" = true)
    (k22 : PySem.W.keepIn K (.ref f22) = true) (l23 : K.lookup f23 = some ⟨oc23, od23, .func (PySem.W.fnX "__init__" "Ladder.__init__" (defArgs st_LadderX_initX) (defBody st_LadderX_initX) (defScope st_LadderX_initX) [("__class__", cc23)] .none kV23 dc23 pm23 an23 (.ref cda23) ct23), sl23⟩) (c23 : PySem.W.codeIn K (.ref cda23) "Ladder.__init__" = true) (k23 : PySem.W.keepIn K (.ref f23) = true)
    (la23 : K.lookup cc23 = some ⟨ec23, ed23, .cell (some (.ref C5)), es23⟩) (lb23 : K.lookup cda23 = some ⟨gc23, gd23, .fields gv23, gs23⟩) (lc23 : gv23[2]? = some (.str fi23 tf23)) (ld23 : ((l.prog.main.file : Str) == fi23) = true)
    (le23 : PySem.W.clsIn K C5 = some cd23) (lf23 : PySem.W.mroIn K C5 (.ref C5) = some true) (lg23 : PySem.W.ks_superIn K C5 C5 "__init__" = some (some (.ref f21))) (lh23 : PySem.W.typeIn K (.ref f21) = some (.type "function"))
    (li23 : PySem.W.fnIn K f21 = true) (tpa : PySem.W.nsIn K cStatics "thirdparty.any" = some none) (tsn : (l.prog.main.scope.names.lookup ("super" : Str)).isSome = false) (l24 : K.lookup f24 = some ⟨oc24, od24, .func (PySem.W.fnOf "next_of" "Ladder.next_of" (defArgs st_Ladder_next_of) (defBody st_Ladder_next_of) (defScope st_Ladder_next_of) .none kV24 dc24 pm24 an24 cd24 ct24), sl24⟩)
    (c24 : PySem.W.codeIn K cd24 "Ladder.next_of" = true) (l25 : K.lookup f25 = some ⟨oc25, od25, .func (PySem.W.fnOf "opening" "Run.opening" (defArgs st_Run_opening) (defBody st_Run_opening) (defScope st_Run_opening) .none kV25 dc25 pm25 an25 cd25 ct25), sl25⟩) (c25 : PySem.W.codeIn K cd25 "Run.opening" = true) (l26 : K.lookup f26 = some ⟨oc26, od26, .func (PySem.W.fnOf "_law_sip" "_law_sip" (defArgs st__law_sip) (defBody st__law_sip) (defScope st__law_sip) .none kV26 dc26 pm26 an26 cd26 ct26), sl26⟩)
    (c26 : PySem.W.codeIn K cd26 "_law_sip" = true) (k26 : PySem.W.keepIn K (.ref f26) = true) (l27 : K.lookup f27 = some ⟨oc27, od27, .func (PySem.W.fnOf "_law_pair" "_law_pair" (defArgs st__law_pair) (defBody st__law_pair) (defScope st__law_pair) .none kV27 dc27 pm27 an27 cd27 ct27), sl27⟩) (c27 : PySem.W.codeIn K cd27 "_law_pair" = true)
    (k27 : PySem.W.keepIn K (.ref f27) = true) (l28 : K.lookup f28 = some ⟨oc28, od28, .func (PySem.W.fnOf "_law_end" "_law_end" (defArgs st__law_end) (defBody st__law_end) (defScope st__law_end) .none kV28 dc28 pm28 an28 cd28 ct28), sl28⟩) (c28 : PySem.W.codeIn K cd28 "_law_end" = true) (k28 : PySem.W.keepIn K (.ref f28) = true)
    (l29 : K.lookup f29 = some ⟨oc29, od29, .func (PySem.W.fnOf "_law_pick" "_law_pick" (defArgs st__law_pick) (defBody st__law_pick) (defScope st__law_pick) .none kV29 dc29 pm29 an29 cd29 ct29), sl29⟩) (c29 : PySem.W.codeIn K cd29 "_law_pick" = true) (k29 : PySem.W.keepIn K (.ref f29) = true) (l30 : K.lookup f30 = some ⟨oc30, od30, .func (PySem.W.fnOf "_law_row" "_law_row" (defArgs st__law_row) (defBody st__law_row) (defScope st__law_row) .none kV30 dc30 pm30 an30 cd30 ct30), sl30⟩)
    (c30 : PySem.W.codeIn K cd30 "_law_row" = true) (k30 : PySem.W.keepIn K (.ref f30) = true) (l31 : K.lookup f31 = some ⟨oc31, od31, .func (PySem.W.fnOf "integer_in" "integer_in" (defArgs st_integer_in) (defBody st_integer_in) (defScope st_integer_in) .none kV31 dc31 pm31 an31 cd31 ct31), sl31⟩) (c31 : PySem.W.codeIn K cd31 "integer_in" = true)
    (k31 : PySem.W.keepIn K (.ref f31) = true) (l32 : K.lookup f32 = some ⟨oc32, od32, .func (PySem.W.fnOf "piece_in" "piece_in" (defArgs st_piece_in) (defBody st_piece_in) (defScope st_piece_in) .none kV32 dc32 pm32 an32 cd32 ct32), sl32⟩) (c32 : PySem.W.codeIn K cd32 "piece_in" = true) (k32 : PySem.W.keepIn K (.ref f32) = true)
    (l33 : K.lookup f33 = some ⟨oc33, od33, .func (PySem.W.fnOf "__init__" "Row.__init__" (defArgs st_RowX_initX) (defBody st_RowX_initX) (defScope st_RowX_initX) .none kV33 dc33 pm33 an33 cd33 ct33), sl33⟩) (c33 : PySem.W.codeIn K cd33 "Row.__init__" = true) (k33 : PySem.W.keepIn K (.ref f33) = true) (l34 : K.lookup f34 = some ⟨oc34, od34, .func (PySem.W.fnOf "pattern_in" "pattern_in" (defArgs st_pattern_in) (defBody st_pattern_in) (defScope st_pattern_in) .none kV34 dc34 pm34 an34 cd34 ct34), sl34⟩)
    (c34 : PySem.W.codeIn K cd34 "pattern_in" = true) (k34 : PySem.W.keepIn K (.ref f34) = true) (l35 : K.lookup f35 = some ⟨oc35, od35, .func (PySem.W.fnOf "read" "Pattern.read" (defArgs st_Pattern_read) (defBody st_Pattern_read) (defScope st_Pattern_read) .none kV35 dc35 pm35 an35 cd35 ct35), sl35⟩) (c35 : PySem.W.codeIn K cd35 "Pattern.read" = true)
    (k35 : PySem.W.keepIn K (.ref f35) = true) (l36 : K.lookup f36 = some ⟨oc36, od36, .func (PySem.W.fnOf "_law_words" "_law_words" (defArgs st__law_words) (defBody st__law_words) (defScope st__law_words) .none kV36 dc36 pm36 an36 cd36 ct36), sl36⟩) (c36 : PySem.W.codeIn K cd36 "_law_words" = true) (k36 : PySem.W.keepIn K (.ref f36) = true)
    (l37 : K.lookup f37 = some ⟨oc37, od37, .func (PySem.W.fnOf "_law_read" "_law_read" (defArgs st__law_read) (defBody st__law_read) (defScope st__law_read) .none kV37 dc37 pm37 an37 cd37 ct37), sl37⟩) (c37 : PySem.W.codeIn K cd37 "_law_read" = true) (k37 : PySem.W.keepIn K (.ref f37) = true) (l38 : K.lookup f38 = some ⟨oc38, od38, .func (PySem.W.fnOf "_law_told" "_law_told" (defArgs st__law_told) (defBody st__law_told) (defScope st__law_told) .none kV38 dc38 pm38 an38 cd38 ct38), sl38⟩)
    (c38 : PySem.W.codeIn K cd38 "_law_told" = true) (k38 : PySem.W.keepIn K (.ref f38) = true) (l39 : K.lookup f39 = some ⟨oc39, od39, .func (PySem.W.fnOf "_law_front" "_law_front" (defArgs st__law_front) (defBody st__law_front) (defScope st__law_front) .none kV39 dc39 pm39 an39 cd39 ct39), sl39⟩) (c39 : PySem.W.codeIn K cd39 "_law_front" = true)
    (k39 : PySem.W.keepIn K (.ref f39) = true) (l40 : K.lookup f40 = some ⟨oc40, od40, .func (PySem.W.fnOf "_law_walk" "_law_walk" (defArgs st__law_walk) (defBody st__law_walk) (defScope st__law_walk) .none kV40 dc40 pm40 an40 cd40 ct40), sl40⟩) (c40 : PySem.W.codeIn K cd40 "_law_walk" = true) (k40 : PySem.W.keepIn K (.ref f40) = true)
    (l41 : K.lookup f41 = some ⟨oc41, od41, .func (PySem.W.fnOf "sign_of" "sign_of" (defArgs st_sign_of) (defBody st_sign_of) (defScope st_sign_of) .none kV41 dc41 pm41 an41 cd41 ct41), sl41⟩) (c41 : PySem.W.codeIn K cd41 "sign_of" = true) (k41 : PySem.W.keepIn K (.ref f41) = true) (l42 : K.lookup f42 = some ⟨oc42, od42, .func (PySem.W.fnOf "compare" "compare" (defArgs st_compare) (defBody st_compare) (defScope st_compare) .none kV42 dc42 pm42 an42 cd42 ct42), sl42⟩)
    (c42 : PySem.W.codeIn K cd42 "compare" = true) (k42 : PySem.W.keepIn K (.ref f42) = true) (l43 : K.lookup f43 = some ⟨oc43, od43, .func (PySem.W.fnOf "goes" "Run.goes" (defArgs st_Run_goes) (defBody st_Run_goes) (defScope st_Run_goes) .none kV43 dc43 pm43 an43 cd43 ct43), sl43⟩) (c43 : PySem.W.codeIn K cd43 "Run.goes" = true)
    (k43 : PySem.W.keepIn K (.ref f43) = true) (l44 : K.lookup f44 = some ⟨oc44, od44, .func (PySem.W.fnOf "load" "Run.load" (defArgs st_Run_load) (defBody st_Run_load) (defScope st_Run_load) .none kV44 dc44 pm44 an44 cd44 ct44), sl44⟩) (c44 : PySem.W.codeIn K cd44 "Run.load" = true) (k44 : PySem.W.keepIn K (.ref f44) = true)
    (l45 : K.lookup f45 = some ⟨oc45, od45, .func (PySem.W.fnOf "_law_below" "_law_below" (defArgs st__law_below) (defBody st__law_below) (defScope st__law_below) .none kV45 dc45 pm45 an45 cd45 ct45), sl45⟩) (c45 : PySem.W.codeIn K cd45 "_law_below" = true) (k45 : PySem.W.keepIn K (.ref f45) = true) (l46 : K.lookup f46 = some ⟨oc46, od46, .func (PySem.W.fnOf "_law_goes" "_law_goes" (defArgs st__law_goes) (defBody st__law_goes) (defScope st__law_goes) .none kV46 dc46 pm46 an46 cd46 ct46), sl46⟩)
    (c46 : PySem.W.codeIn K cd46 "_law_goes" = true) (k46 : PySem.W.keepIn K (.ref f46) = true) (l47 : K.lookup f47 = some ⟨oc47, od47, .func (PySem.W.fnOf "__str__" "Pattern.__str__" (defArgs st_PatternX_strX) (defBody st_PatternX_strX) (defScope st_PatternX_strX) .none kV47 dc47 pm47 an47 cd47 ct47), sl47⟩) (c47 : PySem.W.codeIn K cd47 "Pattern.__str__" = true)
    (k47 : PySem.W.keepIn K (.ref f47) = true) (l48 : K.lookup f48 = some ⟨oc48, od48, .func (PySem.W.fnOf "numbers" "Pattern.numbers" (defArgs st_Pattern_numbers) (defBody st_Pattern_numbers) (defScope st_Pattern_numbers) .none kV48 dc48 pm48 an48 cd48 ct48), sl48⟩) (c48 : PySem.W.codeIn K cd48 "Pattern.numbers" = true) (k48 : PySem.W.keepIn K (.ref f48) = true)
    (l49 : K.lookup f49 = some ⟨oc49, od49, .func (PySem.W.fnOf "__eq__" "Pattern.__eq__" (defArgs st_PatternX_eqX) (defBody st_PatternX_eqX) (defScope st_PatternX_eqX) .none kV49 dc49 pm49 an49 cd49 ct49), sl49⟩) (c49 : PySem.W.codeIn K cd49 "Pattern.__eq__" = true) (k49 : PySem.W.keepIn K (.ref f49) = true) (l50 : K.lookup f50 = some ⟨oc50, od50, .func (PySem.W.fnOf "_law_right" "_law_right" (defArgs st__law_right) (defBody st__law_right) (defScope st__law_right) .none kV50 dc50 pm50 an50 cd50 ct50), sl50⟩)
    (c50 : PySem.W.codeIn K cd50 "_law_right" = true) (k50 : PySem.W.keepIn K (.ref f50) = true) (l51 : K.lookup f51 = some ⟨oc51, od51, .func (PySem.W.fnOf "_law_cup" "_law_cup" (defArgs st__law_cup) (defBody st__law_cup) (defScope st__law_cup) .none kV51 dc51 pm51 an51 cd51 ct51), sl51⟩) (c51 : PySem.W.codeIn K cd51 "_law_cup" = true)
    (k51 : PySem.W.keepIn K (.ref f51) = true) (l52 : K.lookup f52 = some ⟨oc52, od52, .func (PySem.W.fnOf "law" "law" (defArgs st_law) (defBody st_law) (defScope st_law) .none kV52 dc52 pm52 an52 cd52 ct52), sl52⟩) (c52 : PySem.W.codeIn K cd52 "law" = true) (k52 : PySem.W.keepIn K (.ref f52) = true)
    (z_NotImplemented : PySem.W.nsIn K mainGlobals "NotImplemented" = some none) (z_abs : PySem.W.nsIn K mainGlobals "abs" = some none) (z_all : PySem.W.nsIn K mainGlobals "all" = some none) (z_any : PySem.W.nsIn K mainGlobals "any" = some none)
    (z_bool : PySem.W.nsIn K mainGlobals "bool" = some none) (z_divmod : PySem.W.nsIn K mainGlobals "divmod" = some none) (z_enumerate : PySem.W.nsIn K mainGlobals "enumerate" = some none) (z_int : PySem.W.nsIn K mainGlobals "int" = some none)
    (z_isinstance : PySem.W.nsIn K mainGlobals "isinstance" = some none) (z_len : PySem.W.nsIn K mainGlobals "len" = some none) (z_list : PySem.W.nsIn K mainGlobals "list" = some none) (z_max : PySem.W.nsIn K mainGlobals "max" = some none)
    (z_min : PySem.W.nsIn K mainGlobals "min" = some none) (z_range : PySem.W.nsIn K mainGlobals "range" = some none) (z_repr : PySem.W.nsIn K mainGlobals "repr" = some none) (z_str : PySem.W.nsIn K mainGlobals "str" = some none)
    (z_super : PySem.W.nsIn K mainGlobals "super" = some none) (z_tuple : PySem.W.nsIn K mainGlobals "tuple" = some none) (v_MOST_PIECES : PySem.W.nsIn K mainGlobals "MOST_PIECES" = some (some (.int  4 t_MOST_PIECES))) (v_MOST_OHMS : PySem.W.nsIn K mainGlobals "MOST_OHMS" = some (some (.int  12 t_MOST_OHMS)))
    (v_WORDS : PySem.W.nsIn K mainGlobals "WORDS" = some (some (.ref T_WORDS))) (w_WORDS : K.lookup T_WORDS = some ⟨.type "tuple", o_WORDS, .seq its_WORDS u_WORDS, sl_WORDS⟩) (r_WORDS : Vals [V.str "rail", V.str "rung"] its_WORDS.toList) (v_NOTHING : PySem.W.nsIn K mainGlobals "NOTHING" = some (some (.ref T_NOTHING)))
    (w_NOTHING : K.lookup T_NOTHING = some ⟨.type "tuple", o_NOTHING, .seq its_NOTHING u_NOTHING, sl_NOTHING⟩) (r_NOTHING : Vals [V.int 1, V.int 0, V.int 0, V.int 1] its_NOTHING.toList) (v_MOST_SECTIONS : PySem.W.nsIn K mainGlobals "MOST_SECTIONS" = some (some (.int  100 t_MOST_SECTIONS))) (v_OPEN : PySem.W.nsIn K mainGlobals "OPEN" = some (some (.ref T_OPEN)))
    (w_OPEN : K.lookup T_OPEN = some ⟨.type "tuple", o_OPEN, .seq its_OPEN u_OPEN, sl_OPEN⟩) (r_OPEN : Vals [V.int 1, V.int 0] its_OPEN.toList) (v_GREATEST : PySem.W.nsIn K mainGlobals "GREATEST" = some (some (.int  1000000000000 t_GREATEST))) (v_DIGITS : PySem.W.nsIn K mainGlobals "DIGITS" = some (some (.str  "0123456789" t_DIGITS)))
    (v_MOST_DIGITS : PySem.W.nsIn K mainGlobals "MOST_DIGITS" = some (some (.int  13 t_MOST_DIGITS))) (v_MOST_JOINED : PySem.W.nsIn K mainGlobals "MOST_JOINED" = some (some (.int  8 t_MOST_JOINED))) (ihn : PySem.W.specialIn K (.builtin "object.__class__") "__get__" = some (some (.builtin "getset_descriptor.__get__"))) (iht : PySem.W.takesIn K (.builtin "object.__class__") = some true)
    (ic0 : PySem.W.isClsIn K C0 = true) (ty0 : PySem.W.typeIn K (.ref C0) = some (.type "type")) (kk0_0 : PySem.W.subIn K (.ref C0) (.ref C0) = some true) (kk0_1 : PySem.W.subIn K (.ref C0) (.ref C1) = some false)
    (ct0_none_ : PySem.W.subIn K (.ref C0) (.type "NoneType") = some false) (tc0_none_ : PySem.W.subIn K (.type "NoneType") (.ref C0) = some false) (ct0_bool : PySem.W.subIn K (.ref C0) (.type "bool") = some false) (tc0_bool : PySem.W.subIn K (.type "bool") (.ref C0) = some false)
    (ct0_int : PySem.W.subIn K (.ref C0) (.type "int") = some false) (tc0_int : PySem.W.subIn K (.type "int") (.ref C0) = some false) (ct0_str : PySem.W.subIn K (.ref C0) (.type "str") = some false) (tc0_str : PySem.W.subIn K (.type "str") (.ref C0) = some false)
    (ct0_tuple : PySem.W.subIn K (.ref C0) (.type "tuple") = some false) (tc0_tuple : PySem.W.subIn K (.type "tuple") (.ref C0) = some false) (ct0_list : PySem.W.subIn K (.ref C0) (.type "list") = some false) (tc0_list : PySem.W.subIn K (.type "list") (.ref C0) = some false)
    (ct0_dict : PySem.W.subIn K (.ref C0) (.type "dict") = some false) (tc0_dict : PySem.W.subIn K (.type "dict") (.ref C0) = some false) (ic1 : PySem.W.isClsIn K C1 = true) (ty1 : PySem.W.typeIn K (.ref C1) = some (.type "type"))
    (kk1_1 : PySem.W.subIn K (.ref C1) (.ref C1) = some true) (kk1_0 : PySem.W.subIn K (.ref C1) (.ref C0) = some false) (ct1_none_ : PySem.W.subIn K (.ref C1) (.type "NoneType") = some false) (tc1_none_ : PySem.W.subIn K (.type "NoneType") (.ref C1) = some false)
    (ct1_bool : PySem.W.subIn K (.ref C1) (.type "bool") = some false) (tc1_bool : PySem.W.subIn K (.type "bool") (.ref C1) = some false) (ct1_int : PySem.W.subIn K (.ref C1) (.type "int") = some false) (tc1_int : PySem.W.subIn K (.type "int") (.ref C1) = some false)
    (ct1_str : PySem.W.subIn K (.ref C1) (.type "str") = some false) (tc1_str : PySem.W.subIn K (.type "str") (.ref C1) = some false) (ct1_tuple : PySem.W.subIn K (.ref C1) (.type "tuple") = some false) (tc1_tuple : PySem.W.subIn K (.type "tuple") (.ref C1) = some false)
    (ct1_list : PySem.W.subIn K (.ref C1) (.type "list") = some false) (tc1_list : PySem.W.subIn K (.type "list") (.ref C1) = some false) (ct1_dict : PySem.W.subIn K (.ref C1) (.type "dict") = some false) (tc1_dict : PySem.W.subIn K (.type "dict") (.ref C1) = some false)
    (ic5 : PySem.W.isClsIn K C5 = true) (ty5 : PySem.W.typeIn K (.ref C5) = some (.type "type")) (kk5_5 : PySem.W.subIn K (.ref C5) (.ref C5) = some true) (kk5_0 : PySem.W.subIn K (.ref C5) (.ref C0) = some false)
    (kk5_1 : PySem.W.subIn K (.ref C5) (.ref C1) = some false) (ct5_none_ : PySem.W.subIn K (.ref C5) (.type "NoneType") = some false) (tc5_none_ : PySem.W.subIn K (.type "NoneType") (.ref C5) = some false) (ct5_bool : PySem.W.subIn K (.ref C5) (.type "bool") = some false)
    (tc5_bool : PySem.W.subIn K (.type "bool") (.ref C5) = some false) (ct5_int : PySem.W.subIn K (.ref C5) (.type "int") = some false) (tc5_int : PySem.W.subIn K (.type "int") (.ref C5) = some false) (ct5_str : PySem.W.subIn K (.ref C5) (.type "str") = some false)
    (tc5_str : PySem.W.subIn K (.type "str") (.ref C5) = some false) (ct5_tuple : PySem.W.subIn K (.ref C5) (.type "tuple") = some false) (tc5_tuple : PySem.W.subIn K (.type "tuple") (.ref C5) = some false) (ct5_list : PySem.W.subIn K (.ref C5) (.type "list") = some false)
    (tc5_list : PySem.W.subIn K (.type "list") (.ref C5) = some false) (ct5_dict : PySem.W.subIn K (.ref C5) (.type "dict") = some false) (tc5_dict : PySem.W.subIn K (.type "dict") (.ref C5) = some false)
    : ∃ G : Sg, G.K = K ∧ ∀ base : Heap, K.In base → base.Ns mainGlobals mg → FnA l.prog w K mg base G 20 fa sem_law := by
  have e := hfa.symm.trans (PySem.W.mg_of X G a52)
  cases e
  refine ⟨GG true K (adOf [(1000, C0), (1001, C1), (1005, C5), (0, f0), (1, f1), (2, f2), (3, f3), (4, f4), (5, f5), (6, f6), (7, f7), (8, f8), (9, f9), (10, f10), (11, f11), (12, f12), (13, f13), (14, f14), (15, f15), (16, f16), (17, f17), (18, f18), (19, f19), (20, f20), (21, f21), (22, f22), (23, f23), (24, f24), (25, f25), (26, f26), (27, f27), (28, f28), (29, f29), (30, f30), (31, f31), (32, f32), (33, f33), (34, f34), (35, f35), (36, f36), (37, f37), (38, f38), (39, f39), (40, f40), (41, f41), (42, f42), (43, f43), (44, f44), (45, f45), (46, f46), (47, f47), (48, f48), (49, f49), (50, f50), (51, f51), (52, fa), (2023, cc23), (3023, cda23)]), rfl, fun base _ _ => ?_⟩
  have T : Facts l.prog w K mg base (adOf [(1000, C0), (1001, C1), (1005, C5), (0, f0), (1, f1), (2, f2), (3, f3), (4, f4), (5, f5), (6, f6), (7, f7), (8, f8), (9, f9), (10, f10), (11, f11), (12, f12), (13, f13), (14, f14), (15, f15), (16, f16), (17, f17), (18, f18), (19, f19), (20, f20), (21, f21), (22, f22), (23, f23), (24, f24), (25, f25), (26, f26), (27, f27), (28, f28), (29, f29), (30, f30), (31, f31), (32, f32), (33, f33), (34, f34), (35, f35), (36, f36), (37, f37), (38, f38), (39, f39), (40, f40), (41, f41), (42, f42), (43, f43), (44, f44), (45, f45), (46, f46), (47, f47), (48, f48), (49, f49), (50, f50), (51, f51), (52, fa), (2023, cc23), (3023, cda23)]) :=
    { k_Row := PySem.W.mg_of X G nC0
      cl_Row := ⟨pgC0, hdC0, poC0, saC0⟩
      na_Row_told := naC0_told
      k_Pattern := PySem.W.mg_of X G nC1
      cl_Pattern := ⟨pgC1, hdC1, poC1, saC1⟩
      na_Pattern_row := naC1_row
      na_Pattern_chain := naC1_chain
      na_Pattern_scale := naC1_scale
      k_Ladder := PySem.W.mg_of X G nC5
      cl_Ladder := ⟨pgC5, hdC5, poC5, saC5⟩
      na_Ladder_first := naC5_first
      na_Ladder_pattern := naC5_pattern
      g_is_integer := PySem.W.mg_of X G a0
      g_is_between := PySem.W.mg_of X G a1
      g_is_piece := PySem.W.mg_of X G a2
      g_check_pieces := PySem.W.mg_of X G a3
      g_joined := PySem.W.mg_of X G a4
      g_chain_of := PySem.W.mg_of X G a5
      g_check_count := PySem.W.mg_of X G a7
      g_led := PySem.W.mg_of X G a8
      g_common := PySem.W.mg_of X G a9
      g_lowest := PySem.W.mg_of X G a10
      g_shown := PySem.W.mg_of X G a11
      g_slim := PySem.W.mg_of X G a12
      g_repeated := PySem.W.mg_of X G a13
      g_check_pattern := PySem.W.mg_of X G a16
      g_is_fraction := PySem.W.mg_of X G a17
      g_is_number := PySem.W.mg_of X G a18
      g_is_resistance := PySem.W.mg_of X G a19
      g_check_resistance := PySem.W.mg_of X G a20
      g_pair_of := PySem.W.mg_of X G a22
      g__law_sip := PySem.W.mg_of X G a26
      g__law_pair := PySem.W.mg_of X G a27
      g__law_end := PySem.W.mg_of X G a28
      g__law_pick := PySem.W.mg_of X G a29
      g__law_row := PySem.W.mg_of X G a30
      g_integer_in := PySem.W.mg_of X G a31
      g_piece_in := PySem.W.mg_of X G a32
      g_pattern_in := PySem.W.mg_of X G a34
      g__law_words := PySem.W.mg_of X G a36
      g__law_read := PySem.W.mg_of X G a37
      g__law_told := PySem.W.mg_of X G a38
      g__law_front := PySem.W.mg_of X G a39
      g__law_walk := PySem.W.mg_of X G a40
      g_sign_of := PySem.W.mg_of X G a41
      g_compare := PySem.W.mg_of X G a42
      g__law_below := PySem.W.mg_of X G a45
      g__law_goes := PySem.W.mg_of X G a46
      g__law_right := PySem.W.mg_of X G a50
      g__law_cup := PySem.W.mg_of X G a51
      g_law := PySem.W.mg_of X G a52
      m_Pattern := ⟨mkC1, a6_1, i6, kpC1⟩
      m_Ladder := ⟨mkC5, a23_5, i23, kpC5⟩
      m_Row := ⟨mkC0, a33_0, i33, kpC0⟩
      t_Ladder_Ladder_value_at := ⟨a14_5, i14, k14⟩
      o_Ladder_RunX_callX := ⟨a15_5, i15, x15⟩
      t_Ladder_Ladder_next_of := ⟨a24_5, i24, k24⟩
      t_Ladder_Run_opening := ⟨a25_5, i25, k25⟩
      p_Ladder_Run_goes := ⟨_, ⟨a43_5, b43_5, d43_5, ⟨_, e43_5⟩⟩⟩
      p_Ladder_Run_load := ⟨_, ⟨a44_5, b44_5, d44_5, ⟨_, e44_5⟩⟩⟩
      x_Pattern_PatternX_strX := ⟨a47_1, i47, foC1, moC1⟩
      p_Pattern_Pattern_numbers := ⟨_, ⟨a48_1, b48_1, d48_1, ⟨_, e48_1⟩⟩⟩
      e_Pattern_PatternX_eqX := ⟨a49_1, i49, neC1, moC1⟩
      d_Pattern_PatternX_eqX := ⟨ct1_tuple, ct1_list, Ev.all6 tc1_none_ tc1_bool tc1_int tc1_str tc1_tuple tc1_list⟩
      s_Pattern_read := ⟨_, _, _, ⟨b35, d35⟩, a35, e35⟩
      f_is_integer := ⟨_, fun_mk (st := st_is_integer) l0 c0 k0⟩
      f_is_between := ⟨_, fun_mk (st := st_is_between) l1 c1 k1⟩
      f_is_piece := ⟨_, fun_mk (st := st_is_piece) l2 c2 k2⟩
      f_check_pieces := ⟨_, fun_mk (st := st_check_pieces) l3 c3 k3⟩
      f_joined := ⟨_, fun_mk (st := st_joined) l4 c4 k4⟩
      f_chain_of := ⟨_, fun_mk (st := st_chain_of) l5 c5 k5⟩
      f_PatternX_initX := ⟨_, fun_mk (st := st_PatternX_initX) l6 c6 k6⟩
      f_check_count := ⟨_, fun_mk (st := st_check_count) l7 c7 k7⟩
      f_led := ⟨_, fun_mk (st := st_led) l8 c8 k8⟩
      f_common := ⟨_, fun_mk (st := st_common) l9 c9 k9⟩
      f_lowest := ⟨_, fun_mk (st := st_lowest) l10 c10 k10⟩
      f_shown := ⟨_, fun_mk (st := st_shown) l11 c11 k11⟩
      f_slim := ⟨_, fun_mk (st := st_slim) l12 c12 k12⟩
      f_repeated := ⟨_, fun_mk (st := st_repeated) l13 c13 k13⟩
      f_Ladder_value_at := ⟨_, fun_mk (st := st_Ladder_value_at) l14 c14 k14⟩
      f_RunX_callX := ⟨_, fun_mk (st := st_RunX_callX) l15 c15 k15⟩
      f_check_pattern := ⟨_, fun_mk (st := st_check_pattern) l16 c16 k16⟩
      f_is_fraction := ⟨_, fun_mk (st := st_is_fraction) l17 c17 k17⟩
      f_is_number := ⟨_, fun_mk (st := st_is_number) l18 c18 k18⟩
      f_is_resistance := ⟨_, fun_mk (st := st_is_resistance) l19 c19 k19⟩
      f_check_resistance := ⟨_, fun_mk (st := st_check_resistance) l20 c20 k20⟩
      f_RunX_initX := ⟨_, fun_mk (st := st_RunX_initX) l21 c21 k21⟩
      f_pair_of := ⟨_, fun_mk (st := st_pair_of) l22 c22 k22⟩
      u_LadderX_initX := ⟨⟨_, _, _, _, _, _, _, _, l23⟩, c23, k23, ⟨_, _, _, la23⟩, ⟨_, _, _, _, _, _, lb23, lc23, ld23⟩, ⟨_, le23⟩, lf23, lg23, lh23, li23, tpa, tsn⟩
      f_Ladder_next_of := ⟨_, fun_mk (st := st_Ladder_next_of) l24 c24 k24⟩
      f_Run_opening := ⟨_, fun_mk (st := st_Run_opening) l25 c25 k25⟩
      f__law_sip := ⟨_, fun_mk (st := st__law_sip) l26 c26 k26⟩
      f__law_pair := ⟨_, fun_mk (st := st__law_pair) l27 c27 k27⟩
      f__law_end := ⟨_, fun_mk (st := st__law_end) l28 c28 k28⟩
      f__law_pick := ⟨_, fun_mk (st := st__law_pick) l29 c29 k29⟩
      f__law_row := ⟨_, fun_mk (st := st__law_row) l30 c30 k30⟩
      f_integer_in := ⟨_, fun_mk (st := st_integer_in) l31 c31 k31⟩
      f_piece_in := ⟨_, fun_mk (st := st_piece_in) l32 c32 k32⟩
      f_RowX_initX := ⟨_, fun_mk (st := st_RowX_initX) l33 c33 k33⟩
      f_pattern_in := ⟨_, fun_mk (st := st_pattern_in) l34 c34 k34⟩
      f_Pattern_read := ⟨_, fun_mk (st := st_Pattern_read) l35 c35 k35⟩
      f__law_words := ⟨_, fun_mk (st := st__law_words) l36 c36 k36⟩
      f__law_read := ⟨_, fun_mk (st := st__law_read) l37 c37 k37⟩
      f__law_told := ⟨_, fun_mk (st := st__law_told) l38 c38 k38⟩
      f__law_front := ⟨_, fun_mk (st := st__law_front) l39 c39 k39⟩
      f__law_walk := ⟨_, fun_mk (st := st__law_walk) l40 c40 k40⟩
      f_sign_of := ⟨_, fun_mk (st := st_sign_of) l41 c41 k41⟩
      f_compare := ⟨_, fun_mk (st := st_compare) l42 c42 k42⟩
      f_Run_goes := ⟨_, fun_mk (st := st_Run_goes) l43 c43 k43⟩
      f_Run_load := ⟨_, fun_mk (st := st_Run_load) l44 c44 k44⟩
      f__law_below := ⟨_, fun_mk (st := st__law_below) l45 c45 k45⟩
      f__law_goes := ⟨_, fun_mk (st := st__law_goes) l46 c46 k46⟩
      f_PatternX_strX := ⟨_, fun_mk (st := st_PatternX_strX) l47 c47 k47⟩
      f_Pattern_numbers := ⟨_, fun_mk (st := st_Pattern_numbers) l48 c48 k48⟩
      f_PatternX_eqX := ⟨_, fun_mk (st := st_PatternX_eqX) l49 c49 k49⟩
      f__law_right := ⟨_, fun_mk (st := st__law_right) l50 c50 k50⟩
      f__law_cup := ⟨_, fun_mk (st := st__law_cup) l51 c51 k51⟩
      f_law := ⟨_, fun_mk (st := st_law) l52 c52 k52⟩
      z_NotImplemented := PySem.W.mg_none_of X G z_NotImplemented
      z_abs := PySem.W.mg_none_of X G z_abs
      z_all := PySem.W.mg_none_of X G z_all
      z_any := PySem.W.mg_none_of X G z_any
      z_bool := PySem.W.mg_none_of X G z_bool
      z_divmod := PySem.W.mg_none_of X G z_divmod
      z_enumerate := PySem.W.mg_none_of X G z_enumerate
      z_int := PySem.W.mg_none_of X G z_int
      z_isinstance := PySem.W.mg_none_of X G z_isinstance
      z_len := PySem.W.mg_none_of X G z_len
      z_list := PySem.W.mg_none_of X G z_list
      z_max := PySem.W.mg_none_of X G z_max
      z_min := PySem.W.mg_none_of X G z_min
      z_range := PySem.W.mg_none_of X G z_range
      z_repr := PySem.W.mg_none_of X G z_repr
      z_str := PySem.W.mg_none_of X G z_str
      z_super := PySem.W.mg_none_of X G z_super
      z_tuple := PySem.W.mg_none_of X G z_tuple
      c_MOST_PIECES := fun _ => glob_int (PySem.W.mg_of X G v_MOST_PIECES)
      c_MOST_OHMS := fun _ => glob_int (PySem.W.mg_of X G v_MOST_OHMS)
      c_WORDS := fun _ => glob_tup (PySem.W.mg_of X G v_WORDS) ⟨_, _, _, w_WORDS, rfl, rfl, (by have := r_WORDS.length; rw [← Array.length_toList, ← this]; decide), r_WORDS⟩ (fun _ => ⟨_, _, rfl, rfl, ⟨_, _, rfl, rfl, rfl⟩⟩)
      c_NOTHING := fun _ => glob_tup (PySem.W.mg_of X G v_NOTHING) ⟨_, _, _, w_NOTHING, rfl, rfl, (by have := r_NOTHING.length; rw [← Array.length_toList, ← this]; decide), r_NOTHING⟩ (fun _ => ⟨_, _, rfl, rfl, ⟨_, _, rfl, rfl, ⟨_, _, rfl, rfl, ⟨_, _, rfl, rfl, rfl⟩⟩⟩⟩)
      c_MOST_SECTIONS := fun _ => glob_int (PySem.W.mg_of X G v_MOST_SECTIONS)
      c_OPEN := fun _ => glob_tup (PySem.W.mg_of X G v_OPEN) ⟨_, _, _, w_OPEN, rfl, rfl, (by have := r_OPEN.length; rw [← Array.length_toList, ← this]; decide), r_OPEN⟩ (fun _ => ⟨_, _, rfl, rfl, ⟨_, _, rfl, rfl, rfl⟩⟩)
      c_GREATEST := fun _ => glob_int (PySem.W.mg_of X G v_GREATEST)
      c_DIGITS := fun _ => glob_str (PySem.W.mg_of X G v_DIGITS)
      c_MOST_DIGITS := fun _ => glob_int (PySem.W.mg_of X G v_MOST_DIGITS)
      c_MOST_JOINED := fun _ => glob_int (PySem.W.mg_of X G v_MOST_JOINED)
      isa := fun _ Y hY => by
        subst hY
        refine ⟨fun c hc => ?_, ihn, iht, fun c c' b hb => ?_, fun c t hc => ?_, fun t c hc => ?_⟩
        · have hc := of_decide_eq_true hc
          simp only [List.mem_cons, List.mem_nil_iff, or_false] at hc
          rcases hc with rfl | rfl | rfl
          · exact ⟨⟨pgC0, hdC0, poC0, saC0⟩, ccC0, moC0⟩
          · exact ⟨⟨pgC1, hdC1, poC1, saC1⟩, ccC1, moC1⟩
          · exact ⟨⟨pgC5, hdC5, poC5, saC5⟩, ccC5, moC5⟩
        · split at hb
          · next hh =>
            obtain ⟨h1, h2⟩ := hh
            simp only [List.mem_cons, List.mem_nil_iff, or_false] at h1 h2
            rcases h1 with rfl | rfl | rfl <;> rcases h2 with rfl | rfl <;> cases hb
            · exact Ev.kit_cc ic0 ty0 kk0_0 kk0_0
            · exact Ev.kit_cc ic1 ty1 kk0_1 kk1_1
            · exact Ev.kit_cc ic0 ty0 kk1_0 kk0_0
            · exact Ev.kit_cc ic1 ty1 kk1_1 kk1_1
            · exact Ev.kit_cc ic0 ty0 kk5_0 kk0_0
            · exact Ev.kit_cc ic1 ty1 kk5_1 kk1_1
          · cases hb
        · have hc := of_decide_eq_true hc
          simp only [List.mem_cons, List.mem_nil_iff, or_false] at hc
          rcases hc with rfl | rfl | rfl <;> cases t
          · exact Ev.kit_ct (by decide +kernel) ct0_none_
          · exact Ev.kit_ct (by decide +kernel) ct0_bool
          · exact Ev.kit_ct (by decide +kernel) ct0_int
          · exact Ev.kit_ct (by decide +kernel) ct0_str
          · exact Ev.kit_ct (by decide +kernel) ct0_tuple
          · exact Ev.kit_ct (by decide +kernel) ct0_list
          · exact Ev.kit_ct (by decide +kernel) ct0_dict
          · exact Ev.kit_ct (by decide +kernel) ct1_none_
          · exact Ev.kit_ct (by decide +kernel) ct1_bool
          · exact Ev.kit_ct (by decide +kernel) ct1_int
          · exact Ev.kit_ct (by decide +kernel) ct1_str
          · exact Ev.kit_ct (by decide +kernel) ct1_tuple
          · exact Ev.kit_ct (by decide +kernel) ct1_list
          · exact Ev.kit_ct (by decide +kernel) ct1_dict
          · exact Ev.kit_ct (by decide +kernel) ct5_none_
          · exact Ev.kit_ct (by decide +kernel) ct5_bool
          · exact Ev.kit_ct (by decide +kernel) ct5_int
          · exact Ev.kit_ct (by decide +kernel) ct5_str
          · exact Ev.kit_ct (by decide +kernel) ct5_tuple
          · exact Ev.kit_ct (by decide +kernel) ct5_list
          · exact Ev.kit_ct (by decide +kernel) ct5_dict
        · have hc := of_decide_eq_true hc
          simp only [List.mem_cons, List.mem_nil_iff, or_false] at hc
          rcases hc with rfl | rfl | rfl <;> cases t
          · exact Ev.kit_cc ic0 ty0 tc0_none_ kk0_0
          · exact Ev.kit_cc ic0 ty0 tc0_bool kk0_0
          · exact Ev.kit_cc ic0 ty0 tc0_int kk0_0
          · exact Ev.kit_cc ic0 ty0 tc0_str kk0_0
          · exact Ev.kit_cc ic0 ty0 tc0_tuple kk0_0
          · exact Ev.kit_cc ic0 ty0 tc0_list kk0_0
          · exact Ev.kit_cc ic0 ty0 tc0_dict kk0_0
          · exact Ev.kit_cc ic1 ty1 tc1_none_ kk1_1
          · exact Ev.kit_cc ic1 ty1 tc1_bool kk1_1
          · exact Ev.kit_cc ic1 ty1 tc1_int kk1_1
          · exact Ev.kit_cc ic1 ty1 tc1_str kk1_1
          · exact Ev.kit_cc ic1 ty1 tc1_tuple kk1_1
          · exact Ev.kit_cc ic1 ty1 tc1_list kk1_1
          · exact Ev.kit_cc ic1 ty1 tc1_dict kk1_1
          · exact Ev.kit_cc ic5 ty5 tc5_none_ kk5_5
          · exact Ev.kit_cc ic5 ty5 tc5_bool kk5_5
          · exact Ev.kit_cc ic5 ty5 tc5_int kk5_5
          · exact Ev.kit_cc ic5 ty5 tc5_str kk5_5
          · exact Ev.kit_cc ic5 ty5 tc5_tuple kk5_5
          · exact Ev.kit_cc ic5 ty5 tc5_list kk5_5
          · exact Ev.kit_cc ic5 ty5 tc5_dict kk5_5 }
  exact ok_law T
end K15
def PySem.W.Fast.tw1061256716848984065 : Nat := 0
def PySem.W.Fast.tw15905189946865260865 : Nat := 0
def PySem.W.Fast.tw5464128806626139142 : Nat := 0
def PySem.W.Fast.tw18015183704884302182 : Nat := 0
def PySem.W.Fast.tw3463928471934758375 : Nat := 0
def PySem.W.Fast.tw18087789323866123242 : Nat := 0
def PySem.W.Fast.tw1435158190173081996 : Nat := 0
def PySem.W.Fast.tw11982655738918996460 : Nat := 0
def PySem.W.Fast.tw3599661879742768461 : Nat := 0
def PySem.W.Fast.tw11602737443607232559 : Nat := 0
def PySem.W.Fast.tw6467303423038319120 : Nat := 0
def PySem.W.Fast.tw3734337685363298929 : Nat := 0
def PySem.W.Fast.tw11448028680895770963 : Nat := 0
def PySem.W.Fast.tw6445103308898325267 : Nat := 0
def PySem.W.Fast.tw463578502948423028 : Nat := 0
def PySem.W.Fast.tw12931519743185479253 : Nat := 0
def PySem.W.Fast.tw12650251212517693847 : Nat := 0
def PySem.W.Fast.tw2791496548984110075 : Nat := 0
def PySem.W.Fast.tw10597604705648826749 : Nat := 0
def PySem.W.Fast.tw6786523538114769630 : Nat := 0
def PySem.W.Fast.tw14026131497132149630 : Nat := 0
def PySem.W.Fast.tw512034272700506207 : Nat := 0
open PySem PySem.W PyProof.Rows
set_option maxHeartbeats 0 in
theorem PySem.Challenge.cw_rungladders_k15_whole_ladders_section_by_holds : PySem.Challenge.rw_rungladders_k15_whole_ladders_section_by.Holds := by
  w_on; o_law; k_head; (case hw => w_witness2)
  k_fill
  refine Ev.end_walk (l := PySem.Challenge.rw_rungladders_k15_whole_ladders_section_by) (n := 63) (k := 20) rfl (by decide) rfl ⟨rfl, by decide, by decide⟩ (fun w h Y => PySem.W.kIn_of Y) ?F K15.law_true
  case F =>
    intro w mg fa h KX G hmg
    refine' K15.all_mk KX G hmg ?nC0 ?pgC0 ?hdC0 ?poC0 ?saC0 ?ccC0 ?moC0 ?naC0_told ?nC1 ?pgC1 ?hdC1 ?poC1 ?saC1 ?ccC1 ?moC1 ?naC1_row ?naC1_chain ?naC1_scale ?nC5 ?pgC5 ?hdC5 ?poC5 ?saC5 ?ccC5 ?moC5 ?naC5_first ?naC5_pattern ?a0 ?a1 ?a2 ?a3 ?a4 ?a5 ?a7 ?a8 ?a9 ?a10 ?a11 ?a12 ?a13 ?a16 ?a17 ?a18 ?a19 ?a20 ?a22 ?a26 ?a27 ?a28 ?a29 ?a30 ?a31 ?a32 ?a34 ?a36 ?a37 ?a38 ?a39 ?a40 ?a41 ?a42 ?a45 ?a46 ?a50 ?a51 ?a52 ?a6_1 ?mkC1 ?kpC1 ?i6 ?a23_5 ?mkC5 ?kpC5 ?i23 ?a33_0 ?mkC0 ?kpC0 ?i33 ?a14_5 ?i14 ?k14 ?a15_5 ?i15 ?x15 ?a24_5 ?i24 ?k24 ?a25_5 ?i25 ?k25 ?a43_5 ?b43_5 ?d43_5 ?e43_5 ?a44_5 ?b44_5 ?d44_5 ?e44_5 ?a47_1 ?i47 ?foC1 ?a48_1 ?b48_1 ?d48_1 ?e48_1 ?a49_1 ?i49 ?neC1 ?t35 ?b35 ?d35 ?a35 ?e35 ?l0 ?c0 ?k0 ?l1 ?c1 ?k1 ?l2 ?c2 ?k2 ?l3 ?c3 ?k3 ?l4 ?c4 ?k4 ?l5 ?c5 ?k5 ?l6 ?c6 ?k6 ?l7 ?c7 ?k7 ?l8 ?c8 ?k8 ?l9 ?c9 ?k9 ?l10 ?c10 ?k10 ?l11 ?c11 ?k11 ?l12 ?c12 ?k12 ?l13 ?c13 ?k13 ?l14 ?c14 ?l15 ?c15 ?k15 ?l16 ?c16 ?k16 ?l17 ?c17 ?k17 ?l18 ?c18 ?k18 ?l19 ?c19 ?k19 ?l20 ?c20 ?k20 ?l21 ?c21 ?k21 ?l22 ?c22 ?k22 ?l23 ?c23 ?k23 ?la23 ?lb23 ?lc23 ?ld23 ?le23 ?lf23 ?lg23 ?lh23 ?li23 ?tpa ?tsn ?l24 ?c24 ?l25 ?c25 ?l26 ?c26 ?k26 ?l27 ?c27 ?k27 ?l28 ?c28 ?k28 ?l29 ?c29 ?k29 ?l30 ?c30 ?k30 ?l31 ?c31 ?k31 ?l32 ?c32 ?k32 ?l33 ?c33 ?k33 ?l34 ?c34 ?k34 ?l35 ?c35 ?k35 ?l36 ?c36 ?k36 ?l37 ?c37 ?k37 ?l38 ?c38 ?k38 ?l39 ?c39 ?k39 ?l40 ?c40 ?k40 ?l41 ?c41 ?k41 ?l42 ?c42 ?k42 ?l43 ?c43 ?k43 ?l44 ?c44 ?k44 ?l45 ?c45 ?k45 ?l46 ?c46 ?k46 ?l47 ?c47 ?k47 ?l48 ?c48 ?k48 ?l49 ?c49 ?k49 ?l50 ?c50 ?k50 ?l51 ?c51 ?k51 ?l52 ?c52 ?k52 ?z_NotImplemented ?z_abs ?z_all ?z_any ?z_bool ?z_divmod ?z_enumerate ?z_int ?z_isinstance ?z_len ?z_list ?z_max ?z_min ?z_range ?z_repr ?z_str ?z_super ?z_tuple ?v_MOST_PIECES ?v_MOST_OHMS ?v_WORDS ?w_WORDS ?r_WORDS ?v_NOTHING ?w_NOTHING ?r_NOTHING ?v_MOST_SECTIONS ?v_OPEN ?w_OPEN ?r_OPEN ?v_GREATEST ?v_DIGITS ?v_MOST_DIGITS ?v_MOST_JOINED ?ihn ?iht ?ic0 ?ty0 ?kk0_0 ?kk0_1 ?ct0_none_ ?tc0_none_ ?ct0_bool ?tc0_bool ?ct0_int ?tc0_int ?ct0_str ?tc0_str ?ct0_tuple ?tc0_tuple ?ct0_list ?tc0_list ?ct0_dict ?tc0_dict ?ic1 ?ty1 ?kk1_1 ?kk1_0 ?ct1_none_ ?tc1_none_ ?ct1_bool ?tc1_bool ?ct1_int ?tc1_int ?ct1_str ?tc1_str ?ct1_tuple ?tc1_tuple ?ct1_list ?tc1_list ?ct1_dict ?tc1_dict ?ic5 ?ty5 ?kk5_5 ?kk5_0 ?kk5_1 ?ct5_none_ ?tc5_none_ ?ct5_bool ?tc5_bool ?ct5_int ?tc5_int ?ct5_str ?tc5_str ?ct5_tuple ?tc5_tuple ?ct5_list ?tc5_list ?ct5_dict ?tc5_dict
    (case nC0 => k_is); (case nC1 => k_is); (case nC5 => k_is); (case lg23 => ks_is); (case pgC0 => k_is); (case hdC0 => k_is)
    (case poC0 => k_is); (case saC0 => k_is); (case ccC0 => k_is); (case moC0 => k_is); (case naC0_told => k_is); (case pgC1 => k_is)
    (case hdC1 => k_is); (case poC1 => k_is); (case saC1 => k_is); (case ccC1 => k_is); (case moC1 => k_is); (case naC1_row => k_is)
    (case naC1_chain => k_is); (case naC1_scale => k_is); (case pgC5 => k_is); (case hdC5 => k_is); (case poC5 => k_is); (case saC5 => k_is)
    (case ccC5 => k_is); (case moC5 => k_is); (case naC5_first => k_is); (case naC5_pattern => k_is); (case a0 => k_is); (case a1 => k_is)
    (case a2 => k_is); (case a3 => k_is); (case a4 => k_is); (case a5 => k_is); (case a7 => k_is); (case a8 => k_is)
    (case a9 => k_is); (case a10 => k_is); (case a11 => k_is); (case a12 => k_is); (case a13 => k_is); (case a16 => k_is)
    (case a17 => k_is); (case a18 => k_is); (case a19 => k_is); (case a20 => k_is); (case a22 => k_is); (case a26 => k_is)
    (case a27 => k_is); (case a28 => k_is); (case a29 => k_is); (case a30 => k_is); (case a31 => k_is); (case a32 => k_is)
    (case a34 => k_is); (case a36 => k_is); (case a37 => k_is); (case a38 => k_is); (case a39 => k_is); (case a40 => k_is)
    (case a41 => k_is); (case a42 => k_is); (case a45 => k_is); (case a46 => k_is); (case a50 => k_is); (case a51 => k_is)
    (case a52 => k_is); (case a6_1 => k_is); (case mkC1 => k_is); (case kpC1 => k_is); (case i6 => k_is); (case a23_5 => k_is)
    (case mkC5 => k_is); (case kpC5 => k_is); (case i23 => k_is); (case a33_0 => k_is); (case mkC0 => k_is); (case kpC0 => k_is)
    (case i33 => k_is); (case a14_5 => k_is); (case i14 => k_is); (case k14 => k_is); (case a15_5 => k_is); (case i15 => k_is)
    (case x15 => k_is); (case a24_5 => k_is); (case i24 => k_is); (case k24 => k_is); (case a25_5 => k_is); (case i25 => k_is)
    (case k25 => k_is); (case a43_5 => k_is); (case b43_5 => k_is); (case d43_5 => k_is); (case e43_5 => k_is); (case a44_5 => k_is)
    (case b44_5 => k_is); (case d44_5 => k_is); (case e44_5 => k_is); (case a47_1 => k_is); (case i47 => k_is); (case foC1 => k_is)
    (case a48_1 => k_is); (case b48_1 => k_is); (case d48_1 => k_is); (case e48_1 => k_is); (case a49_1 => k_is); (case i49 => k_is)
    (case neC1 => k_is); (case t35 => k_is); (case b35 => k_is); (case d35 => k_is); (case a35 => k_is); (case e35 => k_is)
    (case l0 => k_is); (case c0 => k_is); (case k0 => k_is); (case l1 => k_is); (case c1 => k_is); (case k1 => k_is)
    (case l2 => k_is); (case c2 => k_is); (case k2 => k_is); (case l3 => k_is); (case c3 => k_is); (case k3 => k_is)
    (case l4 => k_is); (case c4 => k_is); (case k4 => k_is); (case l5 => k_is); (case c5 => k_is); (case k5 => k_is)
    (case l6 => k_is); (case c6 => k_is); (case k6 => k_is); (case l7 => k_is); (case c7 => k_is); (case k7 => k_is)
    (case l8 => k_is); (case c8 => k_is); (case k8 => k_is); (case l9 => k_is); (case c9 => k_is); (case k9 => k_is)
    (case l10 => k_is); (case c10 => k_is); (case k10 => k_is); (case l11 => k_is); (case c11 => k_is); (case k11 => k_is)
    (case l12 => k_is); (case c12 => k_is); (case k12 => k_is); (case l13 => k_is); (case c13 => k_is); (case k13 => k_is)
    (case l14 => k_is); (case c14 => k_is); (case l15 => k_is); (case c15 => k_is); (case k15 => k_is); (case l16 => k_is)
    (case c16 => k_is); (case k16 => k_is); (case l17 => k_is); (case c17 => k_is); (case k17 => k_is); (case l18 => k_is)
    (case c18 => k_is); (case k18 => k_is); (case l19 => k_is); (case c19 => k_is); (case k19 => k_is); (case l20 => k_is)
    (case c20 => k_is); (case k20 => k_is); (case l21 => k_is); (case c21 => k_is); (case k21 => k_is); (case l22 => k_is)
    (case c22 => k_is); (case k22 => k_is); (case l23 => k_is); (case c23 => k_is); (case k23 => k_is); (case la23 => k_is)
    (case lb23 => k_is); (case lc23 => first | rfl | k_is | decide +kernel); (case ld23 => first | rfl | decide +kernel | k_is); (case le23 => k_is); (case lf23 => k_is); (case lh23 => k_is)
    (case li23 => k_is); (case tpa => k_is); (case tsn => first | rfl | decide +kernel); (case l24 => k_is); (case c24 => k_is); (case l25 => k_is)
    (case c25 => k_is); (case l26 => k_is); (case c26 => k_is); (case k26 => k_is); (case l27 => k_is); (case c27 => k_is)
    (case k27 => k_is); (case l28 => k_is); (case c28 => k_is); (case k28 => k_is); (case l29 => k_is); (case c29 => k_is)
    (case k29 => k_is); (case l30 => k_is); (case c30 => k_is); (case k30 => k_is); (case l31 => k_is); (case c31 => k_is)
    (case k31 => k_is); (case l32 => k_is); (case c32 => k_is); (case k32 => k_is); (case l33 => k_is); (case c33 => k_is)
    (case k33 => k_is); (case l34 => k_is); (case c34 => k_is); (case k34 => k_is); (case l35 => k_is); (case c35 => k_is)
    (case k35 => k_is); (case l36 => k_is); (case c36 => k_is); (case k36 => k_is); (case l37 => k_is); (case c37 => k_is)
    (case k37 => k_is); (case l38 => k_is); (case c38 => k_is); (case k38 => k_is); (case l39 => k_is); (case c39 => k_is)
    (case k39 => k_is); (case l40 => k_is); (case c40 => k_is); (case k40 => k_is); (case l41 => k_is); (case c41 => k_is)
    (case k41 => k_is); (case l42 => k_is); (case c42 => k_is); (case k42 => k_is); (case l43 => k_is); (case c43 => k_is)
    (case k43 => k_is); (case l44 => k_is); (case c44 => k_is); (case k44 => k_is); (case l45 => k_is); (case c45 => k_is)
    (case k45 => k_is); (case l46 => k_is); (case c46 => k_is); (case k46 => k_is); (case l47 => k_is); (case c47 => k_is)
    (case k47 => k_is); (case l48 => k_is); (case c48 => k_is); (case k48 => k_is); (case l49 => k_is); (case c49 => k_is)
    (case k49 => k_is); (case l50 => k_is); (case c50 => k_is); (case k50 => k_is); (case l51 => k_is); (case c51 => k_is)
    (case k51 => k_is); (case l52 => k_is); (case c52 => k_is); (case k52 => k_is); (case z_NotImplemented => k_is); (case z_abs => k_is)
    (case z_all => k_is); (case z_any => k_is); (case z_bool => k_is); (case z_divmod => k_is); (case z_enumerate => k_is); (case z_int => k_is)
    (case z_isinstance => k_is); (case z_len => k_is); (case z_list => k_is); (case z_max => k_is); (case z_min => k_is); (case z_range => k_is)
    (case z_repr => k_is); (case z_str => k_is); (case z_super => k_is); (case z_tuple => k_is); (case v_MOST_PIECES => k_is); (case v_MOST_OHMS => k_is)
    (case v_WORDS => k_is); (case w_WORDS => k_is); (case r_WORDS => repeat first | exact .nil | refine .cons ⟨_, rfl⟩ ?_); (case v_NOTHING => k_is); (case w_NOTHING => k_is); (case r_NOTHING => repeat first | exact .nil | refine .cons ⟨_, rfl⟩ ?_)
    (case v_MOST_SECTIONS => k_is); (case v_OPEN => k_is); (case w_OPEN => k_is); (case r_OPEN => repeat first | exact .nil | refine .cons ⟨_, rfl⟩ ?_); (case v_GREATEST => k_is); (case v_DIGITS => k_is)
    (case v_MOST_DIGITS => k_is); (case v_MOST_JOINED => k_is); (case ihn => k_is); (case iht => k_is); (case ic0 => k_is); (case ty0 => k_is)
    (case kk0_0 => k_is); (case kk0_1 => k_is); (case ct0_none_ => k_is); (case tc0_none_ => k_is); (case ct0_bool => k_is); (case tc0_bool => k_is)
    (case ct0_int => k_is); (case tc0_int => k_is); (case ct0_str => k_is); (case tc0_str => k_is); (case ct0_tuple => k_is); (case tc0_tuple => k_is)
    (case ct0_list => k_is); (case tc0_list => k_is); (case ct0_dict => k_is); (case tc0_dict => k_is); (case ic1 => k_is); (case ty1 => k_is)
    (case kk1_1 => k_is); (case kk1_0 => k_is); (case ct1_none_ => k_is); (case tc1_none_ => k_is); (case ct1_bool => k_is); (case tc1_bool => k_is)
    (case ct1_int => k_is); (case tc1_int => k_is); (case ct1_str => k_is); (case tc1_str => k_is); (case ct1_tuple => k_is); (case tc1_tuple => k_is)
    (case ct1_list => k_is); (case tc1_list => k_is); (case ct1_dict => k_is); (case tc1_dict => k_is); (case ic5 => k_is); (case ty5 => k_is)
    (case kk5_5 => k_is); (case kk5_0 => k_is); (case kk5_1 => k_is); (case ct5_none_ => k_is); (case tc5_none_ => k_is); (case ct5_bool => k_is)
    (case tc5_bool => k_is); (case ct5_int => k_is); (case tc5_int => k_is); (case ct5_str => k_is); (case tc5_str => k_is); (case ct5_tuple => k_is)
    (case tc5_tuple => k_is); (case ct5_list => k_is); (case tc5_list => k_is); (case ct5_dict => k_is); (case tc5_dict => k_is)
