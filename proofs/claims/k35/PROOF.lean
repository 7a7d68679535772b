import PyProof.Rows.All
import Wide.All
import OpenK.AllK
import Wide.FinOn
import HandS.Text
import HandS.Comp
import HandS.Iter
import HandS.Ends
import HandS.ExcOwn
import HandS.WideBits
import HandS.Wide
import HandS.TupAny
import HandS.TupMul
import HandS.Words
import HandS.Property
import HandS.TryOnly
import HandS.IsInst
import HandS.FStr
import HandS.RaiseMore
import PyProof.ReprRoads
import HandS.Deep
import HandS.Style
import HandS.Star
import HandS.ClsMeth
import HandS.SlotsOwn
import KE.GoesEnum
import HandS.EndBits
import PyProof.InstNe
import KE.KCallOwn
import KE.KFmtOwn
import HandS.Nested
import KE.KSuper
import HandS.Flt
import KE.DatumOrd
import HandS.More
import PyProof.NeKinds
import KE.RegKSuper
import PySem.Challenge.RW_rungladders_k35_whole_repetitions_are_th
set_option Elab.async false
set_option linter.all false
local macro_rules | `(tactic| leaf_len) => `(tactic| first | exact Or.inl rfl | exact Or.inr (Or.inl rfl) | exact Or.inr (Or.inr rfl))
local macro_rules | `(tactic| mem_news) => `(tactic| first | exact Or.inl rfl | exact Or.inr rfl)
set_option maxRecDepth 100000
namespace Ev
open PySem L2
inductive TyN where
  | none_ | bool | int | str | tuple | list | dict
  deriving DecidableEq
def TyN.name : TyN → String
  | .none_ => "NoneType" | .bool => "bool" | .int => "int" | .str => "str" | .tuple => "tuple" | .list => "list" | .dict => "dict"
inductive D where
  | non | bl (b : Bool) | int (i : Int) | str (x : Str)
  | tup (ds : List D) | lst (ds : List D) | scr (ds : List D)
  | dct (ks : List Key) (ds : List D)
  | ins (c : Nat) (ds : List D)
  | ref (n : Nat)
  | ty (t : TyN) | cls (c : Nat)
  deriving Inhabited
inductive Ob where
  | lst (ds : List D) | dct (ks : List Key) (ds : List D) | ins (c : Nat) (ds : List D)
  deriving Inhabited
structure Exn where
  cls : Nat
  arg : Option D
  deriving Inhabited
structure Sg where
  K : PySem.W.Frag
  ca : Nat → Addr
  fn : Nat → List Str
  xc : Nat → Value
  xf : Nat → Str
structure Wd where
  m : List Addr
  F : Addr → Prop
  H : Hp
  x : Option Addr := none
def RdF (w : Wd) (a : Addr) (o : HO) : Prop := w.F a ∧ Rd w.H a o
def KTup (K : PySem.W.Frag) (a : Addr) (xs : List V) : Prop := ∃ (o : Obj) (its : Array Value) (n : Nat), K.lookup a = some o ∧ o.cls = .type "tuple" ∧ o.data = .seq its n ∧ its.size ≤ sizeLine ∧ Vals xs its.toList
def KLst (K : PySem.W.Frag) (a : Addr) (xs : List V) : Prop := ∃ (o : Obj) (its : Array Value) (n : Nat), K.lookup a = some o ∧ o.cls = .type "list" ∧ o.dict = none ∧ o.data = .seq its n ∧ its.size ≤ sizeLine ∧ Vals xs its.toList
mutual
def RepV (G : Sg) (w : Wd) : D → V → Prop
  | .non, v => v = .non
  | .bl b, v => v = .bl b
  | .int i, v => v = .int i
  | .str x, v => v = .str x
  | .tup ds, v => ∃ a vs, v = .ref a ∧ (RdF w a (.tup vs) ∨ KTup G.K a vs) ∧ RepVs G w ds vs
  | .lst ds, v => ∃ a vs, v = .ref a ∧ w.F a ∧ w.H a = some (.lst vs) ∧ RepVs G w ds vs
  | .scr ds, v => ∃ a vs, v = .ref a ∧ (RdF w a (.lst vs) ∨ KLst G.K a vs) ∧ RepVs G w ds vs
  | .dct ks ds, v => ∃ a vs, v = .ref a ∧ w.F a ∧ w.H a = some (.dK (ks.zip vs)) ∧ ks.length = vs.length ∧ RepVs G w ds vs
  | .ins c ds, v => ∃ a dx vs, v = .ref a ∧ w.F a ∧ w.H a = some (.ins (G.ca c) dx ((G.fn c).zip vs)) ∧ vs.length ≤ (G.fn c).length ∧ RepVs G w ds vs
  | .ref n, v => ∃ a, v = .ref a ∧ w.m[n]? = some a
  | .ty t, v => v = .ty t.name
  | .cls c, v => v = .ref (G.ca c)
def RepVs (G : Sg) (w : Wd) : List D → List V → Prop
  | [], vs => vs = []
  | d :: ds, vs => ∃ v r, vs = v :: r ∧ RepV G w d v ∧ RepVs G w ds r
end
def RepO (G : Sg) (w : Wd) (a : Addr) : Ob → Prop
  | .lst ds => ∃ vs, w.H a = some (.lst vs) ∧ RepVs G w ds vs
  | .dct ks ds => ∃ vs, w.H a = some (.dK (ks.zip vs)) ∧ ks.length = vs.length ∧ RepVs G w ds vs
  | .ins c ds => ∃ dx vs, w.H a = some (.ins (G.ca c) dx ((G.fn c).zip vs)) ∧ vs.length ≤ (G.fn c).length ∧ RepVs G w ds vs
def RepX (G : Sg) (w : Wd) (e : Exn) (cls : Value) (x : Option Addr) : Prop :=
  cls = G.xc e.cls ∧ match e.arg with
    | none => True
    | some d => ∃ a v, x = some a ∧ w.F a ∧ w.H a = some (.xd [(G.xf e.cls, v)]) ∧ RepV G w d v
structure Ext (w w' : Wd) : Prop where
  m : ∃ r, w'.m = w.m ++ r
  F : ∀ a, w.F a → w'.F a
  H : ∀ b o, b ∉ w.m → w.H b = some o → w'.H b = some o
  nm : ∀ b, b ∈ w'.m → b ∈ w.m ∨ w.H b = none
  nF : ∀ b, w'.F b → w.F b ∨ w.H b = none
  al : ∀ b, w'.H b = none → w.H b = none
theorem Ext.refl (w : Wd) : Ext w w := ⟨⟨[], by simp⟩, fun _ h => h, fun _ _ _ h => h, fun _ h => .inl h, fun _ h => .inl h, fun _ h => h⟩
theorem Ext.trans {w w1 w2 : Wd} (a : Ext w w1) (b : Ext w1 w2) : Ext w w2 := by
  obtain ⟨r, er⟩ := a.m
  obtain ⟨r', er'⟩ := b.m
  refine ⟨⟨r ++ r', by rw [er', er, List.append_assoc]⟩, fun x h => b.F x (a.F x h), fun x o hm h => b.H x o (fun z => ?_) (a.H x o hm h), fun x h => ?_, fun x h => ?_, fun x h => a.al x (b.al x h)⟩
  · rcases a.nm x z with z | z
    · exact hm z
    · rw [h] at z; cases z
  · rcases b.nm x h with z | z
    · exact a.nm x z
    · exact .inr (a.al x z)
  · rcases b.nF x h with z | z
    · exact a.nF x z
    · exact .inr (a.al x z)
structure Stay (w w' : Wd) : Prop where
  m : ∃ r, w'.m = w.m ++ r
  F : ∀ a, w.F a → w'.F a
  H : ∀ a o, w.F a → w.H a = some o → w'.H a = some o
theorem Stay.refl (w : Wd) : Stay w w := ⟨⟨[], by simp⟩, fun _ h => h, fun _ _ _ h => h⟩
theorem Stay.trans {w w1 w2 : Wd} (a : Stay w w1) (b : Stay w1 w2) : Stay w w2 := by
  obtain ⟨r, er⟩ := a.m
  obtain ⟨r', er'⟩ := b.m
  exact ⟨⟨r ++ r', by rw [er', er, List.append_assoc]⟩, fun x h => b.F x (a.F x h), fun x o f h => b.H x o (a.F x f) (a.H x o f h)⟩
theorem Ext.stay {w w' : Wd} (e : Ext w w') (dj : ∀ a, w.F a → a ∉ w.m) : Stay w w' := ⟨e.m, e.F, fun a o f h => e.H a o (dj a f) h⟩
section
variable {G : Sg} {w w' : Wd}
theorem RdF.stay (e : Stay w w') {a : Addr} {o : HO} (h : RdF w a o) : RdF w' a o := by
  obtain ⟨f, h⟩ := h
  refine ⟨e.F a f, ?_⟩
  rcases h with h | ⟨u, h⟩
  · exact .inl (e.H a _ f h)
  · exact .inr ⟨u, e.H a _ f h⟩
mutual
theorem RepV.stay (e : Stay w w') : ∀ (d : D) (v : V), RepV G w d v → RepV G w' d v
  | .non, _, h => h
  | .bl _, _, h => h
  | .int _, _, h => h
  | .str _, _, h => h
  | .tup ds, _, h => by
    obtain ⟨a, vs, e1, h1, h2⟩ := h
    exact ⟨a, vs, e1, h1.imp (fun z => z.stay e) id, RepVs.stay e ds vs h2⟩
  | .lst ds, _, h => by
    obtain ⟨a, vs, e1, f, h1, h2⟩ := h
    exact ⟨a, vs, e1, e.F a f, e.H a _ f h1, RepVs.stay e ds vs h2⟩
  | .scr ds, _, h => by
    obtain ⟨a, vs, e1, h1, h2⟩ := h
    exact ⟨a, vs, e1, h1.imp (fun z => z.stay e) id, RepVs.stay e ds vs h2⟩
  | .dct ks ds, _, h => by
    obtain ⟨a, vs, e1, f, h1, h2, h3⟩ := h
    exact ⟨a, vs, e1, e.F a f, e.H a _ f h1, h2, RepVs.stay e ds vs h3⟩
  | .ins c ds, _, h => by
    obtain ⟨a, dx, vs, e1, f, h1, h2, h3⟩ := h
    exact ⟨a, dx, vs, e1, e.F a f, e.H a _ f h1, h2, RepVs.stay e ds vs h3⟩
  | .ref n, _, h => by
    obtain ⟨a, e1, h1⟩ := h
    obtain ⟨r, er⟩ := e.m
    refine ⟨a, e1, ?_⟩
    rw [er, List.getElem?_append_left (List.getElem?_eq_some_iff.mp h1).1]
    exact h1
  | .ty _, _, h => h
  | .cls _, _, h => h
theorem RepVs.stay (e : Stay w w') : ∀ (ds : List D) (vs : List V), RepVs G w ds vs → RepVs G w' ds vs
  | [], _, h => h
  | d :: ds, _, h => by
    obtain ⟨v, r, e1, h1, h2⟩ := h
    exact ⟨v, r, e1, RepV.stay e d v h1, RepVs.stay e ds r h2⟩
end
theorem RepV.mono (e : Ext w w') (dj : ∀ a, w.F a → a ∉ w.m) (d : D) (v : V) : RepV G w d v → RepV G w' d v := RepV.stay (e.stay dj) d v
theorem RepVs.mono (e : Ext w w') (dj : ∀ a, w.F a → a ∉ w.m) (ds : List D) (vs : List V) : RepVs G w ds vs → RepVs G w' ds vs := RepVs.stay (e.stay dj) ds vs
theorem RepO.mono (e : Ext w w') (dj : ∀ a, w.F a → a ∉ w.m) {a : Addr} (ha : a ∉ w.m) : ∀ (o : Ob), RepO G w a o → RepO G w' a o
  | .lst ds, ⟨vs, h1, h2⟩ => ⟨vs, e.H a _ ha h1, RepVs.mono e dj _ _ h2⟩
  | .dct ks ds, ⟨vs, h1, h2, h3⟩ => ⟨vs, e.H a _ ha h1, h2, RepVs.mono e dj _ _ h3⟩
  | .ins c ds, ⟨dx, vs, h1, h2, h3⟩ => ⟨dx, vs, e.H a _ ha h1, h2, RepVs.mono e dj _ _ h3⟩
theorem RepVs.length : ∀ {ds : List D} {vs : List V}, RepVs G w ds vs → ds.length = vs.length
  | [], _, h => by cases (show _ = _ from h); rfl
  | _ :: ds, _, ⟨_, _, e, _, h⟩ => by rw [e, List.length_cons, List.length_cons, RepVs.length h]
theorem RepVs.get : ∀ {ds : List D} {vs : List V} {i : Nat} {d : D}, RepVs G w ds vs → ds[i]? = some d → ∃ v, vs[i]? = some v ∧ RepV G w d v
  | [], _, _, _, _, e => by simp at e
  | d :: ds, _, 0, _, ⟨v, r, e, h, _⟩, q => by
    subst e
    simp at q
    subst q
    exact ⟨v, rfl, h⟩
  | _ :: ds, _, i + 1, _, ⟨v, r, e, _, h⟩, q => by
    subst e
    simpa using RepVs.get (i := i) h (by simpa using q)
theorem RepVs.append : ∀ {ds es : List D} {vs us : List V}, RepVs G w ds vs → RepVs G w es us → RepVs G w (ds ++ es) (vs ++ us)
  | [], _, _, _, h, q => by cases (show _ = _ from h); exact q
  | d :: ds, _, _, _, ⟨v, r, e, h, t⟩, q => by subst e; exact ⟨v, _, rfl, h, RepVs.append t q⟩
theorem RepVs.take : ∀ (n : Nat) {ds : List D} {vs : List V}, RepVs G w ds vs → RepVs G w (ds.take n) (vs.take n)
  | 0, _, _, _ => rfl
  | n + 1, [], _, h => by cases (show _ = _ from h); rfl
  | n + 1, d :: ds, _, ⟨v, r, e, h, t⟩ => by subst e; exact ⟨v, _, rfl, h, RepVs.take n t⟩
theorem RepVs.drop : ∀ (n : Nat) {ds : List D} {vs : List V}, RepVs G w ds vs → RepVs G w (ds.drop n) (vs.drop n)
  | 0, _, _, h => h
  | n + 1, [], _, h => by cases (show _ = _ from h); rfl
  | n + 1, d :: ds, _, ⟨v, r, e, h, t⟩ => by subst e; exact RepVs.drop n t
theorem RepVs.reverse : ∀ {ds : List D} {vs : List V}, RepVs G w ds vs → RepVs G w ds.reverse vs.reverse
  | [], _, h => by cases (show _ = _ from h); rfl
  | d :: ds, _, ⟨v, r, e, h, t⟩ => by
    subst e
    rw [List.reverse_cons, List.reverse_cons]
    exact RepVs.append (RepVs.reverse t) ⟨v, [], rfl, h, rfl⟩
theorem RepVs.set : ∀ (i : Nat) {ds : List D} {vs : List V} {d : D} {v : V}, RepVs G w ds vs → RepV G w d v → RepVs G w (ds.set i d) (vs.set i v)
  | _, [], _, _, _, h, _ => by cases (show _ = _ from h); rfl
  | 0, d :: ds, _, _, _, ⟨v, r, e, h, t⟩, q => by subst e; exact ⟨_, _, rfl, q, t⟩
  | i + 1, d :: ds, _, _, _, ⟨v, r, e, h, t⟩, q => by subst e; exact ⟨_, _, rfl, h, RepVs.set i t q⟩
theorem RepVs.one {d : D} {v : V} (h : RepV G w d v) : RepVs G w [d] [v] := ⟨v, [], rfl, h, rfl⟩
theorem RepVs.rep : ∀ (k : Nat) {ds : List D} {vs : List V}, RepVs G w ds vs → RepVs G w (List.replicate k ds).flatten (List.replicate k vs).flatten
  | 0, _, _, _ => rfl
  | k + 1, _, _, h => by
    rw [List.replicate_succ, List.replicate_succ, List.flatten_cons, List.flatten_cons]
    exact RepVs.append h (RepVs.rep k h)
end
structure RepS (G : Sg) (w : Wd) (S : List Ob) : Prop where
  len : w.m.length = S.length
  nd : w.m.Nodup
  dj : ∀ a, w.F a → a ∉ w.m
  fh : ∀ a, w.F a → w.H a ≠ none
  ob : ∀ (n : Nat) (a : Addr) (o : Ob), w.m[n]? = some a → S[n]? = some o → RepO G w a o
inductive SV where
  | no | val (d : D) | own (o : Ob)
  deriving Inhabited
structure R (G : Sg) (w0 w : Wd) (sd : List SV) (S : List Ob) (σ : St) : Prop where
  ex : Ext w0 w
  st : RepS G w S
  ln : σ.length = sd.length
  vl : ∀ (i : Nat) (d : D), sd[i]? = some (.val d) → ∃ v, σ[i]? = some (some v) ∧ RepV G w d v
  ow : ∀ (i : Nat) (o : Ob), sd[i]? = some (.own o) → ∃ a, σ[i]? = some (some (.ref a)) ∧ RepO G w a o ∧ ¬ w.F a ∧ a ∉ w.m ∧ w0.H a = none
  ap : ∀ (i j : Nat) (o o' : Ob) (a : Addr), sd[i]? = some (.own o) → sd[j]? = some (.own o') → σ[i]? = some (some (.ref a)) → σ[j]? = some (some (.ref a)) → i = j
  sf : ∀ a o, w0.x = some a → sd[0]? = some (.own o) → σ[0]? = some (some (.ref a))
theorem RepO.there {G : Sg} {w : Wd} {a : Addr} {o : Ob} (h : RepO G w a o) : w.H a ≠ none := by
  cases o with
  | lst ds => obtain ⟨_, e, _⟩ := h; rw [e]; exact fun z => nomatch z
  | dct ks ds => obtain ⟨_, e, _⟩ := h; rw [e]; exact fun z => nomatch z
  | ins c ds => obtain ⟨_, _, e, _⟩ := h; rw [e]; exact fun z => nomatch z
theorem R.step {G : Sg} {w0 w w1 : Wd} {sd : List SV} {S S1 : List Ob} {σ : St} (r : R G w0 w sd S σ) (e : Ext w w1) (s : RepS G w1 S1) : R G w0 w1 sd S1 σ := by
  refine ⟨r.ex.trans e, s, r.ln, fun i d h => ?_, fun i o h => ?_, r.ap, r.sf⟩
  · obtain ⟨v, h1, h2⟩ := r.vl i d h
    exact ⟨v, h1, RepV.mono e r.st.dj d v h2⟩
  · obtain ⟨a, h1, h2, h3, h4, h5⟩ := r.ow i o h
    refine ⟨a, h1, RepO.mono e r.st.dj h4 o h2, fun z => ?_, fun z => ?_, h5⟩
    · rcases e.nF a z with z | z
      · exact h3 z
      · exact h2.there z
    · rcases e.nm a z with z | z
      · exact h4 z
      · exact h2.there z
def M (α : Type) : Type := List Ob → Option (Except Exn α × List Ob)
namespace M
variable {α β γ : Type}
def pure (a : α) : M α := fun S => some (.ok a, S)
def err (e : Exn) : M α := fun S => some (.error e, S)
def stuck : M α := fun _ => none
def bind (f : M α) (k : α → M β) : M β := fun S => match f S with
  | none => none
  | some (.error e, S1) => some (.error e, S1)
  | some (.ok a, S1) => k a S1
theorem bind_pure (a : α) (k : α → M β) : bind (pure a) k = k a := rfl
theorem bind_err (e : Exn) (k : α → M β) : bind (err e) k = err e := rfl
theorem bind_stuck (k : α → M β) : bind (stuck : M α) k = stuck := rfl
theorem bind_assoc (f : M α) (k : α → M β) (l : β → M γ) : bind (bind f k) l = bind f fun a => bind (k a) l := by
  funext S
  unfold bind
  rcases f S with _ | ⟨_ | _, _⟩ <;> rfl
theorem bind_ite (c : Prop) [Decidable c] (f g : M α) (k : α → M β) : bind (if c then f else g) k = if c then bind f k else bind g k := by split <;> rfl
end M
def FinG {α β : Type} (G : Sg) (rep : Wd → α → β → Prop) (W : Value → Option Addr → Hp → Prop) (w : Wd) (Q : β → Hp → Prop) : Option (Except Exn α × List Ob) → Prop
  | none => False
  | some (.ok d, S) => ∀ w' v, Ext w w' → RepS G w' S → rep w' d v → Q v w'.H
  | some (.error e, S) => ∀ w' cls x, Ext w w' → RepS G w' S → RepX G w' e cls x → W cls x w'.H
section
variable {α β γ δ : Type} {G : Sg} {rep : Wd → α → β → Prop} {rep' : Wd → γ → δ → Prop} {W : Value → Option Addr → Hp → Prop} {w w1 : Wd} {Q : β → Hp → Prop} {Q' : δ → Hp → Prop}
theorem FinG.ext {r : Option (Except Exn α × List Ob)} (e : Ext w w1) (h : FinG G rep W w Q r) : FinG G rep W w1 Q r := by
  rcases r with _ | ⟨_ | _, _⟩
  · exact h
  · exact fun w' c x e' => h w' c x (e.trans e')
  · exact fun w' v e' => h w' v (e.trans e')
theorem fin_bind {f : M α} {k : α → M γ} {S : List Ob} (h : FinG G rep' W w Q' (M.bind f k S)) :
    FinG G rep W w (fun v H1 => ∃ w1 S1 d, w1.H = H1 ∧ Ext w w1 ∧ RepS G w1 S1 ∧ rep w1 d v ∧ FinG G rep' W w1 Q' (k d S1)) (f S) := by
  unfold M.bind at h
  rcases hf : f S with _ | ⟨_ | d, S1⟩
  · rw [hf] at h; exact h
  · rw [hf] at h; exact h
  · rw [hf] at h
    exact fun w' v e s r => ⟨w', S1, d, rfl, e, s, r, FinG.ext e h⟩
theorem fin_pure {a : α} {b : β} {S : List Ob} (h : FinG G rep W w Q (M.pure a S)) (s : RepS G w S) (r : rep w a b) : Q b w.H := h w b (Ext.refl w) s r
end
def teG {α β : Type} (G : Sg) (rep : Wd → α → β → Prop) (W : WX) (f : List SV → M α) : St → Hp → (β → Hp → Prop) → Prop := fun σ H Q =>
  ∃ w0 w sd S, w.H = H ∧ R G w0 w sd S σ ∧ FinG G rep (fun c x H => W c x σ H) w Q (f sd S)
def repB : Wd → Bool → Bool → Prop := fun _ a b => b = a
abbrev teV (G : Sg) (W : WX) (f : List SV → M D) : TE := teG G (RepV G) W f
abbrev teB (G : Sg) (W : WX) (f : List SV → M Bool) : TT := teG G repB W f
abbrev teA (G : Sg) (W : WX) (f : List SV → M (List D)) : TA := teG G (RepVs G) W f
abbrev PV (G : Sg) (X : Cx) (W : WX) (e : Expr) (f : List SV → M D) : Prop := PE X e (teV G W f)
abbrev PB (G : Sg) (X : Cx) (W : WX) (e : Expr) (f : List SV → M Bool) : Prop := PT X e (teB G W f)
abbrev PL (G : Sg) (X : Cx) (W : WX) (es : List Expr) (f : List SV → M (List D)) : Prop := PA X es (teA G W f)
theorem PE.imp {X : Cx} {e : Expr} {t t' : TE} (h : PE X e t) (i : ∀ σ H Q, t' σ H Q → t σ H Q) : PE X e t' := ⟨fun p s σ H Q I q => h.run p s σ H Q I (i σ H Q q)⟩
theorem PT.imp {X : Cx} {e : Expr} {t t' : TT} (h : PT X e t) (i : ∀ σ H Q, t' σ H Q → t σ H Q) : PT X e t' := ⟨fun p s σ H Q I q => h.run p s σ H Q I (i σ H Q q)⟩
theorem PW.imp {X : Cx} {e : Expr} {t t' : TT} (h : PW X e t) (i : ∀ σ H Q, t' σ H Q → t σ H Q) : PW X e t' := ⟨fun wh p s σ H Q I q => h.run wh p s σ H Q I (i σ H Q q)⟩
theorem PA.imp {X : Cx} {e : List Expr} {t t' : TA} (h : PA X e t) (i : ∀ σ H Q, t' σ H Q → t σ H Q) : PA X e t' := ⟨fun ps p s σ H Q I q => h.run ps p s σ H Q I (i σ H Q q)⟩
theorem PS.imp {X : Cx} {e : Stmt} {t t' : TS} (h : PS X e t) (i : ∀ D σ H, t' D σ H → t D σ H) : PS X e t' := ⟨fun p s σ H D I q => h.run p s σ H D I (i D σ H q)⟩
theorem PSs.imp {X : Cx} {e : List Stmt} {t t' : TS} (h : PSs X e t) (i : ∀ D σ H, t' D σ H → t D σ H) : PSs X e t' := ⟨fun p s σ H D I q => h.run p s σ H D I (i D σ H q)⟩
theorem PE.exP {X : Cx} {e : Expr} {ι : Type} {P : ι → Prop} {t : ι → TE} (h : ∀ i, P i → PE X e (t i)) : PE X e (fun σ H Q => ∃ i, P i ∧ t i σ H Q) := ⟨fun p s σ H Q I ⟨i, hi, q⟩ => (h i hi).run p s σ H Q I q⟩
theorem fin_step {α β γ δ : Type} {G : Sg} {rep : Wd → α → β → Prop} {rep' : Wd → γ → δ → Prop} {W : Value → Option Addr → Hp → Prop} {w : Wd} {Q : β → Hp → Prop} {Q' : δ → Hp → Prop} {f : M α} {k : α → M γ} {S : List Ob}
    (h : FinG G rep' W w Q' (M.bind f k S)) (c : ∀ w1 S1 d v, Ext w w1 → RepS G w1 S1 → rep w1 d v → FinG G rep' W w1 Q' (k d S1) → Q v w1.H) : FinG G rep W w Q (f S) := by
  unfold M.bind at h
  rcases hf : f S with _ | ⟨_ | d, S1⟩
  · rw [hf] at h; exact h
  · rw [hf] at h; exact h
  · rw [hf] at h
    exact fun w' v e s r => c w' S1 d v e s r (FinG.ext e h)
end Ev
set_option maxRecDepth 100000
set_option maxHeartbeats 2000000
namespace Ev
open PySem L2
theorem RepO.to {G : Sg} {w w' : Wd} {a : Addr} (h : w'.H a = w.H a) (e : Stay w w') : ∀ {o : Ob}, RepO G w a o → RepO G w' a o
  | .lst _, ⟨vs, h1, h2⟩ => ⟨vs, h.trans h1, RepVs.stay e _ _ h2⟩
  | .dct _ _, ⟨vs, h1, h2, h3⟩ => ⟨vs, h.trans h1, h2, RepVs.stay e _ _ h3⟩
  | .ins _ _, ⟨dx, vs, h1, h2, h3⟩ => ⟨dx, vs, h.trans h1, h2, RepVs.stay e _ _ h3⟩
theorem RepS.there {G : Sg} {w : Wd} {S : List Ob} (s : RepS G w S) {a : Addr} (h : a ∈ w.m) : w.H a ≠ none := by
  obtain ⟨n, hn⟩ := List.getElem?_of_mem h
  have l : n < S.length := by rw [← s.len]; exact (List.getElem?_eq_some_iff.mp hn).1
  exact (s.ob n a S[n] hn (List.getElem?_eq_getElem l)).there
def Wd.frz (w : Wd) (p : Addr) (o : HO) : Wd := ⟨w.m, fun a => w.F a ∨ a = p, upd w.H p o, w.x⟩
def Wd.new (w : Wd) (p : Addr) (o : HO) : Wd := ⟨w.m, w.F, upd w.H p o, w.x⟩
section
variable {G : Sg} {w : Wd} {S : List Ob} {p : Addr} {o : HO}
theorem Ext.frz (hp : w.H p = none) : Ext w (w.frz p o) := by
  refine ⟨⟨[], by simp [Wd.frz]⟩, fun _ h => .inl h, fun b u _ h => ?_, fun _ h => .inl h, fun b h => ?_, fun b h => ?_⟩
  · show upd w.H p o b = some u
    rw [upd_ne (ne_of_none h hp)]; exact h
  · rcases h with h | h
    · exact .inl h
    · exact .inr (h ▸ hp)
  · have h : upd w.H p o b = none := h
    by_cases e : b = p
    · rw [e]; exact hp
    · rw [upd_ne e] at h; exact h
theorem Ext.new (hp : w.H p = none) : Ext w (w.new p o) := by
  have e := Ext.frz (o := o) hp
  exact ⟨e.m, fun _ h => h, e.H, e.nm, fun _ h => .inl h, e.al⟩
theorem RepS.frz (s : RepS G w S) (hp : w.H p = none) : RepS G (w.frz p o) S := by
  refine ⟨s.len, s.nd, fun a h => ?_, fun a h => ?_, fun n a u h1 h2 => ?_⟩
  · rcases h with h | h
    · exact s.dj a h
    · exact fun z => s.there z (h ▸ hp)
  · show upd w.H p o a ≠ none
    by_cases e : a = p
    · rw [e, upd_same]; exact fun z => nomatch z
    · rw [upd_ne e]
      rcases h with h | h
      · exact s.fh a h
      · exact absurd h e
  · have ne : a ≠ p := fun z => s.there (List.mem_of_getElem? h1) (z ▸ hp)
    exact RepO.to (upd_ne ne) ((Ext.frz hp).stay s.dj) (s.ob n a u h1 h2)
theorem RepS.new (s : RepS G w S) (hp : w.H p = none) : RepS G (w.new p o) S := by
  refine ⟨s.len, s.nd, s.dj, fun a h => ?_, fun n a u h1 h2 => ?_⟩
  · show upd w.H p o a ≠ none
    rw [upd_ne (fun e => s.fh a h (by rw [e]; exact hp))]
    exact s.fh a h
  · have ne : a ≠ p := fun z => s.there (List.mem_of_getElem? h1) (z ▸ hp)
    exact RepO.to (upd_ne ne) ((Ext.new hp).stay s.dj) (s.ob n a u h1 h2)
end
def getv (i : Nat) : List SV → M D := fun sd => match sd[i]? with
  | some (.val d) => M.pure d
  | _ => M.stuck
def repL (G : Sg) (n : Nat) : Wd → List D → List V → Prop := fun w ds vs => RepVs G w ds vs ∧ vs.length = n
abbrev PLn (G : Sg) (X : Cx) (W : WX) (n : Nat) (es : List Expr) (f : List SV → M (List D)) : Prop := PA X es (teG G (repL G n) W f)
def notStar : Expr → Bool
  | .Starred _ _ => false
  | _ => true
theorem starEach_cons {e : Expr} {es : List Expr} {env : Env} (h : notStar e = true) : starEach (e :: es) env = (false, eval e env) :: starEach es env := by
  cases e <;> first | rfl | cases h
theorem starEach_all {env : Env} : ∀ {es : List Expr}, es.all notStar = true → ∀ pos, (backTo pos (starEach es env)).any (·.1) = false
  | [], _, _ => rfl
  | e :: es, h, pos => by
    simp only [List.all_cons, Bool.and_eq_true] at h
    rw [starEach_cons h.1]
    show (false || (backTo pos (starEach es env)).any (·.1)) = false
    rw [starEach_all h.2]
    rfl
section
variable {G : Sg} {X : Cx} {W : WX}
theorem v_var {i : Nat} {x : Str} {pos : Pos} (hN : X.N[i]? = some x) (hv : Vis X.env.scope x) (hd : (x == ("__debug__" : Str)) = false) (hcd : (x == ("__classdict__" : Str)) = false) : PV G X W (.Name x pos) (getv i) := by
  refine PE.imp (pe_var hN hv hd hcd) fun σ H Q h => ?_
  obtain ⟨w0, w, sd, S, e, r, q⟩ := h
  subst e
  unfold getv at q
  rcases hx : sd[i]? with _ | _ | d | o
  · rw [hx] at q; exact False.elim q
  · rw [hx] at q; exact False.elim q
  · rw [hx] at q
    obtain ⟨v, h1, h2⟩ := r.vl i d hx
    exact ⟨v, h1, fin_pure q r.st h2⟩
  · rw [hx] at q; exact False.elim q
theorem v_lit {e : Expr} {v : V} {d : D} (h : PE X e (tC v)) (r : ∀ w S, RepS G w S → RepV G w d v) : PV G X W e (fun _ => M.pure d) := by
  refine PE.imp h fun σ H Q h => ?_
  obtain ⟨w0, w, sd, S, e, rr, q⟩ := h
  subst e
  exact fin_pure q rr.st (r w S rr.st)
theorem l_nil : PLn G X W 0 [] (fun _ => M.pure []) := by
  refine PA.imp pa_nil fun σ H Q h => ?_
  obtain ⟨w0, w, sd, S, e, r, q⟩ := h
  subst e
  exact fin_pure q r.st ⟨rfl, rfl⟩
theorem l_cons {n : Nat} {e : Expr} {es : List Expr} {f : List SV → M D} {g : List SV → M (List D)} (he : PV G X W e f) (hr : PLn G X W n es g) (hs : notStar e = true) :
    PLn G X W (n + 1) (e :: es) (fun sd => M.bind (f sd) fun d => M.bind (g sd) fun ds => M.pure (d :: ds)) := by
  refine PA.imp (pa_cons he hr (starEach_cons hs)) fun σ H Q h => ?_
  obtain ⟨w0, w, sd, S, e, r, q⟩ := h
  refine ⟨w0, w, sd, S, e, r, fin_step q fun w1 S1 d v e1 s1 rv q1 => ⟨w0, w1, sd, S1, rfl, r.step e1 s1, fin_step q1 fun w2 S2 ds vs e2 s2 rvs q2 => ?_⟩⟩
  exact fin_pure q2 s2 ⟨⟨v, vs, rfl, RepV.mono e2 s1.dj d v rv, rvs.1⟩, by rw [List.length_cons, rvs.2]⟩
theorem v_tup {n : Nat} {es : List Expr} {g : List SV → M (List D)} {x1 : Nat} {pos : Pos} (h : PLn G X W n es g) (hn : n ≤ sizeLine) : PV G X W (.Tuple es x1 pos) (fun sd => M.bind (g sd) fun ds => M.pure (.tup ds)) := by
  refine PE.imp (pe_tup h) fun σ H Q h => ?_
  obtain ⟨w0, w, sd, S, e, r, q⟩ := h
  refine ⟨w0, w, sd, S, e, r, fin_step q fun w1 S1 ds vs e1 s1 rv q1 => ⟨by rw [rv.2]; exact hn, fun p hp => ?_⟩⟩
  exact q1 (w1.frz p (.tup vs)) _ (Ext.frz hp) (s1.frz hp) ⟨p, vs, rfl, .inl ⟨.inr rfl, .inl upd_same⟩, RepVs.mono (Ext.frz hp) s1.dj _ _ rv.1⟩
theorem v_lst {n : Nat} {es : List Expr} {g : List SV → M (List D)} {pos : Pos} (h : PLn G X W n es g) (hn : n ≤ sizeLine) : PV G X W (.List es pos) (fun sd => M.bind (g sd) fun ds => M.pure (.lst ds)) := by
  refine PE.imp (pe_lst h) fun σ H Q h => ?_
  obtain ⟨w0, w, sd, S, e, r, q⟩ := h
  refine ⟨w0, w, sd, S, e, r, fin_step q fun w1 S1 ds vs e1 s1 rv q1 => ⟨by rw [rv.2]; exact hn, fun p hp => ?_⟩⟩
  exact q1 (w1.frz p (.lst vs)) _ (Ext.frz hp) (s1.frz hp) ⟨p, vs, rfl, .inr rfl, upd_same, RepVs.mono (Ext.frz hp) s1.dj _ _ rv.1⟩
def rD2 (G : Sg) (g : D → D → M D) : R2 := fun v u H Q => ∃ W w S d e, w.H = H ∧ RepS G w S ∧ RepV G w d v ∧ RepV G w e u ∧ FinG G (RepV G) W w Q (g d e S)
theorem v_bin {op : Operator} {g : D → D → M D} {a b : Expr} {fa fb : List SV → M D} {pos : Pos} (ho : OpR X (binaryOp op) (rD2 G g)) (ha : PV G X W a fa) (hb : PV G X W b fb) :
    PV G X W (.BinOp a op b pos) (fun sd => M.bind (fa sd) fun x => M.bind (fb sd) fun y => g x y) := by
  refine PE.imp (pe_op ho ha hb) fun σ H Q h => ?_
  obtain ⟨w0, w, sd, S, e, r, q⟩ := h
  refine ⟨w0, w, sd, S, e, r, fin_step q fun w1 S1 d v e1 s1 rv q1 => ⟨w0, w1, sd, S1, rfl, r.step e1 s1, fin_step q1 fun w2 S2 d2 v2 e2 s2 rv2 q2 => ?_⟩⟩
  exact ⟨_, w2, S2, d, d2, rfl, s2, RepV.mono e2 s1.dj d v rv, rv2, q2⟩
theorem v_cmp {op : CmpOp} {g : D → D → M D} {a b : Expr} {fa fb : List SV → M D} {pos : Pos} (ho : OpR X (compareOp op) (rD2 G g)) (ha : PV G X W a fa) (hb : PV G X W b fb) (hm : behindInMarks op b = false) :
    PV G X W (.Compare a [op] [b] pos) (fun sd => M.bind (fa sd) fun x => M.bind (fb sd) fun y => g x y) := by
  refine PE.imp (pe_cmpR ho ha hb hm) fun σ H Q h => ?_
  obtain ⟨w0, w, sd, S, e, r, q⟩ := h
  refine ⟨w0, w, sd, S, e, r, fin_step q fun w1 S1 d v e1 s1 rv q1 => ⟨w0, w1, sd, S1, rfl, r.step e1 s1, fin_step q1 fun w2 S2 d2 v2 e2 s2 rv2 q2 => ?_⟩⟩
  exact ⟨_, w2, S2, d, d2, rfl, s2, RepV.mono e2 s1.dj d v rv, rv2, q2⟩
def toB : D → M Bool
  | .bl b => M.pure b
  | _ => M.stuck
theorem toB_fin {W' : Value → Option Addr → Hp → Prop} {w : Wd} {Q : Bool → Hp → Prop} {d : D} {v : V} {S : List Ob} (h : FinG G repB W' w Q (toB d S)) (s : RepS G w S) (r : RepV G w d v) : ∃ k, v = .bl k ∧ Q k w.H := by
  cases d with
  | bl b =>
    cases (show v = .bl b from r)
    exact ⟨b, rfl, fin_pure h s rfl⟩
  | _ => exact False.elim h
theorem b_cmp {op : CmpOp} {g : D → D → M D} {a b : Expr} {fa fb : List SV → M D} {pos : Pos} (ho : OpR X (compareOp op) (rD2 G g)) (ha : PV G X W a fa) (hb : PV G X W b fb) (hm : behindInMarks op b = false) :
    PB G X W (.Compare a [op] [b] pos) (fun sd => M.bind (fa sd) fun x => M.bind (fb sd) fun y => M.bind (g x y) toB) := by
  refine PT.imp (pt_cmpR ho ha hb hm) fun σ H Q h => ?_
  obtain ⟨w0, w, sd, S, e, r, q⟩ := h
  refine ⟨w0, w, sd, S, e, r, fin_step q fun w1 S1 d v e1 s1 rv q1 => ⟨w0, w1, sd, S1, rfl, r.step e1 s1, fin_step q1 fun w2 S2 d2 v2 e2 s2 rv2 q2 => ?_⟩⟩
  exact ⟨_, w2, S2, d, d2, rfl, s2, RepV.mono e2 s1.dj d v rv, rv2, fin_step q2 fun w3 S3 d3 v3 e3 s3 rv3 q3 => toB_fin q3 s3 rv3⟩
theorem v_chain {op op' : CmpOp} {g g' : D → D → M D} {a b c : Expr} {fa fb fc : List SV → M D} {pos : Pos} (ho : OpR X (compareOp op) (rD2 G g)) (ho' : OpR X (compareOp op') (rD2 G g')) (ha : PV G X W a fa) (hb : PV G X W b fb) (hc : PV G X W c fc) : True := trivial
theorem b_val {e : Expr} {f : List SV → M D} (h : PV G X W e f) (he : ∀ whole, isTrue e X.env whole = (do let v ← whole; standAt e.pos; holding [v] (truthy v))) : PB G X W e (fun sd => M.bind (f sd) toB) := by
  refine PT.imp (pt_val h he) fun σ H Q h => ?_
  obtain ⟨w0, w, sd, S, e, r, q⟩ := h
  exact ⟨w0, w, sd, S, e, r, fin_step q fun w1 S1 d v e1 s1 rv q1 => toB_fin q1 s1 rv⟩
theorem b_not {a : Expr} {f : List SV → M Bool} {pos : Pos} (ha : PB G X W a f) : PB G X W (.UnaryOp .Not a pos) (fun sd => M.bind (f sd) fun b => M.pure (!b)) := by
  refine PT.imp (pt_not ha) fun σ H Q h => ?_
  obtain ⟨w0, w, sd, S, e, r, q⟩ := h
  exact ⟨w0, w, sd, S, e, r, fin_step q fun w1 S1 d v e1 s1 rv q1 => by cases rv; exact fin_pure q1 s1 rfl⟩
abbrev PBW (G : Sg) (X : Cx) (W : WX) (e : Expr) (f : List SV → M Bool) : Prop := PW X e (teB G W f)
theorem w_and1 {a : Expr} {f : List SV → M Bool} {pos : Pos} (ha : PB G X W a f) : PBW G X W (.BoolOp .And [a] pos) f := pw_and1 ha
theorem w_or1 {a : Expr} {f : List SV → M Bool} {pos : Pos} (ha : PB G X W a f) : PBW G X W (.BoolOp .Or [a] pos) f := pw_or1 ha
theorem w_and {a b : Expr} {rest : List Expr} {f g : List SV → M Bool} {pos : Pos} (ha : PB G X W a f) (hb : PBW G X W (.BoolOp .And (b :: rest) pos) g) :
    PBW G X W (.BoolOp .And (a :: b :: rest) pos) (fun sd => M.bind (f sd) fun k => if k = true then g sd else M.pure false) := by
  refine PW.imp (pw_and ha hb) fun σ H Q h => ?_
  obtain ⟨w0, w, sd, S, e, r, q⟩ := h
  refine ⟨w0, w, sd, S, e, r, fin_step q fun w1 S1 d v e1 s1 rv q1 => ?_⟩
  cases (show v = d from rv)
  cases d with
  | true => exact ⟨w0, w1, sd, S1, rfl, r.step e1 s1, q1⟩
  | false => exact fin_pure q1 s1 rfl
theorem w_or {a b : Expr} {rest : List Expr} {f g : List SV → M Bool} {pos : Pos} (ha : PB G X W a f) (hb : PBW G X W (.BoolOp .Or (b :: rest) pos) g) :
    PBW G X W (.BoolOp .Or (a :: b :: rest) pos) (fun sd => M.bind (f sd) fun k => if k = true then M.pure true else g sd) := by
  refine PW.imp (pw_or ha hb) fun σ H Q h => ?_
  obtain ⟨w0, w, sd, S, e, r, q⟩ := h
  refine ⟨w0, w, sd, S, e, r, fin_step q fun w1 S1 d v e1 s1 rv q1 => ?_⟩
  cases (show v = d from rv)
  cases d with
  | true => exact fin_pure q1 s1 rfl
  | false => exact ⟨w0, w1, sd, S1, rfl, r.step e1 s1, q1⟩
theorem v_one {op : BoolOp} {a : Expr} {f : List SV → M D} {pos : Pos} (ha : PV G X W a f) : PV G X W (.BoolOp op [a] pos) f := pe_one ha
theorem v_and {a b : Expr} {rest : List Expr} {f g : List SV → M D} {pos : Pos} (ha : PV G X W a f) (hb : PV G X W (.BoolOp .And (b :: rest) pos) g) :
    PV G X W (.BoolOp .And (a :: b :: rest) pos) (fun sd => M.bind (f sd) fun d => M.bind (toB d) fun k => if k = true then g sd else M.pure (.bl false)) := by
  refine PE.imp (pe_and ha hb) fun σ H Q h => ?_
  obtain ⟨w0, w, sd, S, e, r, q⟩ := h
  refine ⟨w0, w, sd, S, e, r, fin_step q fun w1 S1 d v e1 s1 rv q1 => ?_⟩
  cases d with
  | bl b =>
    cases (show v = .bl b from rv)
    refine ⟨b, rfl, ?_⟩
    cases b with
    | true => exact ⟨w0, w1, sd, S1, rfl, r.step e1 s1, q1⟩
    | false => exact fin_pure (b := V.bl false) q1 s1 rfl
  | _ => exact False.elim q1
theorem v_or {a b : Expr} {rest : List Expr} {f g : List SV → M D} {pos : Pos} (ha : PV G X W a f) (hb : PV G X W (.BoolOp .Or (b :: rest) pos) g) :
    PV G X W (.BoolOp .Or (a :: b :: rest) pos) (fun sd => M.bind (f sd) fun d => M.bind (toB d) fun k => if k = true then M.pure (.bl true) else g sd) := by
  refine PE.imp (pe_or ha hb) fun σ H Q h => ?_
  obtain ⟨w0, w, sd, S, e, r, q⟩ := h
  refine ⟨w0, w, sd, S, e, r, fin_step q fun w1 S1 d v e1 s1 rv q1 => ?_⟩
  cases d with
  | bl b =>
    cases (show v = .bl b from rv)
    refine ⟨b, rfl, ?_⟩
    cases b with
    | true => exact fin_pure (b := V.bl true) q1 s1 rfl
    | false => exact ⟨w0, w1, sd, S1, rfl, r.step e1 s1, q1⟩
  | _ => exact False.elim q1
theorem v_not {a : Expr} {f : List SV → M D} {pos : Pos} (ha : PV G X W a f) : PV G X W (.UnaryOp .Not a pos) (fun sd => M.bind (f sd) fun d => M.bind (toB d) fun k => M.pure (.bl (!k))) := by
  refine PE.imp (pe_not ha) fun σ H Q h => ?_
  obtain ⟨w0, w, sd, S, e, r, q⟩ := h
  refine ⟨w0, w, sd, S, e, r, fin_step q fun w1 S1 d v e1 s1 rv q1 => ?_⟩
  cases d with
  | bl b =>
    cases (show v = .bl b from rv)
    exact ⟨b, rfl, fin_pure (b := V.bl (!b)) q1 s1 rfl⟩
  | _ => exact False.elim q1
theorem v_ite {c a b : Expr} {f : List SV → M Bool} {fa fb : List SV → M D} {pos : Pos} (hc : PB G X W c f) (ha : PV G X W a fa) (hb : PV G X W b fb) : PV G X W (.IfExp c a b pos) (fun sd => M.bind (f sd) fun k => if k = true then fa sd else fb sd) := by
  refine PE.imp (pe_ifExp hc ha hb) fun σ H Q h => ?_
  obtain ⟨w0, w, sd, S, e, r, q⟩ := h
  refine ⟨w0, w, sd, S, e, r, fin_step q fun w1 S1 d v e1 s1 rv q1 => ?_⟩
  cases (show v = d from rv)
  cases d with
  | true => exact ⟨w0, w1, sd, S1, rfl, r.step e1 s1, q1⟩
  | false => exact ⟨w0, w1, sd, S1, rfl, r.step e1 s1, q1⟩
end
end Ev
set_option maxRecDepth 100000
set_option maxHeartbeats 2000000
namespace Ev
open PySem L2
theorem OpR.imp {X : Cx} {f : Value → Value → Sem Value} {r r' : R2} (h : OpR X f r) (i : ∀ v u H Q, r' v u H Q → r v u H Q) : OpR X f r' := fun pins s σ H x y v u Q I rx ry q => h pins s σ H x y v u Q I rx ry (i _ _ _ _ q)
section
variable {G : Sg} {X : Cx} {w : Wd} {a : Addr} {vs : List V}
theorem sqT_of (cK : G.K = X.K) (h : RdF w a (.tup vs) ∨ KTup G.K a vs) : SqT X.K w.H a vs := by
  rw [← cK]
  exact h.imp (fun z => z.2) id
theorem sqL_of (cK : G.K = X.K) (h : RdF w a (.lst vs) ∨ KLst G.K a vs) : SqL X.K w.H a vs := by
  rw [← cK]
  exact h.imp (fun z => z.2) id
end
def lim : Nat := 16777216
theorem lim_eq : lim = sizeLine := by decide
def dAdd : D → D → M D
  | .int i, .int j => M.pure (.int (i + j))
  | .str x, .str y => if x.length + y.length ≤ lim then M.pure (.str (x ++ y)) else M.stuck
  | .lst a, .lst b => if a.length + b.length ≤ lim then M.pure (.lst (a ++ b)) else M.stuck
  | .tup a, .tup b => if a.length + b.length ≤ lim then M.pure (.tup (a ++ b)) else M.stuck
  | _, _ => M.stuck
def dSub : D → D → M D
  | .int i, .int j => M.pure (.int (i - j))
  | _, _ => M.stuck
def mulOk (i j : Int) : Bool := decide ((Builtin.Int.intBits i : Int) + (Builtin.Int.intBits j : Int) ≤ 134217728)
theorem mulOk_of {i j : Int} (h : mulOk i j = true) : CMulX i j := by
  have z : (Builtin.Int.intBits i : Int) + (Builtin.Int.intBits j : Int) ≤ 134217728 := of_decide_eq_true h
  exact z
theorem mulOk_by {i j : Int} {a b : Nat} (ha : i.natAbs < 2 ^ a) (hb : j.natAbs < 2 ^ b) (h : a + b ≤ 134217728) : mulOk i j = true := by
  unfold mulOk
  exact decide_eq_true (mulx_ok ha hb h)
def dMul : D → D → M D
  | .int i, .int j => if mulOk i j = true then M.pure (.int (i * j)) else M.stuck
  | .lst a, .int k => if a.length * k.toNat ≤ lim ∧ -(2 ^ 63) ≤ k ∧ k < 2 ^ 63 then M.pure (.lst (List.replicate k.toNat a).flatten) else M.stuck
  | .tup a, .int k => if 2 ≤ k ∧ k ≤ 1000 ∧ a.length ≤ 1000 ∧ a.isEmpty = false then M.pure (.tup (List.replicate k.toNat a).flatten) else M.stuck
  | _, _ => M.stuck
def divOk (j : Int) : Bool := decide (0 < j) && decide (j.natAbs.log2 < 9000)
def dFdiv : D → D → M D
  | .int i, .int j => if divOk j = true then M.pure (.int (i / j)) else M.stuck
  | _, _ => M.stuck
def dMod : D → D → M D
  | .int i, .int j => if 0 < j then M.pure (.int (i % j)) else M.stuck
  | _, _ => M.stuck
def dPow : D → D → M D
  | .int i, .int j => if 0 ≤ j ∧ j ≤ 1000000 ∧ i.natAbs < 2 ^ 64 then M.pure (.int (i ^ j.toNat)) else M.stuck
  | _, _ => M.stuck
def dCmpI (p : Int → Int → Bool) : D → D → M D
  | .int i, .int j => M.pure (.bl (p i j))
  | _, _ => M.stuck
section
variable {G : Sg} {X : Cx}
theorem FinG.ite {α β : Type} {rep : Wd → α → β → Prop} {W : Value → Option Addr → Hp → Prop} {w : Wd} {Q : β → Hp → Prop} {c : Prop} [Decidable c] {f : M α} {S : List Ob} (h : FinG G rep W w Q ((if c then f else M.stuck) S)) : c ∧ FinG G rep W w Q (f S) := by
  by_cases hc : c
  · rw [if_pos hc] at h; exact ⟨hc, h⟩
  · rw [if_neg hc] at h; exact h.elim
theorem o_int {f : Value → Value → Sem Value} {C : Int → Int → Prop} {g : Int → Int → V} {g' : Int → Int → D} {dg : D → D → M D} (h : OpR X f (rI C g)) (hg : ∀ w i j, RepV G w (g' i j) (g i j))
    (hd : ∀ d e S W w Q, FinG G (RepV G) W w Q (dg d e S) → ∃ i j, d = .int i ∧ e = .int j ∧ C i j ∧ dg d e S = M.pure (g' i j) S) : OpR X f (rD2 G dg) := by
  refine OpR.imp h fun v u H Q q => ?_
  obtain ⟨W, w, S, d, e, rfl, s, r1, r2, q⟩ := q
  obtain ⟨i, j, rfl, rfl, c, eq⟩ := hd d e S W w Q q
  rw [eq] at q
  exact ⟨i, j, r1, r2, c, fin_pure q s (hg w i j)⟩
theorem o_int0 {f : Value → Value → Sem Value} {g : Int → Int → V} {g' : Int → Int → D} {dg : D → D → M D} (h : OpR X f (rI0 g)) (hg : ∀ w i j, RepV G w (g' i j) (g i j))
    (hd : ∀ d e S W w Q, FinG G (RepV G) W w Q (dg d e S) → ∃ i j, d = .int i ∧ e = .int j ∧ dg d e S = M.pure (g' i j) S) : OpR X f (rD2 G dg) := by
  refine OpR.imp h fun v u H Q q => ?_
  obtain ⟨W, w, S, d, e, rfl, s, r1, r2, q⟩ := q
  obtain ⟨i, j, rfl, rfl, eq⟩ := hd d e S W w Q q
  rw [eq] at q
  exact ⟨i, j, r1, r2, fin_pure q s (hg w i j)⟩
theorem o_cmpI {op : CmpOp} {p : Int → Int → Bool} (h : OpR X (compareOp op) (rI0 fun i j => .bl (p i j))) : OpR X (compareOp op) (rD2 G (dCmpI p)) :=
  o_int0 (g' := fun i j => .bl (p i j)) h (fun _ _ _ => rfl) fun d e S W w Q q => by
    cases d <;> cases e <;> first | exact ⟨_, _, rfl, rfl, rfl⟩ | exact q.elim
theorem o_lt : OpR X (compareOp .Lt) (rD2 G (dCmpI fun i j => decide (i < j))) := o_cmpI op_lt
theorem o_le : OpR X (compareOp .LtE) (rD2 G (dCmpI fun i j => decide (i ≤ j))) := o_cmpI op_le
theorem o_gt : OpR X (compareOp .Gt) (rD2 G (dCmpI fun i j => decide (j < i))) := o_cmpI op_gt
theorem o_ge : OpR X (compareOp .GtE) (rD2 G (dCmpI fun i j => decide (j ≤ i))) := o_cmpI op_ge
theorem o_sub : OpR X (binaryOp .Sub) (rD2 G dSub) := o_int0 (g' := fun i j => .int (i - j)) op_sub (fun _ _ _ => rfl) fun d e S W w Q q => by
    cases d <;> cases e <;> first | exact ⟨_, _, rfl, rfl, rfl⟩ | exact q.elim
theorem o_fdiv : OpR X (binaryOp .FloorDiv) (rD2 G dFdiv) := o_int (g' := fun i j => .int (i / j)) (C := fun i j => CDivW i j) op_fdivW (fun _ _ _ => rfl) fun d e S W w Q q => by
    cases d <;> cases e <;> first
      | exact q.elim
      | (obtain ⟨c, q⟩ := FinG.ite q
         refine ⟨_, _, rfl, rfl, ?_, congrFun (if_pos c) S⟩
         unfold divOk at c
         rw [Bool.and_eq_true] at c
         exact ⟨of_decide_eq_true c.1, of_decide_eq_true c.2⟩)
instance {i j : Int} : Decidable (CDivW i j) := by unfold CDivW; infer_instance
theorem o_mod : OpR X (binaryOp .Mod) (rD2 G dMod) := o_int (g' := fun i j => .int (i % j)) (C := fun _ j => 0 < j) op_mod (fun _ _ _ => rfl) fun d e S W w Q q => by
    cases d <;> cases e <;> first
      | exact q.elim
      | (obtain ⟨c, q⟩ := FinG.ite q
         exact ⟨_, _, rfl, rfl, c, congrFun (if_pos c) S⟩)
instance {i j : Int} : Decidable (CPow i j) := by unfold CPow; infer_instance
theorem o_pow : OpR X (binaryOp .Pow) (rD2 G dPow) := o_int (g' := fun i j => .int (i ^ j.toNat)) (C := CPow) op_pow (fun _ _ _ => rfl) fun d e S W w Q q => by
    cases d <;> cases e <;> first
      | exact q.elim
      | (obtain ⟨c, q⟩ := FinG.ite q
         exact ⟨_, _, rfl, rfl, c, congrFun (if_pos c) S⟩)
theorem o_add (cK : G.K = X.K) : OpR X (binaryOp .Add) (rD2 G dAdd) := by
  refine OpR.imp (op_add.or (op_add_str.or (op_cat.or op_catA))) fun v u H Q q => ?_
  obtain ⟨W, w, S, d, e, rfl, s, r1, r2, q⟩ := q
  cases d <;> cases e <;> first | exact q.elim | skip
  · exact .inl ⟨_, _, r1, r2, fin_pure (b := V.int _) q s rfl⟩
  · obtain ⟨c, q⟩ := FinG.ite q
    exact .inr (.inl ⟨_, _, r1, r2, by rw [← lim_eq]; exact c, fin_pure (b := V.str _) q s rfl⟩)
  · rename_i ds es
    obtain ⟨c, q⟩ := FinG.ite q
    obtain ⟨a, va, ea, ha, ra⟩ := r1
    obtain ⟨b, vb, eb, hb, rb⟩ := r2
    rw [ra.length, rb.length, lim_eq] at c
    refine .inr (.inr (.inr ⟨a, b, va, vb, ea, eb, sqT_of cK ha, sqT_of cK hb, c, fun e => ?_, fun n e => ?_, fun _ _ p hp => ?_⟩))
    · subst e
      have e : ds = [] := List.eq_nil_of_length_eq_zero (by rw [ra.length]; rfl)
      subst e
      exact fin_pure q s ⟨b, vb, rfl, hb, rb⟩
    · subst e
      have e : es = [] := List.eq_nil_of_length_eq_zero (by rw [rb.length]; rfl)
      subst e
      rw [List.append_nil] at q
      exact fin_pure q s ⟨a, va, rfl, ha, ra⟩
    · exact q (w.frz p (.tup (va ++ vb))) _ (Ext.frz hp) (s.frz hp) ⟨p, _, rfl, .inl ⟨.inr rfl, .inl upd_same⟩, RepVs.mono (Ext.frz hp) s.dj _ _ (RepVs.append ra rb)⟩
  · rename_i ds es
    obtain ⟨c, q⟩ := FinG.ite q
    obtain ⟨a, va, ea, fa, ha, ra⟩ := r1
    obtain ⟨b, vb, eb, fb, hb, rb⟩ := r2
    rw [ra.length, rb.length, lim_eq] at c
    refine .inr (.inr (.inl ⟨a, b, va, vb, ea, eb, ha, hb, c, fun p hp => ?_⟩))
    exact q (w.frz p (.lst (va ++ vb))) _ (Ext.frz hp) (s.frz hp) ⟨p, _, rfl, .inr rfl, upd_same, RepVs.mono (Ext.frz hp) s.dj _ _ (RepVs.append ra rb)⟩
instance {i j : Int} : Decidable (CMulW i j) := by unfold CMulW; infer_instance
theorem o_mul (cK : G.K = X.K) : OpR X (binaryOp .Mult) (rD2 G dMul) := by
  refine OpR.imp (op_mulX.or (op_rep.or op_repT)) fun v u H Q q => ?_
  obtain ⟨W, w, S, d, e, rfl, s, r1, r2, q⟩ := q
  cases d <;> cases e <;> first | exact q.elim | skip
  · obtain ⟨c, q⟩ := FinG.ite q
    exact .inl ⟨_, _, r1, r2, mulOk_of c, fin_pure (b := V.int _) q s rfl⟩
  · rename_i ds k
    have q : FinG G (RepV G) W w Q ((if 2 ≤ k ∧ k ≤ 1000 ∧ ds.length ≤ 1000 ∧ ds.isEmpty = false then M.pure (.tup (List.replicate k.toNat ds).flatten) else M.stuck) S) := q
    obtain ⟨⟨c1, c2, c, c3⟩, q⟩ := FinG.ite q
    obtain ⟨a, va, ea, ha, ra⟩ := r1
    rw [ra.length] at c
    refine .inr (.inr ⟨a, k, va, ea, r2, sqT_of cK ha, fun e => ?_, c1, c2, c, fun p hp => ?_⟩)
    · subst e
      have e : ds = [] := List.eq_nil_of_length_eq_zero (by rw [ra.length]; rfl)
      rw [e] at c3
      cases c3
    · exact q (w.frz p _) _ (Ext.frz hp) (s.frz hp) ⟨p, _, rfl, .inl ⟨.inr rfl, .inl upd_same⟩, RepVs.mono (Ext.frz hp) s.dj _ _ (RepVs.rep _ ra)⟩
  · rename_i ds k
    obtain ⟨⟨c, c1, c2⟩, q⟩ := FinG.ite q
    obtain ⟨a, va, ea, fa, ha, ra⟩ := r1
    rw [ra.length, lim_eq] at c
    refine .inr (.inl ⟨a, k, va, ea, r2, ha, c1, c2, c, fun p hp => ?_⟩)
    exact q (w.frz p _) _ (Ext.frz hp) (s.frz hp) ⟨p, _, rfl, .inr rfl, upd_same, RepVs.mono (Ext.frz hp) s.dj _ _ (RepVs.rep _ ra)⟩
end
end Ev
set_option maxRecDepth 100000
set_option maxHeartbeats 2000000
namespace Ev
open PySem PySem.Spec PyProof.Rows L2
structure Rm (k : Nat) (A : Around) : Prop where
  room : Room k A
  gd : A.guards = some []
theorem Rm.mono {j k : Nat} {A : Around} (h : Rm k A) (l : j ≤ k) : Rm j A := ⟨h.room.mono l, h.gd⟩
theorem Rm.deeper {k : Nat} {A : Around} (h : Rm (k + 1) A) (env : Env) : Rm k (A.deeper env) := ⟨h.room.deeper env, h.gd⟩
theorem Rm.in1 {k : Nat} {A : Around} (h : Rm (k + 1) A) : Rm k A.in1 := ⟨h.room.in1, h.gd⟩
theorem make_guards {A : Around} {C : Addr} {us : List Value} {kw : List (Str × Value)} (h : A.guards = some []) :
    (A.under (.builtin "type.__call__" ⟨.ref C :: us, kw⟩)).guards = some [] := by
  show pushGuards (Code.guards (.builtin "type.__call__" ⟨.ref C :: us, kw⟩)) A.guards = some []
  rw [h]
  have e : Code.guards (.builtin "type.__call__" ⟨.ref C :: us, kw⟩) = [] := by
    show (if guardIds.contains "type.__call__" = true then _ else _) = _
    rw [if_neg (by decide +kernel)]
  rw [e]
  rfl
theorem Rm.make {k : Nat} {A : Around} (h : Rm (k + 1) A) (C : Addr) (us : List Value) (kw : List (Str × Value)) :
    Rm k (A.under (.builtin "type.__call__" ⟨.ref C :: us, kw⟩)) := ⟨h.room.make C us kw, make_guards h.gd⟩
structure Gn (P : Program) (w : World) (K : PySem.W.Frag) (mg : Str → Option Value) (base : Heap) (k : Nat) (f : Addr) (fd : FuncData) (ps : List Str) (sp : Sp) : Prop where
  len : ∀ vs H Q E, sp vs H Q E → vs.length = ps.length
  run : ∀ (A : Around) (fr : List Env) (s : Shared) (H : Hp) (args : Args) (us : List Value) (vs : List V) (Q : VK) (E : XK),
    Rm k A → Env0 P w K mg base A fr s H → BindsTo s fd args (ps.zip us) → Vals vs us → sp vs H Q E →
    codeAny (model P w) A (.call (.ref f) args) (CR (L2.CX P w) fr P w H s Q E) s
section
variable {P : Program} {w : World} {K : PySem.W.Frag} {mg : Str → Option Value} {base : Heap} {j k : Nat} {f : Addr} {fd : FuncData} {sp : Sp} {N ps : List Str}
theorem Gn.mono (F : Gn P w K mg base j f fd ps sp) (h : j ≤ k) : Gn P w K mg base k f fd ps sp :=
  ⟨F.len, fun A fr s H args us vs Q E hr => F.run A fr s H args us vs Q E (hr.mono h)⟩
theorem gn_of {name qual : Str} {params : Arguments} {body : List Stmt} {scope : Scope} {dV kV doc pm cdv ct oc : Value} {an od : Option Addr} {osl : Array (Option Value)}
    (lk : K.lookup f = some ⟨oc, od, .func (PySem.W.fnOf name qual params body scope dV kV doc pm an cdv ct), osl⟩) (hcd : PySem.W.codeIn K cdv qual = true) (SC : FnScope N ps scope)
    (len : ∀ vs H Q E, sp vs H Q E → vs.length = ps.length)
    (hb : ∀ (A : Around) (fr : List Env) (s : Shared) (H : Hp) (vs : List V) (Q : VK) (E : XK),
      Rm k (A.deeper (envOfC qual scope s.heap.objs.size f cdv)) → sp vs H Q E →
      ∃ t, PSs (cxOf (L2.CX P w) P w K mg base N qual scope f cdv A fr s H E) body t ∧ t { nx := fun _ H' => Q .non H', rt := Q } (start N vs) H) :
    Gn P w K mg base (k + 1) f (PySem.W.fnOf name qual params body scope dV kV doc pm an cdv ct) ps sp := by
  refine ⟨len, ?_⟩
  intro A fr s H args us vs Q E hr e0 hbind rv hsp
  have inK : K.In s.heap := by
    refine e0.mod.kin.keeps ?_
    exact fun b o e => (e0.bs b o e).1
  have noL : s.heap.NoLimit := by
    refine e0.mod.nolimit.keeps ?_
    exact fun b o e => (e0.bs b o e).1
  have kinds : ∀ y ∈ ps.zip us, scope.names.lookup y.1 = some .local ∨
      (scope.names.lookup y.1 = some .cell ∧ ((cellsFrom (s.heap.objs.size + 1) scope.names []).lookup y.1).isSome = true) := by
    rintro ⟨n, v⟩ hy
    have hn := SC.par n (List.of_mem_zip hy).1
    exact hn.imp id fun q => ⟨q, PySem.W.cellsFrom_some _ _ _ (.inl q)⟩
  refine codeAny_call_function hr.room.depth (inK _ _ lk) rfl SC.co SC.gen rfl ?_ (hbind _ _ _ _ ?_)
  · exact PySem.W.codeRec_of inK hcd
  refine wpAny_newFunctionEnv_cells SC.kind kinds ?_
  rintro env rfl s1 x
  refine ⟨noL.keeps x.toInCall.keep, codeAny_func ?_⟩
  obtain ⟨t, ht, hq⟩ := hb A fr s H vs Q E (hr.deeper _) hsp
  have I := inv_start (CX := L2.CX P w) (P := P) (w := w) (E := E) SC hr.room.hd e0 (len _ _ _ _ hsp) rv x
  have run := ht.run [] s1 _ H _ I hq
  refine wpAny_mono run ?_ (fun e s' hs => hs)
  intro fl s' hs
  cases fl with
  | ret u =>
    obtain ⟨v, σ', H', J, r', q⟩ := hs
    exact ⟨v, H', J.os, J.bare, J.base, J.hok, r', q⟩
  | next =>
    obtain ⟨σ', H', J, q⟩ := hs
    exact ⟨V.non, H', J.os, J.bare, J.base, J.hok, rfl, q⟩
  | brk =>
    obtain ⟨_, _, _, q⟩ := hs
    exact q.elim
  | cont =>
    obtain ⟨_, _, _, q⟩ := hs
    exact q.elim
end
def spV (G : Sg) (g : List D → M D) : Sp := fun vs H Q E => ∃ w ds S, w.H = H ∧ RepS G w S ∧ RepVs G w ds vs ∧ FinG G (RepV G) E w Q (g ds S)
abbrev PassS (X : Cx) (W : WX) : Prop := ∀ σ, PassesAt (L2.CX X.prog X.w) X σ (WE W σ)
section
variable {G : Sg} {X : Cx} {W : WX} {k : Nat} {f C : Addr} {fd : FuncData} {ps : List Str} {sp : Sp} {σ : L2.St}
theorem run_gn {pins : List (Addr × Obj)} {H : Hp} {s : Shared} {Q : VK} {args : Args} {us : List Value} {vs : List V} (F : Gn X.prog X.w X.K X.mg X.base k f fd ps sp) (hr : Rm k X.A)
    (hx : PassS X W) (I : Inv X pins σ H s) (hb : BindsTo s fd args (ps.zip us)) (r : Vals vs us) (h : sp vs H Q (WE W σ)) :
    wpAny (model X.prog X.w) X.A (call (.ref f) args.pos args.kw) (EP X pins σ Q) X.xe s := by
  have body := F.run X.A X.stack s H args us vs Q (WE W σ) hr I.env0 hb r h
  refine wpAny_call (codeAny_mono body ?_)
  intro res s' hq
  rcases res with e | fl
  · exact hx σ pins H s e s' I hq
  · cases fl with
    | ret u => exact I.after hq
    | next => exact hq.elim
    | brk => exact hq.elim
    | cont => exact hq.elim
end
end Ev
set_option maxRecDepth 100000
set_option maxHeartbeats 2000000
namespace Ev
open PySem PySem.Spec PyProof.Rows L2
structure Ctx (G : Sg) (X : Cx) (W : WX) (k : Nat) : Prop where
  cK : G.K = X.K
  calm : X.calm = true
  rm : Rm (k + 1) X.A
  nd : X.N.Nodup
  px : PassS X W
  po : PassesOwn (model X.prog X.w) X.A X.env X.xe
theorem Ctx.rm0 {G : Sg} {X : Cx} {W : WX} {k : Nat} (c : Ctx G X W k) : Rm k X.A := c.rm.mono (Nat.le_succ _)
structure FnA (P : Program) (w : World) (K : PySem.W.Frag) (mg : Str → Option Value) (base : Heap) (G : Sg) (k : Nat) (f : Addr) (sem : List D → M D) : Prop where
  run : ∀ (A : Around) (fr : List Env) (s : Shared) (H : Hp) (us : List Value) (vs : List V) (Q : VK) (E : XK),
    Rm k A → Env0 P w K mg base A fr s H → Vals vs us → spV G sem vs H Q E → codeAny (model P w) A (.call (.ref f) ⟨us, []⟩) (CR (L2.CX P w) fr P w H s Q E) s
  kp : PySem.W.keepIn K (.ref f) = true
theorem FnA.of {P : Program} {w : World} {K : PySem.W.Frag} {mg : Str → Option Value} {base : Heap} {G : Sg} {k : Nat} {f : Addr} {fd : FuncData} {ps : List Str} {sem : List D → M D} (g : Gn P w K mg base k f fd ps (spV G sem)) (b : Binds K fd ps [])
    (kp : PySem.W.keepIn K (.ref f) = true) : FnA P w K mg base G k f sem := by
  refine ⟨fun A fr s H us vs Q E hr e0 r h => ?_, kp⟩
  have hl : us.length = ps.length := r.length.symm.trans (g.len _ _ _ _ h)
  have inK : K.In s.heap := e0.mod.kin.keeps fun b o e => (e0.bs b o e).1
  have hb := b s us inK (by rw [List.append_nil]; exact hl)
  rw [List.append_nil] at hb
  exact g.run A fr s H ⟨us, []⟩ us vs Q E hr e0 hb r h
theorem FnA.mono {P : Program} {w : World} {K : PySem.W.Frag} {mg : Str → Option Value} {base : Heap} {G : Sg} {j k : Nat} {f : Addr} {sem : List D → M D} (F : FnA P w K mg base G j f sem) (h : j ≤ k) : FnA P w K mg base G k f sem :=
  ⟨fun A fr s H us vs Q E hr => F.run A fr s H us vs Q E (hr.mono h), F.kp⟩
abbrev FnX (X : Cx) (G : Sg) (k : Nat) (f : Addr) (sem : List D → M D) : Prop := FnA X.prog X.w X.K X.mg X.base G k f sem
section
variable {G : Sg} {X : Cx} {W : WX} {k n : Nat} {f : Addr} {sem : List D → M D} {x : Str} {p pos apos : Pos} {e o : Expr} {es : List Expr} {fa : List SV → M (List D)} {σ : L2.St}
theorem run_fa {pins : List (Addr × Obj)} {H : Hp} {s : Shared} {Q : VK} {us : List Value} {vs : List V} (c : Ctx G X W k) (F : FnX X G k f sem) (I : Inv X pins σ H s) (r : Vals vs us)
    (h : spV G sem vs H Q (WE W σ)) : wpAny (model X.prog X.w) X.A (call (.ref f) us) (EP X pins σ Q) X.xe s := by
  have body := F.run X.A X.stack s H us vs Q (WE W σ) c.rm0 I.env0 r h
  refine wpAny_call (codeAny_mono body ?_)
  intro res s' hq
  rcases res with e | fl
  · exact c.px σ pins H s e s' I hq
  · cases fl with
    | ret u => exact I.after hq
    | next => exact hq.elim
    | brk => exact hq.elim
    | cont => exact hq.elim
theorem v_call (c : Ctx G X W k) (F : FnX X G k f sem) (hg : Gl X x) (hm : X.mg x = some (.ref f)) (ha : PLn G X W n (e :: es) fa) (hs : (e :: es).all notStar = true) (hd : (x == ("__debug__" : Str)) = false) :
    PV G X W (.Call (.Name x p) (e :: es) [] pos) (fun sd => M.bind (fa sd) sem) := by
  have hs2 : notStar e = true ∧ es.all notStar = true := by simpa using hs
  constructor
  intro pins s σ H Q I ⟨w0, w, sd, S, eH, r, q⟩
  refine wpAny_Call_Name_kw (ld_glob I hg hm ?_ hd)
  refine PySem.W.callWith_K (h₀ := X.base) I.ok.mod.kin F.kp (thn (ha.run pos pins s σ H (fun vs H1 => spV G sem vs H1 Q (WE W σ)) I ?_) ?_) (starEach_cons hs2.1) (starEach_all hs2.2 pos)
  · exact ⟨w0, w, sd, S, eH, r, fin_step q fun w1 S1 ds vs e1 s1 rv q1 => ⟨w1, ds, S1, rfl, s1, rv.1, q1⟩⟩
  · rintro us s1 ⟨vs, H1, I1, rv, q1⟩
    exact ⟨I1.kIn, run_fa c F I1 rv q1⟩
theorem v_call0 (c : Ctx G X W k) (F : FnX X G k f sem) (hg : Gl X x) (hm : X.mg x = some (.ref f)) (hd : (x == ("__debug__" : Str)) = false) : PV G X W (.Call (.Name x p) [] [] pos) (fun _ => sem []) := by
  constructor
  intro pins s σ H Q I ⟨w0, w, sd, S, eH, r, q⟩
  refine wpAny_Call_Name_kw (ld_glob I hg hm ?_ hd)
  exact PySem.W.callWith_K0 I.kIn F.kp (run_fa (us := []) c F I .nil ⟨w, [], S, eH, r.st, rfl, q⟩)
def insOf : Option Ob → Option Nat
  | some (.ins c _) => some c
  | _ => none
def clsOf (d : D) : M Nat := fun S => match d with
  | .ins c _ => some (.ok c, S)
  | .ref n => match insOf S[n]? with
    | some c => some (.ok c, S)
    | none => none
  | _ => none
theorem clsOf_rep {w : Wd} {S : List Ob} {d : D} {v : V} {c : Nat} {S' : List Ob} (s : RepS G w S) (r : RepV G w d v) (h : clsOf d S = some (.ok c, S')) : S' = S ∧ ∃ a dx vs, v = .ref a ∧ w.H a = some (.ins (G.ca c) dx ((G.fn c).zip vs)) := by
  unfold clsOf at h
  cases d with
  | ins c' ds =>
    simp only [Option.some.injEq, Prod.mk.injEq, Except.ok.injEq] at h
    obtain ⟨rfl, rfl⟩ := h
    obtain ⟨a, dx, vs, e1, _, h1, _⟩ := r
    exact ⟨rfl, a, dx, vs, e1, h1⟩
  | ref n =>
    obtain ⟨a, e1, h1⟩ := r
    rcases hn : S[n]? with _ | ⟨_ | _ | ⟨c', ds⟩⟩
    · simp [hn, insOf] at h
    · simp [hn, insOf] at h
    · simp [hn, insOf] at h
    · simp only [hn, insOf, Option.some.injEq, Prod.mk.injEq, Except.ok.injEq] at h
      obtain ⟨rfl, rfl⟩ := h
      obtain ⟨dx, vs, h2, _⟩ := s.ob n a _ h1 hn
      exact ⟨rfl, a, dx, vs, e1, h2⟩
  | _ => simp at h
theorem clsOf_noerr {d : D} {S S' : List Ob} {x : Exn} : clsOf d S ≠ some (.error x, S') := by
  intro h
  unfold clsOf at h
  split at h
  · simp at h
  · split at h <;> simp at h
  · simp at h
theorem lookup_zip_none {m : Str} : ∀ {fs : List Str} {vs : List V}, m ∉ fs → (fs.zip vs).lookup m = none
  | [], _, _ => rfl
  | _ :: _, [], _ => rfl
  | f :: fs, v :: vs, h => by
    have h1 : ¬ m = f := fun e => h (by rw [e]; exact List.mem_cons_self)
    rw [List.zip_cons_cons, List.lookup_cons]
    have hb : (m == f) = false := by simpa using h1
    rw [hb]
    exact lookup_zip_none fun z => h (List.mem_cons_of_mem _ z)
theorem lookup_zip_some {m : Str} : ∀ {fs : List Str} {vs : List V} {i : Nat} {v : V}, fs.Nodup → fs[i]? = some m → vs[i]? = some v → (fs.zip vs).lookup m = some v
  | [], _, _, _, _, h, _ => by simp at h
  | _ :: _, [], _, _, _, _, h => by simp at h
  | f :: fs, u :: vs, 0, v, _, h1, h2 => by
    simp at h1 h2
    subst h1 h2
    simp
  | f :: fs, u :: vs, i + 1, v, nd, h1, h2 => by
    have nd := List.nodup_cons.mp nd
    have hm : fs[i]? = some m := by simpa using h1
    have hne : (m == f) = false := by
      have : ¬ m = f := fun e => nd.1 (e ▸ List.mem_of_getElem? hm)
      simpa using this
    rw [List.zip_cons_cons, List.lookup_cons, hne]
    exact lookup_zip_some nd.2 hm (by simpa using h2)
structure MethT (X : Cx) (G : Sg) (k : Nat) (m : Str) (tbl : Nat → Option (List D → M D)) : Prop where
  at_ : ∀ c g, tbl c = some g → ∃ f, Cls X.K (G.ca c) ∧ Meth X.K (G.ca c) m f ∧ FnX X G k f g ∧ m ∉ G.fn c
def plainBase : Expr → Bool
  | .Call (.Name _ _) [] [] _ => false
  | _ => true
theorem attr_base {env : Env} {m : Str} {whole : Sem Value} (h : plainBase o = true) : attributeBase o m env whole = whole := by
  unfold attributeBase
  split
  · cases h
  · rfl
theorem star_form {env : Env} : ∀ {l : List Expr}, l.all notStar = true → (backTo pos (starEach l env)).all (fun y => !y.1) = true
  | [], _ => rfl
  | a :: l, h => by
    have h : notStar a = true ∧ l.all notStar = true := by simpa using h
    rw [starEach_cons h.1]
    show (true && (backTo pos (starEach l env)).all (fun y => !y.1)) = true
    rw [star_form h.2]
    rfl
theorem meth_tree {env : Env} {m : Str} {args : List Expr} (hb : plainBase o = true) (hs : args.all notStar = true) (hl : args.length < 30) (hp : (apos.endLine == pos.line) = true) :
    eval (.Call (.Attribute o m apos) args [] pos) env = (do
      let ov ← eval o env
      standAt apos.atName
      let (f, first) ← holding [ov] (getMethod ov m (do return (← importBound o env).getD true))
      callWith pos f first (backTo pos (starEach args env)) (backToKw pos (keywordEach [] env))) := by
  have e1 : eval (.Call (.Attribute o m apos) args [] pos) env = (do
      let ov ← attributeBase o m env (eval o env)
      standAt apos.atName
      methodCall o m apos pos env ov (args.length + ([] : List Keyword).length) (backTo pos (starEach args env)) (backToKw pos (keywordEach [] env))) := rfl
  have few : methodCallForm (args.length + ([] : List Keyword).length) (backTo pos (starEach args env)) (backToKw pos (keywordEach [] env)) = true := by
    unfold methodCallForm
    rw [star_form hs]
    show (true && true && decide (args.length + 0 + 0 < 30)) = true
    rw [decide_eq_true (by omega)]
    rfl
  rw [e1, attr_base hb]
  unfold methodCall
  rw [few]
  have mp : methodCallPos true o env apos pos = (pure pos : Sem Pos) := by
    unfold methodCallPos
    rw [hp]
    rfl
  rw [mp]
  rfl
def pick (tbl : Nat → Option (List D → M D)) (d : D) : M (List D → M D) := M.bind (clsOf d) fun c => match tbl c with
  | some g => M.pure g
  | none => M.stuck
theorem pick_fin {α β : Type} {rep : Wd → α → β → Prop} {W' : Value → Option Addr → Hp → Prop} {w : Wd} {Q : β → Hp → Prop} {S : List Ob} {tbl : Nat → Option (List D → M D)} {d : D} {k : (List D → M D) → M α} {v : V} (s : RepS G w S) (rd : RepV G w d v)
    (h : FinG G rep W' w Q (M.bind (pick tbl d) k S)) : ∃ c g, tbl c = some g ∧ FinG G rep W' w Q (k g S) ∧ clsOf d S = some (.ok c, S) ∧ ∃ a dx vs, v = .ref a ∧ w.H a = some (.ins (G.ca c) dx ((G.fn c).zip vs)) := by
  unfold pick M.bind at h
  rcases hc : clsOf d S with _ | ⟨x | c, S2⟩
  · rw [hc] at h; exact h.elim
  · exact absurd hc clsOf_noerr
  · obtain ⟨rfl, a, dx, vs, e1, h1⟩ := clsOf_rep s rd hc
    rw [hc] at h
    simp only at h
    rcases ht : tbl c with _ | g
    · rw [ht] at h; exact h.elim
    · rw [ht] at h
      exact ⟨c, g, ht, h, rfl, a, dx, vs, e1, h1⟩
theorem v_meth {m : Str} {tbl : Nat → Option (List D → M D)} {fo : List SV → M D} (c : Ctx G X W k) (T : MethT X G k m tbl) (ho : PV G X W o fo) (ha : PLn G X W n (e :: es) fa) (hs : (e :: es).all notStar = true) (hb : plainBase o = true) (hl : (e :: es).length < 30) (hp : (apos.endLine == pos.line) = true) :
    PV G X W (.Call (.Attribute o m apos) (e :: es) [] pos) (fun sd => M.bind (fo sd) fun d => M.bind (pick tbl d) fun g => M.bind (fa sd) fun ds => g (d :: ds)) := by
  constructor
  intro pins s σ H Q I ⟨w0, w, sd, S, eH, r, q⟩
  refine PySem.W.methodCall_KW (thn (ho.run pins s σ H (fun v H1 => ∃ w1 S1 d c g a dx vs, w1.H = H1 ∧ R G w0 w1 sd S1 σ ∧ RepV G w1 d v ∧ tbl c = some g ∧ v = .ref a ∧ w1.H a = some (.ins (G.ca c) dx ((G.fn c).zip vs)) ∧
      FinG G (RepV G) (fun c x H => W c x σ H) w1 Q (M.bind (fa sd) (fun ds => g (d :: ds)) S1)) I ?_) ?_) (meth_tree hb hs hl hp)
  · refine ⟨w0, w, sd, S, eH, r, fin_step q fun w1 S1 d v e1 s1 rv q1 => ?_⟩
    obtain ⟨c', g, ht, q2, _, a, dx, vs, ev, hv⟩ := pick_fin s1 rv q1
    exact ⟨w1, S1, d, c', g, a, dx, vs, rfl, r.step e1 s1, rv, ht, ev, hv, q2⟩
  · rintro u s1 ⟨v, H1, I1, rv, w1, S1, d, c', g, a, dx, vs, eH1, r1, rd, ht, ev, hv, q1⟩
    subst eH1 ev
    obtain rfl : u = Value.ref a := rv
    obtain ⟨f, cl, hm, F, nf⟩ := T.at_ c' g ht
    refine getmeth_ok I1 hv cl hm (lookup_zip_none nf) ?_
    have hs2 : notStar e = true ∧ es.all notStar = true := by simpa using hs
    refine PySem.W.callWith_K (first := [.ref a]) (h₀ := X.base) I.ok.mod.kin hm.kp (thn (ha.run pos pins s1 σ w1.H (fun xs H2 => spV G g (.ref a :: xs) H2 Q (WE W σ)) I1 ?_) ?_) (starEach_cons hs2.1) (starEach_all hs2.2 pos)
    · refine ⟨w0, w1, sd, S1, rfl, r1, fin_step q1 fun w2 S2 ds xs e2 s2 rx q2 => ?_⟩
      exact ⟨w2, d :: ds, S2, rfl, s2, ⟨_, _, rfl, RepV.mono e2 r1.st.dj _ _ rd, rx.1⟩, q2⟩
    · rintro us s2 ⟨xs, H2, I2, rx, q2⟩
      exact ⟨I2.kIn, run_fa (us := .ref a :: us) (vs := .ref a :: xs) c F I2 (.cons rfl rx) q2⟩
theorem v_meth0 {m : Str} {tbl : Nat → Option (List D → M D)} {fo : List SV → M D} (c : Ctx G X W k) (T : MethT X G k m tbl) (ho : PV G X W o fo) (hb : plainBase o = true) (hp : (apos.endLine == pos.line) = true) :
    PV G X W (.Call (.Attribute o m apos) [] [] pos) (fun sd => M.bind (fo sd) fun d => M.bind (pick tbl d) fun g => g [d]) := by
  constructor
  intro pins s σ H Q I ⟨w0, w, sd, S, eH, r, q⟩
  refine PySem.W.methodCall_KW (thn (ho.run pins s σ H (fun v H1 => ∃ w1 S1 d c g a dx vs, w1.H = H1 ∧ RepS G w1 S1 ∧ RepV G w1 d v ∧ tbl c = some g ∧ v = .ref a ∧ w1.H a = some (.ins (G.ca c) dx ((G.fn c).zip vs)) ∧
      FinG G (RepV G) (fun c x H => W c x σ H) w1 Q (g [d] S1)) I ?_) ?_) (meth_tree hb rfl (by decide) hp)
  · refine ⟨w0, w, sd, S, eH, r, fin_step q fun w1 S1 d v e1 s1 rv q1 => ?_⟩
    obtain ⟨c', g, ht, q2, _, a, dx, vs, ev, hv⟩ := pick_fin (k := fun g => g [d]) s1 rv q1
    exact ⟨w1, S1, d, c', g, a, dx, vs, rfl, s1, rv, ht, ev, hv, q2⟩
  · rintro u s1 ⟨v, H1, I1, rv, w1, S1, d, c', g, a, dx, vs, eH1, s1', rd, ht, ev, hv, q1⟩
    subst eH1 ev
    obtain rfl : u = Value.ref a := rv
    obtain ⟨f, cl, hm, F, nf⟩ := T.at_ c' g ht
    refine getmeth_ok I1 hv cl hm (lookup_zip_none nf) ?_
    exact PySem.W.callWith_K0 (first := [.ref a]) I1.kIn hm.kp (run_fa (us := [.ref a]) (vs := [.ref a]) c F I1 (.cons rfl .nil) ⟨w1, [d], S1, rfl, s1', ⟨_, _, rfl, rd, rfl⟩, q1⟩)
def fldsOf (d : D) : M (Nat × List D) := fun S => match d with
  | .ins c ds => some (.ok (c, ds), S)
  | .ref n => match S[n]? with
    | some (.ins c ds) => some (.ok (c, ds), S)
    | _ => none
  | _ => none
theorem fldsOf_rep {w : Wd} {S : List Ob} {d : D} {v : V} {c : Nat} {ds : List D} {S' : List Ob} (s : RepS G w S) (r : RepV G w d v) (h : fldsOf d S = some (.ok (c, ds), S')) :
    S' = S ∧ ∃ a dx vs, v = .ref a ∧ w.H a = some (.ins (G.ca c) dx ((G.fn c).zip vs)) ∧ RepVs G w ds vs := by
  unfold fldsOf at h
  cases d with
  | ins c' es =>
    simp only [Option.some.injEq, Prod.mk.injEq, Except.ok.injEq] at h
    obtain ⟨⟨rfl, rfl⟩, rfl⟩ := h
    obtain ⟨a, dx, vs, e1, _, h1, _, h3⟩ := r
    exact ⟨rfl, a, dx, vs, e1, h1, h3⟩
  | ref n =>
    obtain ⟨a, e1, h1⟩ := r
    rcases hn : S[n]? with _ | ⟨_ | _ | ⟨c', es⟩⟩
    · simp [hn] at h
    · simp [hn] at h
    · simp [hn] at h
    · simp only [hn, Option.some.injEq, Prod.mk.injEq, Except.ok.injEq] at h
      obtain ⟨⟨rfl, rfl⟩, rfl⟩ := h
      obtain ⟨dx, vs, h2, _, h3⟩ := s.ob n a _ h1 hn
      exact ⟨rfl, a, dx, vs, e1, h2, h3⟩
  | _ => simp at h
theorem fldsOf_noerr {d : D} {S S' : List Ob} {x : Exn} : fldsOf d S ≠ some (.error x, S') := by
  intro h
  unfold fldsOf at h
  split at h
  · simp at h
  · split at h <;> simp at h
  · simp at h
inductive At where
  | fld (i : Nat)
  | prop (g : List D → M D)
def noErr {α : Type} (f : M α) : M α := fun S => match f S with
  | some (.ok a, S') => some (.ok a, S')
  | _ => none
def attr (tbl : Nat → Option At) (d : D) : M D := M.bind (fldsOf d) fun cd => match tbl cd.1 with
  | some (.fld i) => match cd.2[i]? with
    | some x => M.pure x
    | none => M.stuck
  | some (.prop g) => noErr (g [d])
  | none => M.stuck
structure AttrT (X : Cx) (G : Sg) (k : Nat) (m : Str) (tbl : Nat → Option At) : Prop where
  fld : ∀ c i, tbl c = some (.fld i) → Cls X.K (G.ca c) ∧ NoAttr X.K (G.ca c) m ∧ (G.fn c).Nodup ∧ (G.fn c)[i]? = some m
  prop : ∀ c g, tbl c = some (.prop g) → ∃ p f, Cls X.K (G.ca c) ∧ PropOf X.K (G.ca c) m p f ∧ FnX X G k f g
theorem px_nox : PassS X.nox (fun _ _ _ _ => False) := fun σ pins H s e s' I c => by
  obtain ⟨_, _, _, _, _, _, _, _, _, _, _, _, z⟩ := c
  exact z.elim
theorem run_prop {pins : List (Addr × Obj)} {H : Hp} {s : Shared} {Q : VK} {b : Bool} {E' : Value → Shared → Prop} {a C dx p : Addr} {fs : List (Str × V)} {m : Str} (hr : Rm (k + 1) X.A) (I : Inv X pins σ H s) (ea : H a = some (.ins C dx fs)) (cl : Cls X.K C)
    (hp : PropOf X.K C m p f) (F : FnX X G k f sem) (h : spV G sem [.ref a] H Q (fun _ _ _ => False)) : wpAny (model X.prog X.w) X.A (getAttr (.ref a) m b) (EP X pins σ Q) E' s := by
  obtain ⟨mA, O, _, _, _, _⟩ := ins_get I.hok ea
  obtain ⟨od, J, _⟩ := O.look
  obtain ⟨rest, hrec⟩ := hp.rec_
  have I1 := I.tok (s.toks + 1)
  have hc : (PySem.W.clsIn X.K C).isSome = true := by
    obtain ⟨cd, hc, _⟩ := PySem.W.any_some cl.hd
    exact hc ▸ rfl
  have pg := PySem.W.plainGet_of (cl.get m)
  have body := F.run X.A.in1 X.stack { s with toks := s.toks + 1 } H [.ref a] [.ref a] Q (fun _ _ _ => False) hr.in1 I1.env0.in1 (.cons rfl .nil) h
  refine PySem.W.get_bind I.kIn J pg.1 (PySem.W.findObj_data hc hp.at_ hp.get hp.tak) pg.2 (wpAny_call (PySem.W.prop_get (s := { s with toks := s.toks + 1 }) I.kIn hrec (codeAny_mono body ?_)))
  intro res s' hq
  rcases res with er | fl
  · obtain ⟨_, _, _, _, _, _, _, _, _, _, _, _, z⟩ := hq
    exact z.elim
  · cases fl with
    | ret u =>
      obtain ⟨v, H', I3, rv, q3⟩ := I1.after hq
      show wpAny _ _ (handedOut u) _ _ _
      rw [PySem.W.handedOut_of (handed_of rv)]
      exact wpAny_pure ⟨v, H', I3, rv, q3⟩
    | next => exact hq.elim
    | brk => exact hq.elim
    | cont => exact hq.elim
theorem noErr_fin {W' W'' : Value → Option Addr → Hp → Prop} {α β : Type} {rep : Wd → α → β → Prop} {w : Wd} {Q : β → Hp → Prop} {S : List Ob} {g : M α} (h : FinG G rep W' w Q (noErr g S)) : FinG G rep W'' w Q (g S) := by
  unfold noErr at h
  rcases hg : g S with _ | ⟨x | a, S2⟩
  · rw [hg] at h; exact h.elim
  · rw [hg] at h; exact h.elim
  · rw [hg] at h; exact h
theorem v_attr {m : Str} {tbl : Nat → Option At} {fo : List SV → M D} (c : Ctx G X W k) (T : AttrT X G k m tbl) (ho : PV G X W o fo) (hb : plainBase o = true) : PV G X W (.Attribute o m pos) (fun sd => M.bind (fo sd) (attr tbl)) := by
  constructor
  intro pins s σ H Q I ⟨w0, w, sd, S, eH, r, q⟩
  refine attr_of (attr_base hb) (thn (ho.run pins s σ H (fun v H1 => ∃ w1 S1 d, w1.H = H1 ∧ RepS G w1 S1 ∧ RepV G w1 d v ∧ FinG G (RepV G) (fun c x H => W c x σ H) w1 Q (attr tbl d S1)) I ?_) ?_)
  · exact ⟨w0, w, sd, S, eH, r, fin_step q fun w1 S1 d v e1 s1 rv q1 => ⟨w1, S1, d, rfl, s1, rv, q1⟩⟩
  · rintro u s1 ⟨v, H1, I1, rv, w1, S1, d, eH1, s1', rd, q1⟩
    subst eH1
    unfold attr M.bind at q1
    rcases hc : fldsOf d S1 with _ | ⟨x | ⟨c', ds⟩, S2⟩
    · rw [hc] at q1; exact q1.elim
    · exact absurd hc fldsOf_noerr
    · obtain ⟨rfl, a, dx, vs, ev, hv, hds⟩ := fldsOf_rep s1' rd hc
      subst ev
      obtain rfl : u = Value.ref a := rv
      rw [hc] at q1
      simp only at q1
      rcases ht : tbl c' with _ | ⟨i | g⟩
      · rw [ht] at q1; exact q1.elim
      · rw [ht] at q1
        simp only at q1
        obtain ⟨cl, na, nd, hi⟩ := T.fld c' i ht
        rcases hx : ds[i]? with _ | y
        · rw [hx] at q1; exact q1.elim
        · rw [hx] at q1
          obtain ⟨z, hz, rz⟩ := hds.get hx
          refine getattr_ok I1 hv cl na (lookup_zip_some nd hi hz) fun u2 s2 I2 r2 => ?_
          exact ⟨z, w1.H, I2, r2, fin_pure q1 s1' rz⟩
      · rw [ht] at q1
        obtain ⟨p, f, cl, hp, F⟩ := T.prop c' g ht
        exact run_prop c.rm I1 hv cl hp F ⟨w1, [d], S2, rfl, s1', ⟨_, _, rfl, rd, rfl⟩, noErr_fin q1⟩
end
end Ev
set_option maxRecDepth 100000
set_option maxHeartbeats 2000000
namespace Ev
open PySem PySem.Spec PyProof.Rows L2
inductive Out where
  | next (sd : List SV) | ret (d : D) | brk (sd : List SV) | cont (sd : List SV) | err (e : Exn) (sd : List SV)
abbrev MS : Type := List SV → List Ob → Option (Out × List Ob)
def FinS (G : Sg) (W : WX) (w0 w : Wd) (D : Ends) : Option (Out × List Ob) → Prop
  | none => False
  | some (.next sd, S) => ∀ w' σ', Stay w w' → R G w0 w' sd S σ' → D.nx σ' w'.H
  | some (.ret d, S) => ∀ w' v, Ext w0 w' → RepS G w' S → RepV G w' d v → D.rt v w'.H
  | some (.brk sd, S) => ∀ w' σ', Stay w w' → R G w0 w' sd S σ' → D.bk σ' w'.H
  | some (.cont sd, S) => ∀ w' σ', Stay w w' → R G w0 w' sd S σ' → D.ct σ' w'.H
  | some (.err e sd, S) => ∀ w' σ' cls x, Stay w w' → R G w0 w' sd S σ' → RepX G w' e cls x → W cls x σ' w'.H
def tsV (G : Sg) (W : WX) (f : MS) : TS := fun D σ H => ∃ w0 w sd S, w.H = H ∧ R G w0 w sd S σ ∧ FinS G W w0 w D (f sd S)
abbrev PSV (G : Sg) (X : Cx) (W : WX) (st : Stmt) (f : MS) : Prop := PS X st (tsV G W f)
abbrev PSsV (G : Sg) (X : Cx) (W : WX) (st : List Stmt) (f : MS) : Prop := PSs X st (tsV G W f)
theorem FinS.stay {G : Sg} {W : WX} {w0 w w1 : Wd} {D : Ends} {r : Option (Out × List Ob)} (e : Stay w w1) (h : FinS G W w0 w D r) : FinS G W w0 w1 D r := by
  rcases r with _ | ⟨_ | _ | _ | _ | _, _⟩
  · exact h
  · exact fun w' σ' s => h w' σ' (e.trans s)
  · exact h
  · exact fun w' σ' s => h w' σ' (e.trans s)
  · exact fun w' σ' s => h w' σ' (e.trans s)
  · exact fun w' σ' c x s => h w' σ' c x (e.trans s)
def exS {α : Type} (f : List SV → M α) (k : α → MS) : MS := fun sd S => match f sd S with
  | none => none
  | some (.error e, S1) => some (.err e sd, S1)
  | some (.ok d, S1) => k d sd S1
def seqS (f g : MS) : MS := fun sd S => match f sd S with
  | some (.next sd', S') => g sd' S'
  | o => o
def nextS : MS := fun sd S => some (.next sd, S)
def stuckS : MS := fun _ _ => none
section
variable {G : Sg} {X : Cx} {W : WX} {k : Nat} {w0 w : Wd} {En : Ends}
theorem exS_step {α β : Type} {rep : Wd → α → β → Prop} {f : List SV → M α} {kk : α → MS} {sd : List SV} {S : List Ob} {σ : L2.St} {Q : β → Hp → Prop} (h : FinS G W w0 w En (exS f kk sd S)) (r : R G w0 w sd S σ)
    (c : ∀ w1 S1 d v, Ext w w1 → R G w0 w1 sd S1 σ → rep w1 d v → FinS G W w0 w1 En (kk d sd S1) → Q v w1.H) : FinG G rep (fun c x H => W c x σ H) w Q (f sd S) := by
  unfold exS at h
  rcases hf : f sd S with _ | ⟨_ | d, S1⟩
  · rw [hf] at h; exact h
  · rw [hf] at h
    exact fun w' cls x e s rx => h w' σ cls x (e.stay r.st.dj) (r.step e s) rx
  · rw [hf] at h
    exact fun w' v e s rv => c w' S1 d v e (r.step e s) rv (FinS.stay (e.stay r.st.dj) h)
theorem ss_nil : PSsV G X W [] nextS := by
  refine PSs.imp pss_nil fun D σ H h => ?_
  obtain ⟨w0, w, sd, S, e, r, q⟩ := h
  subst e
  exact q w σ (Stay.refl w) r
theorem ss_cons {st : Stmt} {rest : List Stmt} {f g : MS} (h1 : PSV G X W st f) (h2 : PSsV G X W rest g) : PSsV G X W (st :: rest) (seqS f g) := by
  refine PSs.imp (pss_cons h1 h2) fun D σ H h => ?_
  obtain ⟨w0, w, sd, S, e, r, q⟩ := h
  refine ⟨w0, w, sd, S, e, r, ?_⟩
  unfold seqS at q
  rcases hf : f sd S with _ | ⟨_ | _ | _ | _ | _, S1⟩
  · rw [hf] at q; exact q
  · rw [hf] at q
    exact fun w' σ' s r' => ⟨w0, w', _, S1, rfl, r', FinS.stay s q⟩
  · rw [hf] at q; exact q
  · rw [hf] at q; exact q
  · rw [hf] at q; exact q
  · rw [hf] at q; exact q
theorem ss_never {sts : List Stmt} : PSsV G X W sts stuckS := ⟨fun _ _ _ _ _ _ ⟨_, _, _, _, _, _, q⟩ => q.elim⟩
theorem s_never {st : Stmt} : PSV G X W st stuckS := ⟨fun _ _ _ _ _ _ ⟨_, _, _, _, _, _, q⟩ => q.elim⟩
theorem s_pass {pos : Pos} : PSV G X W (.Pass pos) nextS := by
  refine PS.imp ps_pass fun D σ H h => ?_
  obtain ⟨w0, w, sd, S, e, r, q⟩ := h
  subst e
  exact q w σ (Stay.refl w) r
theorem s_cont {pos : Pos} : PSV G X W (.Continue pos) (fun sd S => some (.cont sd, S)) := by
  refine PS.imp ps_continue fun D σ H h => ?_
  obtain ⟨w0, w, sd, S, e, r, q⟩ := h
  subst e
  exact q w σ (Stay.refl w) r
theorem s_brk {pos : Pos} : PSV G X W (.Break pos) (fun sd S => some (.brk sd, S)) := by
  refine PS.imp ps_break fun D σ H h => ?_
  obtain ⟨w0, w, sd, S, e, r, q⟩ := h
  subst e
  exact q w σ (Stay.refl w) r
def retS (f : List SV → M D) : MS := exS f fun d _ S => some (.ret d, S)
theorem s_ret {e : Expr} {f : List SV → M D} {pos : Pos} (h : PV G X W e f) : PSV G X W (.Return (some e) pos) (retS f) := by
  refine PS.imp (ps_ret h) fun D σ H q => ?_
  obtain ⟨w0, w, sd, S, e, r, q⟩ := q
  exact ⟨w0, w, sd, S, e, r, exS_step q r fun w1 S1 d v _ r1 rv q1 => q1 w1 v r1.ex r1.st rv⟩
theorem s_retN {pos : Pos} : PSV G X W (.Return none pos) (fun _ S => some (.ret .non, S)) := by
  refine PS.imp ps_retN fun D σ H h => ?_
  obtain ⟨w0, w, sd, S, e, r, q⟩ := h
  subst e
  exact q w .non r.ex r.st rfl
def swapFree : Expr → Bool
  | .ListComp .. | .SetComp .. | .DictComp .. => false
  | _ => true
theorem swap_free {e : Expr} {t : Option Expr} {l : Nat} {env : Env} (h : swapFree e = true) : swapsWith e t l env = pure false := by
  cases e <;> first | rfl | cases h
theorem s_expr {e : Expr} {f : List SV → M D} {pos : Pos} (h : PV G X W e f) (hs : swapFree e = true) : PSV G X W (.Expr e pos) (exS f fun _ => nextS) := by
  refine PS.imp (ps_expr h (swap_free hs)) fun D σ H q => ?_
  obtain ⟨w0, w, sd, S, e, r, q⟩ := q
  exact ⟨w0, w, sd, S, e, r, exS_step q r fun w1 S1 d v _ r1 rv q1 => q1 w1 σ (Stay.refl w1) r1⟩
theorem s_if {c : Expr} {a b : List Stmt} {fc : List SV → M Bool} {fa fb : MS} {pos : Pos} (hc : PB G X W c fc) (ha : PSsV G X W a fa) (hb : PSsV G X W b fb) :
    PSV G X W (.If c a b pos) (exS fc fun k => if k = true then fa else fb) := by
  refine PS.imp (ps_if hc ha hb) fun D σ H q => ?_
  obtain ⟨w0, w, sd, S, e, r, q⟩ := q
  refine ⟨w0, w, sd, S, e, r, exS_step q r fun w1 S1 d v _ r1 rv q1 => ?_⟩
  cases (show v = d from rv)
  cases d with
  | true => exact ⟨w0, w1, sd, S1, rfl, r1, q1⟩
  | false => exact ⟨w0, w1, sd, S1, rfl, r1, q1⟩
theorem R.setv {sd : List SV} {S : List Ob} {σ : L2.St} {d : D} {v : V} (r : R G w0 w sd S σ) (rv : RepV G w d v) (i : Nat) : R G w0 w (sd.set i (.val d)) S (σ.set i (some v)) := by
  have key : ∀ {j : Nat} {x : SV}, (sd.set i (.val d))[j]? = some x → (j = i ∧ i < sd.length ∧ x = .val d) ∨ (j ≠ i ∧ sd[j]? = some x) := fun {j x} h => by
    by_cases e : i = j
    · subst e
      by_cases l : i < sd.length
      · rw [List.getElem?_set_self l] at h
        cases h
        exact .inl ⟨rfl, l, rfl⟩
      · rw [List.getElem?_eq_none (by simpa using l)] at h
        cases h
    · rw [List.getElem?_set_ne e] at h
      exact .inr ⟨fun z => e z.symm, h⟩
  refine ⟨r.ex, r.st, by rw [List.length_set, List.length_set]; exact r.ln, fun j x h => ?_, fun j o h => ?_, fun j1 j2 o o' a h1 h2 h3 h4 => ?_, fun a o e h => by
    rcases key h with ⟨_, _, e⟩ | ⟨ne, h⟩
    · cases e
    · rw [List.getElem?_set_ne (fun z => ne z.symm)]
      exact r.sf a o e h⟩
  · rcases key h with ⟨rfl, l, e⟩ | ⟨ne, h⟩
    · cases e
      exact ⟨v, List.getElem?_set_self (by rw [r.ln]; exact l), rv⟩
    · rw [List.getElem?_set_ne (fun z => ne z.symm)]
      exact r.vl j x h
  · rcases key h with ⟨_, _, e⟩ | ⟨ne, h⟩
    · cases e
    · rw [List.getElem?_set_ne (fun z => ne z.symm)]
      exact r.ow j o h
  · rcases key h1 with ⟨_, _, e⟩ | ⟨n1, h1⟩
    · cases e
    · rcases key h2 with ⟨_, _, e⟩ | ⟨n2, h2⟩
      · cases e
      · rw [List.getElem?_set_ne (fun z => n1 z.symm)] at h3
        rw [List.getElem?_set_ne (fun z => n2 z.symm)] at h4
        exact r.ap j1 j2 o o' a h1 h2 h3 h4
abbrev Tgt : Type := D → List SV → List Ob → Option (List SV × List Ob)
abbrev Tgts : Type := List D → List SV → List Ob → Option (List SV × List Ob)
def FinT (G : Sg) (w0 w : Wd) (σ : L2.St) (ts : List Nat) (Q : L2.St → Hp → Prop) : Option (List SV × List Ob) → Prop
  | none => False
  | some (sd, S) => ∀ w' σ', Stay w w' → R G w0 w' sd S σ' → (∀ i, i ∉ ts → σ'[i]? = σ[i]?) → Q σ' w'.H
def tgV (G : Sg) (ts : List Nat) (f : Tgt) : TG := fun v σ H Q => ∃ w0 w sd S d, w.H = H ∧ R G w0 w sd S σ ∧ RepV G w d v ∧ FinT G w0 w σ ts Q (f d sd S)
def tgsV (G : Sg) (ts : List Nat) (n : Nat) (f : Tgts) : TGs := fun vs σ H Q => ∃ w0 w sd S ds, w.H = H ∧ R G w0 w sd S σ ∧ RepVs G w ds vs ∧ ds.length = n ∧ FinT G w0 w σ ts Q (f ds sd S)
abbrev PGV (G : Sg) (X : Cx) (ts : List Nat) (t : Expr) (f : Tgt) : Prop := PG X t (tgV G ts f)
abbrev PGsV (G : Sg) (X : Cx) (ts : List Nat) (n : Nat) (t : List Expr) (f : Tgts) : Prop := PGs X t (tgsV G ts n f)
theorem PG.imp {t : Expr} {g g' : TG} (h : PG X t g) (i : ∀ v σ H Q, g' v σ H Q → g v σ H Q) : PG X t g' := ⟨fun p s σ H v u Q I r q => h.run p s σ H v u Q I r (i _ _ _ _ q)⟩
theorem PGs.imp {t : List Expr} {g g' : TGs} (h : PGs X t g) (i : ∀ v σ H Q, g' v σ H Q → g v σ H Q) : PGs X t g' := ⟨fun p s σ H v u Q I r q => h.run p s σ H v u Q I r (i _ _ _ _ q)⟩
theorem PG.or {t : Expr} {g g' : TG} (h : PG X t g) (h' : PG X t g') : PG X t (fun v σ H Q => g v σ H Q ∨ g' v σ H Q) := ⟨fun p s σ H v u Q I r q => q.elim (h.run p s σ H v u Q I r) (h'.run p s σ H v u Q I r)⟩
def setT (i : Nat) : Tgt := fun d sd S => some (sd.set i (.val d), S)
theorem g_name {i : Nat} {x : Str} {pos : Pos} (hN : X.N.Nodup) (hi : X.N[i]? = some x) (hx : Loc X.env.scope x) (hf : X.fn x = true ∨ X.env.scope.names.lookup x = some .local) : PGV G X [i] (.Name x pos) (setT i) := by
  refine PG.imp (pg_name hN hi hx hf) fun v σ H Q q => ?_
  obtain ⟨w0, w, sd, S, d, e, r, rv, q⟩ := q
  subst e
  refine q w (σ.set i (some v)) (Stay.refl w) (r.setv rv i) fun j hj => ?_
  rw [List.getElem?_set_ne (fun z => hj (by rw [z]; exact List.mem_cons_self))]
theorem gs_nil : PGsV G X [] 0 [] (fun _ sd S => some (sd, S)) := by
  refine PGs.imp pgs_nil fun vs σ H Q q => ?_
  obtain ⟨w0, w, sd, S, ds, e, r, rv, hl, q⟩ := q
  subst e
  have ed : ds = [] := List.eq_nil_of_length_eq_zero hl
  subst ed
  exact ⟨rv, q w σ (Stay.refl w) r fun _ _ => rfl⟩
def consT (f : Tgt) (g : Tgts) : Tgts := fun ds sd S => match ds with
  | [] => none
  | d :: ds => match f d sd S with
    | none => none
    | some (sd1, S1) => g ds sd1 S1
def notStarT : Expr → Bool
  | .Starred _ _ => false
  | _ => true
theorem assignEach_cons {e : Expr} {es : List Expr} {env : Env} (h : notStar e = true) : assignEach (e :: es) env = (false, assign e env) :: assignEach es env := by
  cases e <;> first | rfl | cases h
theorem gs_cons {ts us : List Nat} {n : Nat} {e : Expr} {es : List Expr} {f : Tgt} {g : Tgts} (h1 : PGV G X ts e f) (h2 : PGsV G X us n es g) (hs : notStar e = true) : PGsV G X (ts ++ us) (n + 1) (e :: es) (consT f g) := by
  refine PGs.imp (pgs_cons h1 h2 (by rw [assignEach_cons hs]; rfl)) fun vs σ H Q q => ?_
  obtain ⟨w0, w, sd, S, ds, e, r, rv, hl, q⟩ := q
  subst e
  cases ds with
  | nil => exact q.elim
  | cons d ds =>
    obtain ⟨v, vr, ev, rd, rr⟩ := rv
    refine ⟨v, vr, ev, w0, w, sd, S, d, rfl, r, rd, ?_⟩
    unfold consT at q
    simp only at q
    rcases hf : f d sd S with _ | ⟨sd1, S1⟩
    · rw [hf] at q; exact q
    · rw [hf] at q
      simp only at q
      intro w1 σ1 s1 r1 k1
      refine ⟨w0, w1, sd1, S1, ds, rfl, r1, RepVs.stay s1 _ _ rr, by simpa using hl, ?_⟩
      rcases hg : g ds sd1 S1 with _ | ⟨sd2, S2⟩
      · rw [hg] at q; exact q
      · rw [hg] at q
        intro w2 σ2 s2 r2 k2
        refine q w2 σ2 (s1.trans s2) r2 fun i hi => ?_
        rw [k2 i (fun z => hi (List.mem_append_right _ z)), k1 i (fun z => hi (List.mem_append_left _ z))]
def tupT (n : Nat) (g : Tgts) : Tgt := fun d sd S => match d with
  | .tup ds => if ds.length = n then g ds sd S else none
  | .lst ds => if ds.length = n then g ds sd S else none
  | _ => none
theorem assignEach_len {env : Env} : ∀ {es : List Expr}, es.all notStar = true → (assignEach es env).length = es.length ∧ (assignEach es env).findIdx? (·.1) = none
  | [], _ => ⟨rfl, rfl⟩
  | e :: es, h => by
    have h : notStar e = true ∧ es.all notStar = true := by simpa using h
    obtain ⟨h1, h2⟩ := assignEach_len (env := env) h.2
    rw [assignEach_cons h.1]
    refine ⟨by rw [List.length_cons, List.length_cons, h1], ?_⟩
    rw [List.findIdx?_cons]
    show (if false = true then _ else _) = none
    rw [if_neg Bool.false_ne_true, h2]
    rfl
theorem g_tup {ts : List Nat} {es : List Expr} {j n : Nat} {g : Tgts} {pos : Pos} (cK : G.K = X.K) (hc : X.calm = true) (h : PGsV G X ts n es g) (hs : es.all notStar = true) (hn : es.length = n) : PGV G X ts (.Tuple es j pos) (tupT n g) := by
  have hl := assignEach_len (env := X.env) hs
  refine PG.imp (PG.or (pg_tup hc h (hl.1.trans hn) hl.2) (pg_lst hc h (hl.1.trans hn) hl.2)) fun v σ H Q q => ?_
  obtain ⟨w0, w, sd, S, d, e, r, rv, q⟩ := q
  subst e
  cases d with
  | tup ds =>
    obtain ⟨a, vs, ev, ha, rs⟩ := rv
    by_cases hd : ds.length = n
    · simp only [tupT, if_pos hd] at q
      exact .inl ⟨a, vs, ev, sqT_of cK ha, by rw [← rs.length]; exact hd, w0, w, sd, S, ds, rfl, r, rs, hd, q⟩
    · simp only [tupT, if_neg hd] at q
      exact q.elim
  | lst ds =>
    obtain ⟨a, vs, ev, fa, ha, rs⟩ := rv
    by_cases hd : ds.length = n
    · simp only [tupT, if_pos hd] at q
      exact .inr ⟨a, vs, ev, .of ha, by rw [← rs.length]; exact hd, w0, w, sd, S, ds, rfl, r, rs, hd, q⟩
    · simp only [tupT, if_neg hd] at q
      exact q.elim
  | _ => exact q.elim
def asgS (f : List SV → M D) (t : Tgt) : MS := exS f fun d sd S => match t d sd S with
  | some (sd', S') => some (.next sd', S')
  | none => none
theorem asg_fin {ts : List Nat} {t : Tgt} {d : D} {sd : List SV} {S : List Ob} {σ : L2.St} {v : V} (q : FinS G W w0 w En (match t d sd S with | some (sd', S') => some (.next sd', S') | none => none)) (r : R G w0 w sd S σ) (rv : RepV G w d v) : tgV G ts t v σ w.H En.nx := by
  refine ⟨w0, w, sd, S, d, rfl, r, rv, ?_⟩
  rcases ht : t d sd S with _ | ⟨sd1, S1⟩
  · rw [ht] at q; exact q
  · rw [ht] at q
    exact fun w' σ' s r' _ => q w' σ' s r'
theorem s_asg {ts : List Nat} {tg e : Expr} {f : List SV → M D} {t : Tgt} {pos : Pos} (he : PV G X W e f) (hg : PGV G X ts tg t) (hs : swapsWithSole [tg] e pos.line X.env = pure false) (hw : swappedStores [tg] e X.env = pure none) (hst : notStar tg = true) :
    PSV G X W (.Assign [tg] e pos) (asgS f t) := by
  refine PS.imp (ps_asg he hg hs hw (by rw [assignEach_cons hst]; rfl)) fun D σ H q => ?_
  obtain ⟨w0, w, sd, S, e, r, q⟩ := q
  exact ⟨w0, w, sd, S, e, r, exS_step q r fun w1 S1 d v e1 r1 rv q1 => asg_fin q1 r1 rv⟩
theorem s_set {i : Nat} {x : Str} {e : Expr} {f : List SV → M D} {pos pos' : Pos} (c : Ctx G X W k) (hi : X.N[i]? = some x) (hx : Loc X.env.scope x) (he : PV G X W e f) (hs : swapFree e = true) (hf : X.fn x = true ∨ X.env.scope.names.lookup x = some .local) :
    PSV G X W (.Assign [.Name x pos'] e pos) (asgS f (setT i)) := by
  refine PS.imp (ps_set c.nd hi hx he (swap_free hs) hf) fun D σ H q => ?_
  obtain ⟨w0, w, sd, S, e, r, q⟩ := q
  exact ⟨w0, w, sd, S, e, r, exS_step q r fun w1 S1 d v e1 r1 rv q1 => q1 w1 (σ.set i (some v)) (Stay.refl w1) (r1.setv rv i)⟩
def parS (i j : Nat) (f : List SV → M (List D)) : MS := exS f fun ds sd S => match ds with
  | [a, b] => some (.next ((sd.set i (.val a)).set j (.val b)), S)
  | _ => none
theorem s_par {n i j : Nat} {x y : Str} {a b : Expr} {f : List SV → M (List D)} {px py pt pos : Pos} {kt k2 : Nat} {pt2 : Pos} (c : Ctx G X W k) (hi : X.N[i]? = some x) (hj : X.N[j]? = some y) (hij : i ≠ j)
    (hx : X.env.scope.names.lookup x = some .local) (hy : X.env.scope.names.lookup y = some .local) (ha : PLn G X W n [a, b] f) (hw : swappedStores [.Tuple [.Name x px, .Name y py] kt pt] (.Tuple [a, b] k2 pt2) X.env = pure (some [x, y])) :
    PSV G X W (.Assign [.Tuple [.Name x px, .Name y py] kt pt] (.Tuple [a, b] k2 pt2) pos) (parS i j f) := by
  refine PS.imp (ps_par c.calm c.nd hi hj hij hx hy ha hw rfl) fun D σ H q => ?_
  obtain ⟨w0, w, sd, S, e, r, q⟩ := q
  refine ⟨w0, w, sd, S, e, r, exS_step q r fun w1 S1 ds vs e1 r1 rv q1 => ?_⟩
  rcases ds with _ | ⟨d1, _ | ⟨d2, _ | ⟨d3, ds⟩⟩⟩
  · exact q1.elim
  · exact q1.elim
  · obtain ⟨⟨v1, t1, e1, h1, v2, t2, e2, h2, e3⟩, _⟩ := rv
    subst e1 e2
    cases (show t2 = [] from e3)
    exact ⟨v1, v2, rfl, q1 w1 _ (Stay.refl w1) ((r1.setv h1 i).setv h2 j)⟩
  · exact q1.elim
end
end Ev
set_option maxRecDepth 100000
set_option maxHeartbeats 2000000
namespace Ev
open PySem PySem.Spec PyProof.Rows L2
structure Yld (G : Sg) (w : Wd) (ds : List D) (J : It) : Prop where
  stop : ∀ w' i, Stay w w' → ds.length ≤ i → J.stop i w'.H
  go : ∀ w' i, Stay w w' → i < ds.length → J.go i w'.H
  yld : ∀ w' i d x H' S, Stay w w' → RepS G w' S → ds[i]? = some d → J.yld i w'.H x H' → ∃ w'', w''.H = H' ∧ Ext w' w'' ∧ RepS G w'' S ∧ RepV G w'' d x
abbrev PIV (G : Sg) (X : Cx) (W : WX) (tg iter : Expr) (f : List SV → M (List D)) : Prop := PI X tg iter (fun σ H Rr => teG G (Yld G) W f σ H Rr)
theorem PI.imp {X : Cx} {t e : Expr} {g g' : TI} (h : PI X t e g) (i : ∀ σ H Q, g' σ H Q → g σ H Q) : PI X t e g' := ⟨fun p s σ H R I q => h.run p s σ H R I (i _ _ _ q)⟩
def seqOf : D → M (List D)
  | .lst ds => M.pure ds
  | .tup ds => M.pure ds
  | .scr ds => M.pure ds
  | _ => M.stuck
section
variable {G : Sg} {X : Cx} {W : WX} {k : Nat} {w : Wd}
theorem RepVs.get_len {ds : List D} {vs : List V} (h : RepVs G w ds vs) {i : Nat} : i < ds.length → ∃ v, vs[i]? = some v := fun hi => by
  obtain ⟨v, e, _⟩ := h.get (List.getElem?_eq_getElem hi)
  exact ⟨v, e⟩
theorem yld_list (cK : G.K = X.K) {ds : List D} {vs : List V} {a : Addr} (h : RdF w a (.lst vs) ∨ KLst G.K a vs) (r : RepVs G w ds vs) : Yld G w ds (Itl X.K a) := by
  have sq : ∀ w', Stay w w' → SqL X.K w'.H a vs := fun w' s => sqL_of cK (h.imp (fun z => z.stay s) id)
  refine ⟨fun w' i s hi => ⟨vs, sq w' s, by rw [← r.length]; exact hi⟩, fun w' i s hi => ?_, fun w' i d x H' S s st hd hy => ?_⟩
  · obtain ⟨v, e⟩ := r.get_len hi
    exact ⟨vs, v, sq w' s, e⟩
  · obtain ⟨e, hx⟩ := hy
    obtain ⟨v, ev, rv⟩ := r.get hd
    have := hx vs (sq w' s)
    rw [ev] at this
    cases this
    exact ⟨w', e.symm, Ext.refl _, st, RepV.stay s _ _ rv⟩
theorem yld_tup (cK : G.K = X.K) {ds : List D} {vs : List V} {a : Addr} (h : RdF w a (.tup vs) ∨ KTup G.K a vs) (r : RepVs G w ds vs) : Yld G w ds (Itt X.K a) := by
  have sq : ∀ w', Stay w w' → SqT X.K w'.H a vs := fun w' s => sqT_of cK (h.imp (fun z => z.stay s) id)
  refine ⟨fun w' i s hi => ⟨vs, sq w' s, by rw [← r.length]; exact hi⟩, fun w' i s hi => ?_, fun w' i d x H' S s st hd hy => ?_⟩
  · obtain ⟨v, e⟩ := r.get_len hi
    exact ⟨vs, v, sq w' s, e⟩
  · obtain ⟨e, hx⟩ := hy
    obtain ⟨v, ev, rv⟩ := r.get hd
    have := hx vs (sq w' s)
    rw [ev] at this
    cases this
    exact ⟨w', e.symm, Ext.refl _, st, RepV.stay s _ _ rv⟩
theorem PI.or {t e : Expr} {g g' : TI} (h : PI X t e g) (h' : PI X t e g') : PI X t e (fun σ H Q => g σ H Q ∨ g' σ H Q) := ⟨fun p s σ H R I q => q.elim (h.run p s σ H R I) (h'.run p s σ H R I)⟩
theorem RdF.list_ex {a : Addr} {vs : List V} (cK : G.K = X.K) (h : RdF w a (.lst vs) ∨ KLst G.K a vs) : ∃ xs, SqL X.K w.H a xs := ⟨vs, sqL_of cK h⟩
theorem i_seq {tg e : Expr} {f : List SV → M D} (c : Ctx G X W k) (he : PV G X W e f) : PIV G X W tg e (fun sd => M.bind (f sd) seqOf) := by
  refine PI.imp (PI.or (pi_list he) (pi_tup he)) fun σ H Q q => ?_
  obtain ⟨w0, w, sd, S, e, r, q⟩ := q
  rcases hf : f sd S with _ | ⟨x | d, S1⟩
  · simp only [M.bind, hf] at q; exact q.elim
  · refine .inl ⟨w0, w, sd, S, e, r, ?_⟩
    simp only [M.bind, hf] at q
    rw [hf]
    exact q
  · simp only [M.bind, hf] at q
    cases d with
    | lst ds =>
      refine .inl ⟨w0, w, sd, S, e, r, ?_⟩
      rw [hf]
      intro w' v e1 s1 rv
      obtain ⟨a, vs, ev, fa, ha, rs⟩ := rv
      have hh : RdF w' a (.lst vs) ∨ KLst G.K a vs := .inl ⟨fa, .inl ha⟩
      exact ⟨a, ev, ⟨vs, sqL_of c.cK hh⟩, q w' _ e1 s1 (yld_list c.cK hh rs)⟩
    | scr ds =>
      refine .inl ⟨w0, w, sd, S, e, r, ?_⟩
      rw [hf]
      intro w' v e1 s1 rv
      obtain ⟨a, vs, ev, hh, rs⟩ := rv
      exact ⟨a, ev, ⟨vs, sqL_of c.cK hh⟩, q w' _ e1 s1 (yld_list c.cK hh rs)⟩
    | tup ds =>
      refine .inr ⟨w0, w, sd, S, e, r, ?_⟩
      rw [hf]
      intro w' v e1 s1 rv
      obtain ⟨a, vs, ev, hh, rs⟩ := rv
      exact ⟨a, ev, ⟨vs, sqT_of c.cK hh⟩, q w' _ e1 s1 (yld_tup c.cK hh rs)⟩
    | _ => exact q.elim
def rngD (lo : Int) (n : Nat) : List D := (List.range n).map fun i => .int (lo + (i : Nat))
theorem yld_rng {lo : Int} {n : Nat} : Yld G w (rngD lo n) (Itr lo n) := by
  have hl : (rngD lo n).length = n := by unfold rngD; rw [List.length_map, List.length_range]
  refine ⟨fun w' i s hi => by rw [hl] at hi; exact hi, fun w' i s hi => by rw [hl] at hi; exact hi, fun w' i d x H' S s st hd hy => ?_⟩
  obtain ⟨e1, e2⟩ := hy
  refine ⟨w', e1.symm, Ext.refl _, st, ?_⟩
  unfold rngD at hd
  rw [List.getElem?_map] at hd
  rcases hr : (List.range n)[i]? with _ | j
  · rw [hr] at hd; cases hd
  · rw [hr] at hd
    have hj : i = j := by
      have h2 := List.getElem?_eq_some_iff.mp hr
      obtain ⟨h3, h4⟩ := h2
      rw [List.getElem_range] at h4
      exact h4
    cases hd
    rw [hj] at e2
    exact e2
def rng1 : List D → M (List D)
  | [.int j] => if -(2 ^ 62) ≤ j ∧ j < 2 ^ 62 then M.pure (rngD 0 j.toNat) else M.stuck
  | _ => M.stuck
def rng2 : List D → M (List D)
  | [.int i, .int j] => if (-(2 ^ 62) ≤ i ∧ i < 2 ^ 62) ∧ -(2 ^ 62) ≤ j ∧ j < 2 ^ 62 then M.pure (rngD i (j - i).toNat) else M.stuck
  | _ => M.stuck
theorem FinG.ite' {α β : Type} {rep : Wd → α → β → Prop} {W : Value → Option Addr → Hp → Prop} {w : Wd} {Q : β → Hp → Prop} {c : Prop} [Decidable c] {f : M α} {S : List Ob} (h : FinG G rep W w Q ((if c then f else M.stuck) S)) : c ∧ FinG G rep W w Q (f S) := FinG.ite h
theorem i_rng1 {tg a : Expr} {n : Nat} {f : List SV → M (List D)} {p pos : Pos} (hg : Gl X "range") (hm : X.mg "range" = none) (ha : PLn G X W n [a] f) (hs : notStar a = true) : PIV G X W tg (.Call (.Name "range" p) [a] [] pos) (fun sd => M.bind (f sd) rng1) := by
  refine PI.imp (pi_range1 hg hm ha (starEach_cons hs)) fun σ H Q q => ?_
  obtain ⟨w0, w, sd, S, e, r, q⟩ := q
  refine ⟨w0, w, sd, S, e, r, fin_step q fun w1 S1 ds vs e1 s1 rv q1 => ?_⟩
  rcases ds with _ | ⟨d, _ | ⟨d2, ds⟩⟩
  · exact q1.elim
  · cases d with
    | int j =>
      obtain ⟨v, t, ev, h1, h2⟩ := rv.1
      cases (show t = [] from h2)
      cases (show v = .int j from h1)
      obtain ⟨⟨c1, c2⟩, q1⟩ := FinG.ite q1
      exact ⟨j, ev, c1, c2, fin_pure q1 s1 yld_rng⟩
    | _ => exact q1.elim
  · cases d <;> exact q1.elim
theorem i_rng2 {tg a b : Expr} {n : Nat} {f : List SV → M (List D)} {p pos : Pos} (hg : Gl X "range") (hm : X.mg "range" = none) (ha : PLn G X W n [a, b] f) (hs : notStar a = true) (hs2 : notStar b = true) :
    PIV G X W tg (.Call (.Name "range" p) [a, b] [] pos) (fun sd => M.bind (f sd) rng2) := by
  refine PI.imp (pi_range2 hg hm ha (by rw [starEach_cons hs, starEach_cons hs2]; rfl) (by rw [starEach_cons hs2]; rfl)) fun σ H Q q => ?_
  obtain ⟨w0, w, sd, S, e, r, q⟩ := q
  refine ⟨w0, w, sd, S, e, r, fin_step q fun w1 S1 ds vs e1 s1 rv q1 => ?_⟩
  rcases ds with _ | ⟨d, _ | ⟨d2, _ | ⟨d3, ds⟩⟩⟩
  · exact q1.elim
  · cases d <;> exact q1.elim
  · cases d with
    | int i =>
      cases d2 with
      | int j =>
        obtain ⟨v, t, ev, h1, v2, t2, ev2, h2, h3⟩ := rv.1
        cases (show t2 = [] from h3)
        cases (show v = .int i from h1)
        cases (show v2 = .int j from h2)
        obtain ⟨⟨⟨c1, c2⟩, c3, c4⟩, q1⟩ := FinG.ite q1
        exact ⟨i, j, by rw [ev, ev2], ⟨c1, c2, c3, c4⟩, fin_pure q1 s1 yld_rng⟩
      | _ => exact q1.elim
    | _ => exact q1.elim
  · cases d <;> cases d2 <;> exact q1.elim
def loopS (t : Tgt) (body : MS) : List D → MS
  | [] => nextS
  | d :: ds => fun sd S => match t d sd S with
    | none => none
    | some (sd1, S1) => match body sd1 S1 with
      | some (.next sd2, S2) => loopS t body ds sd2 S2
      | some (.cont sd2, S2) => loopS t body ds sd2 S2
      | some (.brk sd2, S2) => some (.next sd2, S2)
      | o => o
def forS (f : List SV → M (List D)) (t : Tgt) (body : MS) : MS := exS f (loopS t body)
def setFree : Expr → Bool
  | .Set .. => false
  | _ => true
theorem set_free {e : Expr} {env : Env} (h : setFree e = true) : ∀ x, foldedSetIterable e env x = pure x := by
  intro x
  cases e <;> first | rfl | cases h
theorem drop_cons {α : Type} {l : List α} {i : Nat} (h : i < l.length) : ∃ d, l[i]? = some d ∧ l.drop i = d :: l.drop (i + 1) := ⟨l[i], List.getElem?_eq_getElem h, List.drop_eq_getElem_cons h⟩
theorem s_for {ts : List Nat} {tg iter : Expr} {body : List Stmt} {f : List SV → M (List D)} {t : Tgt} {fb : MS} {pos : Pos} (c : Ctx G X W k) (hi : PIV G X W tg iter f) (hg : PGV G X ts tg t) (hb : PSsV G X W body fb) (hs : setFree iter = true) :
    PSV G X W (.For tg iter body [] pos) (forS f t fb) := by
  refine PS.imp (ps_for c.po c.calm hi hg hb (set_free hs)) fun En σ H q => ?_
  obtain ⟨w0, w, sd, S, e, r, q⟩ := q
  refine ⟨w0, w, sd, S, e, r, exS_step q r fun w1 S1 ds J e1 r1 Y q1 => ?_⟩
  refine ⟨fun i m σ H => m = ds.length - i ∧ i ≤ ds.length ∧ ∃ w sd S, w.H = H ∧ Stay w1 w ∧ R G w0 w sd S σ ∧ FinS G W w0 w En (loopS t fb (ds.drop i) sd S), ⟨_, rfl, Nat.zero_le _, w1, sd, S1, rfl, Stay.refl _, r1, q1⟩, ?_⟩
  rintro i m σ2 H2 ⟨rfl, hi2, w2, sd2, S2, rfl, st2, r2, q2⟩
  by_cases hlt : i < ds.length
  · obtain ⟨d, hd, hdr⟩ := drop_cons hlt
    rw [hdr] at q2
    refine .inr ⟨Y.go w2 i st2 hlt, _, fun σ' H' hN => ⟨ds.length - (i + 1), by omega, hN⟩, fun x H' hy => ?_⟩
    obtain ⟨w3, rfl, e3, s3, rx⟩ := Y.yld w2 i d x H' S2 st2 r2.st hd hy
    have r3 := r2.step e3 s3
    refine ⟨w0, w3, sd2, S2, d, rfl, r3, rx, ?_⟩
    unfold loopS at q2
    rcases ht : t d sd2 S2 with _ | ⟨sd4, S4⟩
    · rw [ht] at q2; exact q2
    · rw [ht] at q2
      simp only at q2
      intro w4 σ4 st4 r4 _
      refine ⟨w0, w4, sd4, S4, rfl, r4, ?_⟩
      have st24 : Stay w2 w4 := (e3.stay r2.st.dj).trans st4
      rcases hb : fb sd4 S4 with _ | ⟨_ | _ | _ | _ | _, S5⟩
      · rw [hb] at q2; exact q2
      · rw [hb] at q2
        exact fun w5 σ5 st5 r5 => ⟨rfl, hlt, w5, _, S5, rfl, st2.trans (st24.trans st5), r5, FinS.stay (st24.trans st5) q2⟩
      · rw [hb] at q2; exact q2
      · rw [hb] at q2
        exact fun w5 σ5 st5 r5 => q2 w5 σ5 (st24.trans st5) r5
      · rw [hb] at q2
        exact fun w5 σ5 st5 r5 => ⟨rfl, hlt, w5, _, S5, rfl, st2.trans (st24.trans st5), r5, FinS.stay (st24.trans st5) q2⟩
      · rw [hb] at q2
        exact fun w5 σ5 cl y st5 r5 => q2 w5 σ5 cl y (st24.trans st5) r5
  · have e : i = ds.length := by omega
    subst e
    rw [List.drop_length] at q2
    exact .inl ⟨Y.stop w2 _ st2 (Nat.le_refl _), q2 w2 σ2 (Stay.refl _) r2⟩
def iterS (c : List SV → M Bool) (body : MS) : Nat → MS
  | 0 => stuckS
  | n + 1 => exS c fun b => if b = true then (fun sd S => match body sd S with
      | some (.next sd2, S2) => iterS c body n sd2 S2
      | some (.cont sd2, S2) => iterS c body n sd2 S2
      | some (.brk sd2, S2) => some (.next sd2, S2)
      | o => o) else nextS
def bigW : Nat := 2 ^ 64
def whileS (c : List SV → M Bool) (body : MS) : MS := iterS c body bigW
theorem s_while {cond : Expr} {body : List Stmt} {f : List SV → M Bool} {fb : MS} {pos : Pos} (c : Ctx G X W k) (hc : PB G X W cond f) (hb : PSsV G X W body fb) : PSV G X W (.While cond body [] pos) (whileS f fb) := by
  refine PS.imp (ps_while c.po hc hb) fun En σ H q => ?_
  obtain ⟨w0, w, sd, S, e, r, q⟩ := q
  refine ⟨fun m σ H => ∃ w sd S, w.H = H ∧ R G w0 w sd S σ ∧ FinS G W w0 w En (iterS f fb m sd S), ⟨bigW, w, sd, S, e, r, q⟩, ?_⟩
  rintro m σ1 H1 ⟨w1, sd1, S1, rfl, r1, q1⟩
  cases m with
  | zero => exact q1.elim
  | succ m =>
    unfold iterS at q1
    refine ⟨w0, w1, sd1, S1, rfl, r1, exS_step q1 r1 fun w2 S2 d v e2 r2 rv q2 => ?_⟩
    cases (show v = d from rv)
    cases d with
    | false => exact q2 w2 σ1 (Stay.refl _) r2
    | true =>
      refine ⟨_, fun σ' H' hN => ⟨m, Nat.lt_succ_self _, hN⟩, w0, w2, sd1, S2, rfl, r2, ?_⟩
      have q2 : FinS G W w0 w2 En (match fb sd1 S2 with
        | some (.next sd2, S2) => iterS f fb m sd2 S2
        | some (.cont sd2, S2) => iterS f fb m sd2 S2
        | some (.brk sd2, S2) => some (.next sd2, S2)
        | o => o) := q2
      rcases hb : fb sd1 S2 with _ | ⟨_ | _ | _ | _ | _, S5⟩
      · rw [hb] at q2; exact q2
      · rw [hb] at q2
        exact fun w5 σ5 st5 r5 => ⟨w5, _, S5, rfl, r5, FinS.stay st5 q2⟩
      · rw [hb] at q2; exact q2
      · rw [hb] at q2
        exact fun w5 σ5 st5 r5 => q2 w5 σ5 st5 r5
      · rw [hb] at q2
        exact fun w5 σ5 st5 r5 => ⟨w5, _, S5, rfl, r5, FinS.stay st5 q2⟩
      · rw [hb] at q2
        exact fun w5 σ5 cl y st5 r5 => q2 w5 σ5 cl y st5 r5
end
end Ev
set_option maxRecDepth 100000
set_option maxHeartbeats 2000000
namespace Ev
open PySem PySem.Spec PyProof.Rows L2
def Wd.wr (w : Wd) (p : Addr) (o : HO) : Wd := ⟨w.m, w.F, upd w.H p o, w.x⟩
def Wd.fz (w : Wd) (p : Addr) : Wd := ⟨w.m, fun a => w.F a ∨ a = p, w.H, w.x⟩
section
variable {G : Sg} {w w1 : Wd} {S : List Ob} {p : Addr} {o : HO}
theorem Stay.wr (h : ¬ w.F p) : Stay w (w.wr p o) := ⟨⟨[], by simp [Wd.wr]⟩, fun _ z => z, fun a u f z => by
  show upd w.H p o a = some u
  rw [upd_ne (fun e => h (by rw [← e]; exact f))]; exact z⟩
theorem RepS.wr (s : RepS G w S) (hf : ¬ w.F p) (hm : p ∉ w.m) : RepS G (w.wr p o) S := by
  refine ⟨s.len, s.nd, s.dj, fun a h => ?_, fun n a u h1 h2 => ?_⟩
  · show upd w.H p o a ≠ none
    rw [upd_ne (fun e => hf (by rw [← e]; exact h))]
    exact s.fh a h
  · have ne : a ≠ p := fun z => hm (z ▸ List.mem_of_getElem? h1)
    exact RepO.to (upd_ne ne) (Stay.wr hf) (s.ob n a u h1 h2)
theorem Ext.wr (e : Ext w1 w) (hp : w1.H p = none) : Ext w1 (w.wr p o) := by
  refine ⟨e.m, e.F, fun b u hm h => ?_, e.nm, e.nF, fun b h => ?_⟩
  · show upd w.H p o b = some u
    rw [upd_ne (fun z => by rw [z, hp] at h; cases h)]
    exact e.H b u hm h
  · have h : upd w.H p o b = none := h
    by_cases z : b = p
    · rw [z]; exact hp
    · rw [upd_ne z] at h
      exact e.al b h
theorem Stay.fz : Stay w (w.fz p) := ⟨⟨[], by simp [Wd.fz]⟩, fun _ z => .inl z, fun _ _ _ z => z⟩
theorem RepS.fz (s : RepS G w S) (hm : p ∉ w.m) (hh : w.H p ≠ none) : RepS G (w.fz p) S := by
  refine ⟨s.len, s.nd, fun a h => ?_, fun a h => ?_, fun n a u h1 h2 => RepO.to (w := w) (w' := w.fz p) rfl Stay.fz (s.ob n a u h1 h2)⟩
  · rcases h with h | h
    · exact s.dj a h
    · rw [h]; exact hm
  · rcases h with h | h
    · exact s.fh a h
    · rw [h]; exact hh
theorem Ext.fz (e : Ext w1 w) (hp : w1.H p = none) : Ext w1 (w.fz p) := by
  refine ⟨e.m, fun a h => .inl (e.F a h), e.H, e.nm, fun b h => ?_, e.al⟩
  rcases h with h | h
  · exact e.nF b h
  · exact .inr (h ▸ hp)
end
abbrev TgP : Type := D → List SV → Option (List SV)
abbrev TgPs : Type := List D → List SV → Option (List SV)
def FinP (G : Sg) (w0 w : Wd) (S : List Ob) (σ : L2.St) (ts : List Nat) (Q : L2.St → Hp → Prop) : Option (List SV) → Prop
  | none => False
  | some sd => ∀ σ', R G w0 w sd S σ' → (∀ i, i ∉ ts → σ'[i]? = σ[i]?) → σ'.length = σ.length → Q σ' w.H
def tgP (G : Sg) (ts : List Nat) (f : TgP) : TG := fun v σ H Q => ∃ w0 w sd S d, w.H = H ∧ R G w0 w sd S σ ∧ RepV G w d v ∧ FinP G w0 w S σ ts Q (f d sd)
def tgPs (G : Sg) (ts : List Nat) (n : Nat) (f : TgPs) : TGs := fun vs σ H Q => ∃ w0 w sd S ds, w.H = H ∧ R G w0 w sd S σ ∧ RepVs G w ds vs ∧ ds.length = n ∧ FinP G w0 w S σ ts Q (f ds sd)
abbrev PGP (G : Sg) (X : Cx) (ts : List Nat) (t : Expr) (f : TgP) : Prop := PG X t (tgP G ts f)
abbrev PGPs (G : Sg) (X : Cx) (ts : List Nat) (n : Nat) (t : List Expr) (f : TgPs) : Prop := PGs X t (tgPs G ts n f)
def nmP (i : Nat) : TgP := fun d sd => some (sd.set i (.val d))
def consP (f : TgP) (g : TgPs) : TgPs := fun ds sd => match ds with
  | [] => none
  | d :: ds => match f d sd with
    | none => none
    | some sd1 => g ds sd1
def tupP (n : Nat) (g : TgPs) : TgP := fun d sd => match d with
  | .tup ds => if ds.length = n then g ds sd else none
  | .lst ds => if ds.length = n then g ds sd else none
  | _ => none
section
variable {G : Sg} {X : Cx} {W : WX} {k : Nat} {w0 w : Wd}
theorem p_name {i : Nat} {x : Str} {pos : Pos} (hN : X.N.Nodup) (hi : X.N[i]? = some x) (hx : Loc X.env.scope x) (hf : X.fn x = true ∨ X.env.scope.names.lookup x = some .local) : PGP G X [i] (.Name x pos) (nmP i) := by
  refine PG.imp (pg_name hN hi hx hf) fun v σ H Q q => ?_
  obtain ⟨w0, w, sd, S, d, e, r, rv, q⟩ := q
  subst e
  refine q (σ.set i (some v)) (r.setv rv i) (fun j hj => ?_) (List.length_set ..)
  rw [List.getElem?_set_ne (fun z => hj (by rw [z]; exact List.mem_cons_self))]
theorem ps_nilP : PGPs G X [] 0 [] (fun _ sd => some sd) := by
  refine PGs.imp pgs_nil fun vs σ H Q q => ?_
  obtain ⟨w0, w, sd, S, ds, e, r, rv, hl, q⟩ := q
  subst e
  have ed : ds = [] := List.eq_nil_of_length_eq_zero hl
  subst ed
  exact ⟨rv, q σ r (fun _ _ => rfl) rfl⟩
theorem ps_consP {ts us : List Nat} {n : Nat} {e : Expr} {es : List Expr} {f : TgP} {g : TgPs} (h1 : PGP G X ts e f) (h2 : PGPs G X us n es g) (hs : notStar e = true) : PGPs G X (ts ++ us) (n + 1) (e :: es) (consP f g) := by
  refine PGs.imp (pgs_cons h1 h2 (by rw [assignEach_cons hs]; rfl)) fun vs σ H Q q => ?_
  obtain ⟨w0, w, sd, S, ds, e, r, rv, hl, q⟩ := q
  subst e
  cases ds with
  | nil => exact q.elim
  | cons d ds =>
    obtain ⟨v, vr, ev, rd, rr⟩ := rv
    refine ⟨v, vr, ev, w0, w, sd, S, d, rfl, r, rd, ?_⟩
    unfold consP at q
    simp only at q
    rcases hf : f d sd with _ | sd1
    · rw [hf] at q; exact q
    · rw [hf] at q
      simp only at q
      intro σ1 r1 k1 l1
      refine ⟨w0, w, sd1, S, ds, rfl, r1, rr, by simpa using hl, ?_⟩
      rcases hg : g ds sd1 with _ | sd2
      · rw [hg] at q; exact q
      · rw [hg] at q
        intro σ2 r2 k2 l2
        refine q σ2 r2 (fun i hi => ?_) (l2.trans l1)
        rw [k2 i (fun z => hi (List.mem_append_right _ z)), k1 i (fun z => hi (List.mem_append_left _ z))]
theorem p_tup {ts : List Nat} {es : List Expr} {j n : Nat} {g : TgPs} {pos : Pos} (cK : G.K = X.K) (hc : X.calm = true) (h : PGPs G X ts n es g) (hs : es.all notStar = true) (hn : es.length = n) : PGP G X ts (.Tuple es j pos) (tupP n g) := by
  have hl := assignEach_len (env := X.env) hs
  refine PG.imp (PG.or (pg_tup hc h (hl.1.trans hn) hl.2) (pg_lst hc h (hl.1.trans hn) hl.2)) fun v σ H Q q => ?_
  obtain ⟨w0, w, sd, S, d, e, r, rv, q⟩ := q
  subst e
  cases d with
  | tup ds =>
    obtain ⟨a, vs, ev, ha, rs⟩ := rv
    by_cases hd : ds.length = n
    · simp only [tupP, if_pos hd] at q
      exact .inl ⟨a, vs, ev, sqT_of cK ha, by rw [← rs.length]; exact hd, w0, w, sd, S, ds, rfl, r, rs, hd, q⟩
    · simp only [tupP, if_neg hd] at q
      exact q.elim
  | lst ds =>
    obtain ⟨a, vs, ev, fa, ha, rs⟩ := rv
    by_cases hd : ds.length = n
    · simp only [tupP, if_pos hd] at q
      exact .inr ⟨a, vs, ev, .of ha, by rw [← rs.length]; exact hd, w0, w, sd, S, ds, rfl, r, rs, hd, q⟩
    · simp only [tupP, if_neg hd] at q
      exact q.elim
  | _ => exact q.elim
def upT (f : TgP) : Tgt := fun d sd S => match f d sd with
  | none => none
  | some sd' => some (sd', S)
theorem PGP.up {ts : List Nat} {t : Expr} {f : TgP} (h : PGP G X ts t f) : PGV G X ts t (upT f) := by
  refine PG.imp h fun v σ H Q q => ?_
  obtain ⟨w0, w, sd, S, d, e, r, rv, q⟩ := q
  refine ⟨w0, w, sd, S, d, e, r, rv, ?_⟩
  unfold upT at q
  rcases hf : f d sd with _ | sd1
  · rw [hf] at q; exact q
  · rw [hf] at q
    exact fun σ' r' k' _ => q w σ' (Stay.refl w) r' k'
def wipeD (sd : List SV) : List Nat → List SV
  | [] => sd
  | v :: vs => (wipeD sd vs).set v .no
theorem R.setno {sd : List SV} {S : List Ob} {σ : L2.St} (r : R G w0 w sd S σ) (i : Nat) : R G w0 w (sd.set i .no) S (σ.set i none) := by
  have key : ∀ {j : Nat} {x : SV}, (sd.set i .no)[j]? = some x → x ≠ .no → j ≠ i ∧ sd[j]? = some x := fun {j x} h hx => by
    by_cases e : i = j
    · subst e
      by_cases l : i < sd.length
      · rw [List.getElem?_set_self l] at h
        cases h
        exact absurd rfl hx
      · rw [List.getElem?_eq_none (by simpa using l)] at h
        cases h
    · rw [List.getElem?_set_ne e] at h
      exact ⟨fun z => e z.symm, h⟩
  refine ⟨r.ex, r.st, by rw [List.length_set, List.length_set]; exact r.ln, fun j x h => ?_, fun j o h => ?_, fun j1 j2 o o' a h1 h2 h3 h4 => ?_, fun a o e h => by
    obtain ⟨ne, h⟩ := key h (fun z => nomatch z)
    rw [List.getElem?_set_ne (fun z => ne z.symm)]
    exact r.sf a o e h⟩
  · obtain ⟨ne, h⟩ := key h (fun z => nomatch z)
    rw [List.getElem?_set_ne (fun z => ne z.symm)]
    exact r.vl j x h
  · obtain ⟨ne, h⟩ := key h (fun z => nomatch z)
    rw [List.getElem?_set_ne (fun z => ne z.symm)]
    exact r.ow j o h
  · obtain ⟨n1, h1⟩ := key h1 (fun z => nomatch z)
    obtain ⟨n2, h2⟩ := key h2 (fun z => nomatch z)
    rw [List.getElem?_set_ne (fun z => n1 z.symm)] at h3
    rw [List.getElem?_set_ne (fun z => n2 z.symm)] at h4
    exact r.ap j1 j2 o o' a h1 h2 h3 h4
theorem R.wipe {sd : List SV} {S : List Ob} {σ : L2.St} (r : R G w0 w sd S σ) : ∀ vs : List Nat, R G w0 w (wipeD sd vs) S (wipe σ vs)
  | [] => r
  | v :: vs => (R.wipe r vs).setno v
theorem wipe_get (σ : L2.St) : ∀ (vs : List Nat) (j : Nat), (wipe σ vs)[j]? = if j ∈ vs then (if j < σ.length then some none else none) else σ[j]?
  | [], j => by simp [wipe]
  | v :: vs, j => by
    unfold wipe
    by_cases e : v = j
    · subst e
      rw [if_pos List.mem_cons_self]
      by_cases l : v < σ.length
      · rw [List.getElem?_set_self (by rw [wipe_length]; exact l), if_pos l]
      · rw [List.getElem?_eq_none (by rw [List.length_set, wipe_length]; omega), if_neg l]
    · rw [List.getElem?_set_ne e, wipe_get σ vs j]
      have : (j ∈ v :: vs) ↔ j ∈ vs := by simp [Ne.symm e, eq_comm, show ¬ j = v from fun z => e z.symm]
      by_cases hj : j ∈ vs
      · rw [if_pos hj, if_pos (this.mpr hj)]
      · rw [if_neg hj, if_neg (fun z => hj (this.mp z))]
theorem wipe_same {σ σ' : L2.St} {ts vs : List Nat} (h : ∀ i, i ∉ ts → σ'[i]? = (wipe σ vs)[i]?) (hl : σ'.length = (wipe σ vs).length) (hs : ∀ i ∈ ts, i ∈ vs) : wipe σ' vs = wipe σ vs := by
  refine List.ext_getElem? fun j => ?_
  rw [wipe_get σ' vs j, hl, wipe_length]
  by_cases hj : j ∈ vs
  · rw [if_pos hj, wipe_get σ vs j, if_pos hj]
  · rw [if_neg hj]
    exact h j fun z => hj (hs j z)
theorem fin_split {α β γ δ : Type} {G : Sg} {rep : Wd → α → β → Prop} {rep' : Wd → γ → δ → Prop} {W W' : Value → Option Addr → Hp → Prop} {wA wB : Wd} {Q : β → Hp → Prop} {Q' : δ → Hp → Prop} {f : M α} {k : α → M γ} {S : List Ob}
    (h : FinG G rep' W wA Q' (M.bind (noErr f) k S)) (c : ∀ w' S1 d v, Ext wB w' → RepS G w' S1 → rep w' d v → FinG G rep' W wA Q' (k d S1) → Q v w'.H) : FinG G rep W' wB Q (f S) := by
  unfold M.bind noErr at h
  rcases hf : f S with _ | ⟨_ | d, S1⟩
  · rw [hf] at h; exact h.elim
  · rw [hf] at h; exact h.elim
  · rw [hf] at h
    exact fun w' v e s r => c w' S1 d v e s r h
abbrev NoW : WX := fun _ _ _ _ => False
def compS (t : TgP) (tt : List SV → M Bool) (fe : List SV → M D) (sdw : List SV) : List D → List D → M (List D)
  | [], acc => M.pure acc
  | d :: ds, acc => match t d sdw with
    | none => M.stuck
    | some sd1 => M.bind (noErr (tt sd1)) fun b => if b = true then M.bind (noErr (fe sd1)) fun y => if acc.length < lim then compS t tt fe sdw ds (acc ++ [y]) else M.stuck else compS t tt fe sdw ds acc
def lcS (fi : List SV → M (List D)) (vs : List Nat) (t : TgP) (tt : List SV → M Bool) (fe : List SV → M D) : List SV → M D := fun sd => M.bind (fi sd) fun ds => M.bind (compS t tt fe (wipeD sd vs) ds []) fun acc => M.pure (.lst acc)
abbrev PTsV (G : Sg) (X : Cx) (W : WX) (es : List Expr) (f : List SV → M Bool) : Prop := PTs X es (teB G W f)
theorem PTs.imp {X : Cx} {e : List Expr} {t t' : TT} (h : PTs X e t) (i : ∀ σ H Q, t' σ H Q → t σ H Q) : PTs X e t' := ⟨fun p s σ H Q I q => h.run p s σ H Q I (i σ H Q q)⟩
theorem t_nil : PTsV G X W [] (fun _ => M.pure true) := by
  refine PTs.imp pts_nil fun σ H Q h => ?_
  obtain ⟨w0, w, sd, S, e, r, q⟩ := h
  subst e
  exact fin_pure q r.st rfl
theorem t_one {c : Expr} {f : List SV → M Bool} (h : PB G X W c f) : PTsV G X W [c] f := pts_one h
theorem lc_read {fi : List SV → M (List D)} {ts vs : List Nat} {t : TgP} {tt : List SV → M Bool} {fe : List SV → M D} (hts : ∀ i ∈ ts, i ∈ vs) {σ : L2.St} {H : Hp} {Q : VK} (h : teV G W (lcS fi vs t tt fe) σ H Q) :
    tLc (fun σ H Rr => teG G (Yld G) W fi σ H Rr) (tgP G ts t) (teB G NoW tt) (teV G NoW fe) vs σ H Q := by
  obtain ⟨w0, w, sd, S, e, r, q⟩ := h
  refine ⟨w0, w, sd, S, e, r, fin_step q fun w1 S1 ds J e1 s1 Y q1 => ?_⟩
  intro L hL
  have r1 := (r.step e1 s1).wipe vs
  have dj1 := s1.dj
  refine ⟨fun i m H => m = ds.length - i ∧ i ≤ ds.length ∧ ∃ w2 S2 acc xs, w2.H = H ∧ Ext w1 w2 ∧ RepS G w2 S2 ∧ w2.H L = some (.lst xs) ∧ RepVs G w2 acc xs ∧ ¬ w2.F L ∧ L ∉ w2.m ∧
    FinG G (RepV G) (fun c x H => W c x σ H) w1 Q (M.bind (compS t tt fe (wipeD sd vs) (ds.drop i) acc) (fun acc => M.pure (.lst acc)) S2),
    ⟨_, rfl, Nat.zero_le _, w1.new L (.lst []), S1, [], [], rfl, Ext.new hL, s1.new hL, upd_same, rfl, fun z => s1.fh L z hL, fun z => s1.there z hL, q1⟩, ?_⟩
  rintro i m H2 ⟨rfl, hi2, w2, S2, acc, xs, rfl, e2, s2, hx2, ra, nF, nm, q2⟩
  by_cases hlt : i < ds.length
  · obtain ⟨d, hd, hdr⟩ := drop_cons hlt
    rw [hdr] at q2
    have st2 := e2.stay dj1
    refine .inr ⟨Y.go w2 i st2 hlt, _, fun H' hN => ⟨ds.length - (i + 1), by omega, hN⟩, fun x H' hy => ?_⟩
    obtain ⟨w3, rfl, e3, s3, rx⟩ := Y.yld w2 i d x H' S2 st2 s2 hd hy
    have r3 := r1.step (e2.trans e3) s3
    refine ⟨w0, w3, _, S2, d, rfl, r3, rx, ?_⟩
    unfold compS at q2
    rcases ht : t d (wipeD sd vs) with _ | sd4
    · rw [ht] at q2; exact q2.elim
    · rw [ht] at q2
      simp only at q2
      intro σ4 r4 k4 l4
      refine ⟨wipe_same k4 l4 hts, ?_⟩
      rw [M.bind_assoc] at q2
      refine ⟨w0, w3, sd4, S2, rfl, r4, ?_⟩
      refine fin_split q2 fun w5 S5 b b' e5 s5 rb q5 => ?_
      cases (show b' = b from rb)
      have hx : ∀ {wz : Wd}, Ext w3 wz → wz.H L = some (.lst xs) ∧ RepVs G wz acc xs ∧ ¬ wz.F L ∧ L ∉ wz.m := fun {wz} ez => by
        have e23 := e3.trans ez
        refine ⟨e23.H L _ nm hx2, RepVs.mono e23 s2.dj _ _ ra, fun z => ?_, fun z => ?_⟩
        · rcases e23.nF L z with z | z
          · exact nF z
          · rw [hx2] at z; cases z
        · rcases e23.nm L z with z | z
          · exact nm z
          · rw [hx2] at z; cases z
      cases b with
      | false =>
        obtain ⟨h1, h2, h3, h4⟩ := hx e5
        exact ⟨rfl, hlt, w5, S5, acc, xs, rfl, e2.trans (e3.trans e5), s5, h1, h2, h3, h4, q5⟩
      | true =>
        have q5 : FinG G (RepV G) (fun c x H => W c x σ H) w1 Q (M.bind (M.bind (noErr (fe sd4)) fun y => if acc.length < lim then compS t tt fe (wipeD sd vs) (ds.drop (i + 1)) (acc ++ [y]) else M.stuck) (fun acc => M.pure (.lst acc)) S5) := q5
        rw [M.bind_assoc] at q5
        refine ⟨w0, w5, sd4, S5, rfl, r4.step e5 s5, fin_split q5 fun w6 S6 y v e6 s6 ry q6 => ?_⟩
        obtain ⟨h1, h2, h3, h4⟩ := hx (e5.trans e6)
        rw [M.bind_ite] at q6
        obtain ⟨c6, q6⟩ := FinG.ite q6
        have e16 : Ext w1 w6 := e2.trans (e3.trans (e5.trans e6))
        refine ⟨xs, h1, by rw [← h2.length, ← lim_eq]; exact c6, rfl, hlt, w6.wr L (.lst (xs ++ [v])), S6, acc ++ [y], xs ++ [v], rfl, Ext.wr e16 hL, s6.wr h3 h4, upd_same, ?_, h3, h4, q6⟩
        exact RepVs.append (RepVs.stay (Stay.wr h3) _ _ h2) (RepVs.one (RepV.stay (Stay.wr h3) _ _ ry))
  · have e : i = ds.length := by omega
    subst e
    rw [List.drop_length] at q2
    refine .inl ⟨Y.stop w2 _ (e2.stay dj1) (Nat.le_refl _), ?_⟩
    refine q2 (w2.fz L) _ (Ext.fz e2 hL) (s2.fz nm (by rw [hx2]; exact fun z => nomatch z)) ⟨L, xs, rfl, .inr rfl, hx2, RepVs.stay Stay.fz _ _ ra⟩
theorem v_lc {elt tg iter : Expr} {ifs : List Expr} {scope : Scope} {own : List (Str × Nat)} {pos : Pos} {fi : List SV → M (List D)} {ts : List Nat} {t : TgP} {tt : List SV → M Bool} {fe : List SV → M D} (c : Ctx G X W k) (hi : PIV G X W tg iter fi) (ok : BlkOk X.N X.env.scope scope own)
    (hg : ∀ (s : Shared) (H : Hp) (C : Addr) (cl : List (Str × Addr)) (fp : List Addr), PGP G (X.blk s H scope (compEnvC scope cl C X.env) fp) ts tg t) (ht : ∀ (s : Shared) (H : Hp) (C : Addr) (cl : List (Str × Addr)) (fp : List Addr), PTsV G (X.blk s H scope (compEnvC scope cl C X.env) fp) NoW ifs tt)
    (he : ∀ (s : Shared) (H : Hp) (C : Addr) (cl : List (Str × Addr)) (fp : List Addr), PV G (X.blk s H scope (compEnvC scope cl C X.env) fp) NoW elt fe) (hs : setFree iter = true) (hts : ∀ i ∈ ts, i ∈ own.map (·.2)) :
    PV G X W (.ListComp elt [⟨tg, iter, ifs, 0⟩] scope pos) (lcS fi (own.map (·.2)) t tt fe) :=
  PE.imp (pe_lc c.calm c.nd hi ok hg ht he (set_free hs)) fun σ H Q h => lc_read hts h
theorem s_lc {i : Nat} {y : Str} {py : Pos} {elt tg iter : Expr} {ifs : List Expr} {scope : Scope} {own : List (Str × Nat)} {pos spos : Pos} {fi : List SV → M (List D)} {ts : List Nat} {t : TgP} {tt : List SV → M Bool} {fe : List SV → M D} (c : Ctx G X W k) (hy : X.N[i]? = some y) (hyl : X.env.scope.names.lookup y = some .local)
    (hsw : swapsWith (.ListComp elt [⟨tg, iter, ifs, 0⟩] scope pos) (some (.Name y py)) spos.line X.env = pure true) (hi : PIV G X W tg iter fi) (ok : BlkOk X.N X.env.scope scope own)
    (hg : ∀ (s : Shared) (H : Hp) (C : Addr) (cl : List (Str × Addr)) (fp : List Addr), PGP G (X.blk s H scope (compEnvC scope cl C X.env) fp) ts tg t) (ht : ∀ (s : Shared) (H : Hp) (C : Addr) (cl : List (Str × Addr)) (fp : List Addr), PTsV G (X.blk s H scope (compEnvC scope cl C X.env) fp) NoW ifs tt)
    (he : ∀ (s : Shared) (H : Hp) (C : Addr) (cl : List (Str × Addr)) (fp : List Addr), PV G (X.blk s H scope (compEnvC scope cl C X.env) fp) NoW elt fe) (hs : setFree iter = true) (hts : ∀ i ∈ ts, i ∈ own.map (·.2)) :
    PSV G X W (.Assign [.Name y py] (.ListComp elt [⟨tg, iter, ifs, 0⟩] scope pos) spos) (asgS (lcS fi (own.map (·.2)) t tt fe) (setT i)) := by
  refine PS.imp (ps_setLc c.calm c.nd hy hyl hsw hi ok hg ht he (set_free hs)) fun En σ H h => ?_
  obtain ⟨w0, w, sd, S, e, r, q⟩ := h
  refine lc_read (W := W) (G := G) hts (Q := fun x H1 => En.nx (σ.set i (some x)) H1) ⟨w0, w, sd, S, e, r, exS_step q r fun w1 S1 d v e1 r1 rv q1 => ?_⟩
  exact q1 w1 (σ.set i (some v)) (Stay.refl w1) (r1.setv rv i)
theorem Ctx.blk (c : Ctx G X W k) (s : Shared) (H : Hp) (scope : Scope) (cenv : Env) (fp : List Addr) : Ctx G (X.blk s H scope cenv fp) NoW k :=
  ⟨c.cK, c.calm, c.rm, c.nd, fun σ pins H s e s' I c => by
    obtain ⟨_, _, _, _, _, _, _, _, _, _, _, _, z⟩ := c
    exact z.elim, PassesOwn.never⟩
end
end Ev
set_option maxRecDepth 100000
set_option maxHeartbeats 2000000
namespace Ev
open PySem PySem.Spec PyProof.Rows L2
mutual
def toP : D → Option PyData
  | .non => some .none
  | .bl b => some (.bool b)
  | .int i => some (.int i)
  | .str x => some (.str x)
  | .tup ds => (toPs ds).map .tuple
  | .lst ds => (toPs ds).map .list
  | .scr ds => (toPs ds).map .list
  | .dct _ _ => none
  | .ins _ _ => none
  | .ref _ => none
  | .ty _ => none
  | .cls _ => none
def toPs : List D → Option (List PyData)
  | [] => some []
  | d :: ds => match toP d, toPs ds with
    | some p, some ps => some (p :: ps)
    | _, _ => none
end
section
variable {G : Sg} {X : Cx} {W : WX} {k : Nat} {w : Wd}
mutual
theorem toP_dp (cK : G.K = X.K) : ∀ (d : D) (v : V) (p : PyData), RepV G w d v → toP d = some p → Dp X.K w.H v p
  | .non, v, p, r, h => by cases h; cases (show v = .non from r); exact .non
  | .bl b, v, p, r, h => by cases h; cases (show v = .bl b from r); exact .bl b
  | .int i, v, p, r, h => by cases h; cases (show v = .int i from r); exact .int i
  | .str x, v, p, r, h => by cases h; cases (show v = .str x from r); exact .str x
  | .tup ds, v, p, r, h => by
    obtain ⟨a, vs, e, hh, rs⟩ := r
    subst e
    unfold toP at h
    obtain ⟨ps, h1, h2⟩ := Option.map_eq_some_iff.mp h
    subst h2
    exact .tup (sqT_of cK hh) (toPs_dp cK ds vs ps rs h1)
  | .lst ds, v, p, r, h => by
    obtain ⟨a, vs, e, fa, hh, rs⟩ := r
    subst e
    unfold toP at h
    obtain ⟨ps, h1, h2⟩ := Option.map_eq_some_iff.mp h
    subst h2
    exact .lst (.of hh) (toPs_dp cK ds vs ps rs h1)
  | .scr ds, v, p, r, h => by
    obtain ⟨a, vs, e, hh, rs⟩ := r
    subst e
    unfold toP at h
    obtain ⟨ps, h1, h2⟩ := Option.map_eq_some_iff.mp h
    subst h2
    exact .lst (sqL_of cK hh) (toPs_dp cK ds vs ps rs h1)
  | .dct _ _, _, _, _, h => by unfold toP at h; cases h
  | .ins _ _, _, _, _, h => by unfold toP at h; cases h
  | .ref _, _, _, _, h => by unfold toP at h; cases h
  | .ty _, _, _, _, h => by unfold toP at h; cases h
  | .cls _, _, _, _, h => by unfold toP at h; cases h
theorem toPs_dp (cK : G.K = X.K) : ∀ (ds : List D) (vs : List V) (ps : List PyData), RepVs G w ds vs → toPs ds = some ps → DpAll X.K w.H vs ps
  | [], vs, ps, r, h => by unfold toPs at h; cases h; cases (show vs = [] from r); exact .nil
  | d :: ds, vs, ps, r, h => by
    obtain ⟨v, t, e, h1, h2⟩ := r
    subst e
    unfold toPs at h
    rcases hp : toP d with _ | p
    · rw [hp] at h; cases h
    · rcases hq : toPs ds with _ | qs
      · rw [hp, hq] at h; cases h
      · rw [hp, hq] at h
        cases h
        exact .cons (toP_dp cK d v p h1 hp) (toPs_dp cK ds t qs h2 hq)
end
def dEq (neg : Bool) : D → D → M D
  | .int i, .int j => M.pure (.bl (if neg then !decide (i = j) else decide (i = j)))
  | .str i, .str j => M.pure (.bl (if neg then !decide (i = j) else decide (i = j)))
  | .bl i, .bl j => M.pure (.bl (if neg then !decide (i = j) else decide (i = j)))
  | d, e => match toP d, toP e with
    | some p, some q => if SeqAt.shaped p = true ∧ SeqAt.shaped q = true then M.pure (.bl (if neg then !PyData.eqv p q else PyData.eqv p q)) else M.stuck
    | _, _ => M.stuck
theorem FinG.stuck {α β : Type} {rep : Wd → α → β → Prop} {W : Value → Option Addr → Hp → Prop} {w : Wd} {Q : β → Hp → Prop} {S : List Ob} {P : Prop} (h : FinG G rep W w Q ((M.stuck : M α) S)) : P := h.elim
theorem eq_gen (cK : G.K = X.K) {W' : Value → Option Addr → Hp → Prop} {S : List Ob} {d e : D} {v u : V} {Q : VK} {neg : Bool} (s : RepS G w S) (r1 : RepV G w d v) (r2 : RepV G w e u)
    (q : FinG G (RepV G) W' w Q ((match toP d, toP e with
      | some p, some q => if SeqAt.shaped p = true ∧ SeqAt.shaped q = true then M.pure (.bl (if neg then !PyData.eqv p q else PyData.eqv p q)) else M.stuck
      | _, _ => M.stuck : M D) S)) : ∃ p q, Dp X.K w.H v p ∧ Dp X.K w.H u q ∧ SeqAt.shaped p = true ∧ SeqAt.shaped q = true ∧ Q (.bl (if neg then !PyData.eqv p q else PyData.eqv p q)) w.H := by
  rcases hp : toP d with _ | p
  · rw [hp] at q; exact q.elim
  · rcases hq : toP e with _ | p'
    · rw [hp, hq] at q; exact q.elim
    · rw [hp, hq] at q
      obtain ⟨⟨c1, c2⟩, q⟩ := FinG.ite q
      exact ⟨p, p', toP_dp cK d v p r1 hp, toP_dp cK e u p' r2 hq, c1, c2, fin_pure (b := V.bl _) q s rfl⟩
theorem o_eq (cK : G.K = X.K) (hr : Rm k X.A) : OpR X (compareOp .Eq) (rD2 G (dEq false)) := by
  refine OpR.imp (op_eq.or (op_eqD hr.room.units)) fun v u H Q q => ?_
  obtain ⟨W, w, S, d, e, rfl, s, r1, r2, q⟩ := q
  cases d <;> cases e <;> first
    | (refine .inr ?_
       obtain ⟨p, p', h1, h2, h3, h4, h5⟩ := eq_gen (neg := false) cK s r1 r2 q
       exact ⟨p, p', h1, h2, h3, h4, h5⟩)
    | (cases (show v = _ from r1)
       cases (show u = _ from r2)
       refine .inl ⟨rfl, ?_⟩
       have q2 := fin_pure (b := V.bl _) q s rfl
       simpa using q2)
theorem o_ne (cK : G.K = X.K) (hr : Rm k X.A) : OpR X (compareOp .NotEq) (rD2 G (dEq true)) := by
  refine OpR.imp (op_ne.or (op_neD hr.room.units)) fun v u H Q q => ?_
  obtain ⟨W, w, S, d, e, rfl, s, r1, r2, q⟩ := q
  cases d <;> cases e <;> first
    | (refine .inr ?_
       obtain ⟨p, p', h1, h2, h3, h4, h5⟩ := eq_gen (neg := true) cK s r1 r2 q
       exact ⟨p, p', h1, h2, h3, h4, h5⟩)
    | (cases (show v = _ from r1)
       cases (show u = _ from r2)
       refine .inl ⟨rfl, ?_⟩
       have q2 := fin_pure (b := V.bl _) q s rfl
       simpa using q2)
def isNonD : D → Bool
  | .non => true
  | _ => false
theorem isNon_rep {d : D} {v : V} (r : RepV G w d v) : decide (v = .non) = isNonD d := by
  cases d with
  | non => cases (show v = .non from r); rfl
  | bl b => cases (show v = .bl b from r); rfl
  | int b => cases (show v = .int b from r); rfl
  | str b => cases (show v = .str b from r); rfl
  | tup ds => obtain ⟨a, vs, e, _⟩ := r; subst e; rfl
  | lst ds => obtain ⟨a, vs, e, _⟩ := r; subst e; rfl
  | scr ds => obtain ⟨a, vs, e, _⟩ := r; subst e; rfl
  | dct ks ds => obtain ⟨a, vs, e, _⟩ := r; subst e; rfl
  | ins c ds => obtain ⟨a, dx, vs, e, _⟩ := r; subst e; rfl
  | ref n => obtain ⟨a, e, _⟩ := r; subst e; rfl
  | ty t => cases (show v = .ty t.name from r); rfl
  | cls c => cases (show v = .ref (G.ca c) from r); rfl
def dIs (neg : Bool) : D → D → M D
  | d, .non => M.pure (.bl (if neg then !isNonD d else isNonD d))
  | _, _ => M.stuck
theorem o_is : OpR X (compareOp .Is) (rD2 G (dIs false)) := by
  refine OpR.imp op_isN fun v u H Q q => ?_
  obtain ⟨W, w, S, d, e, rfl, s, r1, r2, q⟩ := q
  cases e with
  | non =>
    have q2 := fin_pure (b := V.bl _) (show FinG G (RepV G) W w Q (M.pure (.bl (isNonD d)) S) by cases d <;> exact q) s rfl
    exact ⟨r2, by rw [isNon_rep r1]; exact q2⟩
  | _ => cases d <;> exact q.elim
theorem o_isnot : OpR X (compareOp .IsNot) (rD2 G (dIs true)) := by
  refine OpR.imp op_notN fun v u H Q q => ?_
  obtain ⟨W, w, S, d, e, rfl, s, r1, r2, q⟩ := q
  cases e with
  | non =>
    have q2 := fin_pure (b := V.bl _) (show FinG G (RepV G) W w Q (M.pure (.bl (!isNonD d)) S) by cases d <;> exact q) s rfl
    exact ⟨r2, by rw [isNon_rep r1]; exact q2⟩
  | _ => cases d <;> exact q.elim
def dIx (d e : D) : M D := fun S => match e with
  | .int i => match d with
    | .lst ds => match atI ds i with | some x => some (.ok x, S) | none => none
    | .tup ds => match atI ds i with | some x => some (.ok x, S) | none => none
    | .scr ds => match atI ds i with | some x => some (.ok x, S) | none => none
    | .str z => if z.length ≤ lim then (match atI z.cps.toList i with | some c => some (.ok (.str ⟨#[c]⟩), S) | none => none) else none
    | .ref n => match S[n]? with
      | some (.lst ds) => match atI ds i with | some x => some (.ok x, S) | none => none
      | _ => none
    | _ => none
  | _ => none
theorem atI_rep {ds : List D} {vs : List V} {i : Int} {x : D} (r : RepVs G w ds vs) (h : atI ds i = some x) : ∃ v, atI vs i = some v ∧ RepV G w x v := by
  unfold atI at h ⊢
  rw [r.length] at h
  obtain ⟨j, h1, h2⟩ := Option.bind_eq_some_iff.mp h
  obtain ⟨v, h3, h4⟩ := r.get h2
  exact ⟨v, by rw [h1]; exact h3, h4⟩
theorem ix_D (cK : G.K = X.K) : IxR X (rD2 G dIx) := by
  have base := (ix_list (X := X)).or ((ix_tup (X := X)).or (ix_str (X := X)))
  intro a b pins s σ H x y v u Q I rx ry q
  refine base a b pins s σ H x y v u Q I rx ry ?_
  obtain ⟨W, w, S, d, e, rfl, st, r1, r2, q⟩ := q
  unfold dIx at q
  cases e with
  | int i =>
    cases (show y = .int i from r2)
    cases d with
    | lst ds =>
      obtain ⟨p, vs, rfl, f, hh, rs⟩ := r1
      rcases hx : atI ds i with _ | z
      · simp only [hx] at q; exact q.elim
      · simp only [hx] at q
        obtain ⟨v1, h1, h2⟩ := atI_rep rs hx
        exact .inl ⟨p, vs, i, v1, rfl, rfl, .of hh, h1, fin_pure (a := z) q st h2⟩
    | tup ds =>
      obtain ⟨p, vs, rfl, hh, rs⟩ := r1
      rcases hx : atI ds i with _ | z
      · simp only [hx] at q; exact q.elim
      · simp only [hx] at q
        obtain ⟨v1, h1, h2⟩ := atI_rep rs hx
        exact .inr (.inl ⟨p, vs, i, v1, rfl, rfl, sqT_of cK hh, h1, fin_pure (a := z) q st h2⟩)
    | scr ds =>
      obtain ⟨p, vs, rfl, hh, rs⟩ := r1
      rcases hx : atI ds i with _ | z
      · simp only [hx] at q; exact q.elim
      · simp only [hx] at q
        obtain ⟨v1, h1, h2⟩ := atI_rep rs hx
        exact .inl ⟨p, vs, i, v1, rfl, rfl, sqL_of cK hh, h1, fin_pure (a := z) q st h2⟩
    | str z =>
      cases (show x = .str z from r1)
      by_cases hz : z.length ≤ lim
      · rcases hx : atI z.cps.toList i with _ | c
        · simp only [hx, if_pos hz] at q; exact q.elim
        · simp only [hx, if_pos hz] at q
          exact .inr (.inr ⟨z, i, c, rfl, rfl, by rw [← lim_eq]; exact hz, hx, fin_pure (a := D.str ⟨#[c]⟩) q st rfl⟩)
      · simp only [if_neg hz] at q; exact q.elim
    | ref n =>
      obtain ⟨p, rfl, hm⟩ := r1
      rcases hn : S[n]? with _ | ⟨ds | _ | _⟩
      · simp only [hn] at q; exact q.elim
      · simp only [hn] at q
        obtain ⟨vs, hh, rs⟩ := st.ob n p _ hm hn
        rcases hx : atI ds i with _ | z
        · simp only [hx] at q; exact q.elim
        · simp only [hx] at q
          obtain ⟨v1, h1, h2⟩ := atI_rep rs hx
          exact .inl ⟨p, vs, i, v1, rfl, rfl, .of hh, h1, fin_pure (a := z) q st h2⟩
      · simp only [hn] at q; exact q.elim
      · simp only [hn] at q; exact q.elim
    | _ => exact q.elim
  | _ => exact q.elim
def notSlice : Expr → Bool
  | .Slice .. => false
  | _ => true
theorem plain_ix {b : Expr} (h : notSlice b = true) : PlainIx b := by
  intro o i
  cases b <;> first | rfl | cases h
theorem v_ix {a b : Expr} {fa fb : List SV → M D} {pos : Pos} (cK : G.K = X.K) (ha : PV G X W a fa) (hb : PV G X W b fb) (hs : notSlice b = true) : PV G X W (.Subscript a b pos) (fun sd => M.bind (fa sd) fun x => M.bind (fb sd) fun y => dIx x y) := by
  refine PE.imp (pe_ix (ix_D cK) ha hb (plain_ix hs)) fun σ H Q h => ?_
  obtain ⟨w0, w, sd, S, e, r, q⟩ := h
  refine ⟨w0, w, sd, S, e, r, fin_step q fun w1 S1 d v e1 s1 rv q1 => ⟨w0, w1, sd, S1, rfl, r.step e1 s1, fin_step q1 fun w2 S2 d2 v2 e2 s2 rv2 q2 => ?_⟩⟩
  exact ⟨_, w2, S2, d, d2, rfl, s2, RepV.mono e2 s1.dj d v rv, rv2, q2⟩
end
end Ev
set_option maxRecDepth 100000
set_option maxHeartbeats 2000000
namespace Ev
open PySem PySem.Spec PyProof.Rows L2
def rDs (G : Sg) (g : List D → M D) : List V → Hp → VK → Prop := fun vs H Q => ∃ W w S ds, w.H = H ∧ RepS G w S ∧ RepVs G w ds vs ∧ FinG G (RepV G) W w Q (g ds S)
theorem CallR.imp {X : Cx} {f : Value} {r r' : List V → Hp → VK → Prop} (h : CallR X f r) (i : ∀ vs H Q, r' vs H Q → r vs H Q) : CallR X f r' := fun pins s σ H xs us Q I rx q => h pins s σ H xs us Q I rx (i _ _ _ q)
section
variable {G : Sg} {X : Cx} {W : WX} {k n : Nat} {w : Wd} {g : List D → M D}
theorem v_callB {id : String} {x : Str} {p pos : Pos} {e : Expr} {es : List Expr} {fa : List SV → M (List D)} (hc : CallR X (.builtin id) (rDs G g)) (hg : Gl X x) (hm : X.mg x = none) (hv : bootBuiltins x = some (.builtin id)) (ha : PLn G X W n (e :: es) fa) (hs : (e :: es).all notStar = true)
    (hn : x ≠ "__name__") (hd : (x == ("__debug__" : Str)) = false) : PV G X W (.Call (.Name x p) (e :: es) [] pos) (fun sd => M.bind (fa sd) g) := by
  have hs2 : notStar e = true ∧ es.all notStar = true := by simpa using hs
  refine PE.imp (pe_callB hc hg hm hv ha hn hd (starEach_cons hs2.1) (starEach_all hs2.2 pos)) fun σ H Q h => ?_
  obtain ⟨w0, w, sd, S, e, r, q⟩ := h
  exact ⟨w0, w, sd, S, e, r, fin_step q fun w1 S1 ds vs e1 s1 rv q1 => ⟨_, w1, S1, ds, rfl, s1, rv.1, q1⟩⟩
theorem v_callTy {T : String} {x : Str} {p pos : Pos} {e : Expr} {es : List Expr} {fa : List SV → M (List D)} (hc : CallR X (.type T) (rDs G g)) (hg : Gl X x) (hm : X.mg x = none) (hv : bootBuiltins x = some (.type T)) (ha : PLn G X W n (e :: es) fa) (hs : (e :: es).all notStar = true)
    (hn : x ≠ "__name__") (hd : (x == ("__debug__" : Str)) = false) : PV G X W (.Call (.Name x p) (e :: es) [] pos) (fun sd => M.bind (fa sd) g) := by
  have hs2 : notStar e = true ∧ es.all notStar = true := by simpa using hs
  refine PE.imp (pe_callTy hc hg hm hv ha hn hd (starEach_cons hs2.1) (starEach_all hs2.2 pos)) fun σ H Q h => ?_
  obtain ⟨w0, w, sd, S, e, r, q⟩ := h
  exact ⟨w0, w, sd, S, e, r, fin_step q fun w1 S1 ds vs e1 s1 rv q1 => ⟨_, w1, S1, ds, rfl, s1, rv.1, q1⟩⟩
def on1 (g : D → M D) : List D → M D
  | [d] => g d
  | _ => M.stuck
def on2 (g : D → D → M D) : List D → M D
  | [d, e] => g d e
  | _ => M.stuck
theorem on1_of {g : D → M D} {vs : List V} {H : Hp} {Q : VK} (h : rDs G (on1 g) vs H Q) : ∃ W w S d v, w.H = H ∧ RepS G w S ∧ vs = [v] ∧ RepV G w d v ∧ FinG G (RepV G) W w Q (g d S) := by
  obtain ⟨W, w, S, ds, e, s, r, q⟩ := h
  rcases ds with _ | ⟨d, _ | ⟨d2, ds⟩⟩
  · exact q.elim
  · obtain ⟨v, t, ev, h1, h2⟩ := r
    cases (show t = [] from h2)
    exact ⟨W, w, S, d, v, e, s, ev, h1, q⟩
  · exact q.elim
theorem on2_of {g : D → D → M D} {vs : List V} {H : Hp} {Q : VK} (h : rDs G (on2 g) vs H Q) : ∃ W w S d e v u, w.H = H ∧ RepS G w S ∧ vs = [v, u] ∧ RepV G w d v ∧ RepV G w e u ∧ FinG G (RepV G) W w Q (g d e S) := by
  obtain ⟨W, w, S, ds, e, s, r, q⟩ := h
  rcases ds with _ | ⟨d, _ | ⟨d2, _ | ⟨d3, ds⟩⟩⟩
  · exact q.elim
  · exact q.elim
  · obtain ⟨v, t, ev, h1, u, t2, eu, h2, h3⟩ := r
    cases (show t2 = [] from h3)
    exact ⟨W, w, S, d, d2, v, u, e, s, by rw [ev, eu], h1, h2, q⟩
  · exact q.elim
def dLen (d : D) : M D := fun S => match d with
  | .lst ds => some (.ok (.int ds.length), S)
  | .tup ds => some (.ok (.int ds.length), S)
  | .scr ds => some (.ok (.int ds.length), S)
  | .str x => if x.length ≤ lim then some (.ok (.int x.length), S) else none
  | .ref n => match S[n]? with
    | some (.lst ds) => some (.ok (.int ds.length), S)
    | _ => none
  | _ => none
theorem c_len (cK : G.K = X.K) : CallR X (.builtin "len") (rDs G (on1 dLen)) := by
  refine CallR.imp call_len fun vs H Q h => ?_
  obtain ⟨W, w, S, d, v, rfl, s, rfl, r, q⟩ := on1_of h
  unfold dLen at q
  cases d with
  | lst ds =>
    obtain ⟨a, vs, e, f, hh, rs⟩ := r
    exact ⟨v, ds.length, rfl, by subst e; exact .inl ⟨vs, .of hh, rs.length⟩, fin_pure (a := D.int ds.length) q s rfl⟩
  | tup ds =>
    obtain ⟨a, vs, e, hh, rs⟩ := r
    exact ⟨v, ds.length, rfl, by subst e; exact .inr ⟨vs, sqT_of cK hh, rs.length⟩, fin_pure (a := D.int ds.length) q s rfl⟩
  | scr ds =>
    obtain ⟨a, vs, e, hh, rs⟩ := r
    exact ⟨v, ds.length, rfl, by subst e; exact .inl ⟨vs, sqL_of cK hh, rs.length⟩, fin_pure (a := D.int ds.length) q s rfl⟩
  | str x =>
    by_cases hz : x.length ≤ lim
    · simp only [if_pos hz] at q
      exact ⟨v, x.length, rfl, by cases (show v = .str x from r); exact ⟨by rw [← lim_eq]; exact hz, rfl⟩, fin_pure (a := D.int x.length) q s rfl⟩
    · simp only [if_neg hz] at q; exact q.elim
  | ref m =>
    obtain ⟨p, rfl, hm⟩ := r
    rcases hn : S[m]? with _ | ⟨ds | _ | _⟩
    · simp only [hn] at q; exact q.elim
    · simp only [hn] at q
      obtain ⟨vs, hh, rs⟩ := s.ob m p _ hm hn
      exact ⟨.ref p, ds.length, rfl, .inl ⟨vs, .of hh, rs.length⟩, fin_pure (a := D.int ds.length) q s rfl⟩
    · simp only [hn] at q; exact q.elim
    · simp only [hn] at q; exact q.elim
  | _ => exact q.elim
def dAbs : D → M D
  | .int i => M.pure (.int (if i < 0 then -i else i))
  | _ => M.stuck
theorem c_abs : CallR X (.builtin "abs") (rDs G (on1 dAbs)) := by
  refine CallR.imp call_abs fun vs H Q h => ?_
  obtain ⟨W, w, S, d, v, rfl, s, rfl, r, q⟩ := on1_of h
  cases d with
  | int i => cases (show v = .int i from r); exact ⟨i, rfl, fin_pure q s rfl⟩
  | _ => exact q.elim
def dMax : D → D → M D
  | .int i, .int j => M.pure (.int (if j > i then j else i))
  | _, _ => M.stuck
def dMin : D → D → M D
  | .int i, .int j => M.pure (.int (if j < i then j else i))
  | _, _ => M.stuck
theorem c_max (hc : X.calm = true) : CallR X (.builtin "max") (rDs G (on2 dMax)) := by
  refine CallR.imp (call_max2 hc) fun vs H Q h => ?_
  obtain ⟨W, w, S, d, e, v, u, rfl, s, rfl, r, r', q⟩ := on2_of h
  cases d <;> cases e <;> first
    | exact q.elim
    | (cases (show v = _ from r)
       cases (show u = _ from r')
       exact ⟨_, _, rfl, fin_pure q s rfl⟩)
theorem c_min (hc : X.calm = true) : CallR X (.builtin "min") (rDs G (on2 dMin)) := by
  refine CallR.imp (call_min2 hc) fun vs H Q h => ?_
  obtain ⟨W, w, S, d, e, v, u, rfl, s, rfl, r, r', q⟩ := on2_of h
  cases d <;> cases e <;> first
    | exact q.elim
    | (cases (show v = _ from r)
       cases (show u = _ from r')
       exact ⟨_, _, rfl, fin_pure q s rfl⟩)
def dInt : D → M D
  | .int i => M.pure (.int i)
  | .bl b => M.pure (.int (if b then 1 else 0))
  | .str x => match PySem.intText? x with
    | some n => if x.length ≤ 640 then M.pure (.int n) else M.stuck
    | none => M.stuck
  | _ => M.stuck
theorem c_int : CallR X (.type "int") (rDs G (on1 dInt)) := by
  refine CallR.imp (call_int1.or call_int_str) fun vs H Q h => ?_
  obtain ⟨W, w, S, d, v, rfl, s, rfl, r, q⟩ := on1_of h
  cases d with
  | int i => cases (show v = .int i from r); exact .inl (.inl ⟨i, rfl, fin_pure q s rfl⟩)
  | bl b => cases (show v = .bl b from r); exact .inl (.inr ⟨b, rfl, fin_pure q s rfl⟩)
  | str x =>
    cases (show v = .str x from r)
    unfold dInt at q
    rcases hx : PySem.intText? x with _ | n
    · simp only [hx] at q; exact q.elim
    · simp only [hx] at q
      obtain ⟨c, q⟩ := FinG.ite q
      exact .inr ⟨x, n, rfl, hx, c, fin_pure q s rfl⟩
  | _ => exact q.elim
def strOk (i : Int) : Bool := decide (i.natAbs.log2 < 1920)
def dStr : D → M D
  | .int i => if strOk i = true then M.pure (.str (toString i : String)) else M.stuck
  | .str x => M.pure (.str x)
  | _ => M.stuck
theorem c_str : CallR X (.type "str") (rDs G (on1 dStr)) := by
  refine CallR.imp (call_str_int.or SkE.call_str_str) fun vs H Q h => ?_
  obtain ⟨W, w, S, d, v, rfl, s, rfl, r, q⟩ := on1_of h
  cases d with
  | int i =>
    cases (show v = .int i from r)
    obtain ⟨c, q⟩ := FinG.ite q
    exact .inl ⟨i, rfl, of_decide_eq_true c, fin_pure q s rfl⟩
  | str x => cases (show v = .str x from r); exact .inr ⟨x, rfl, fin_pure q s rfl⟩
  | _ => exact q.elim
def divmOk (i j : Int) : Bool := decide (0 < j) && !Builtin.divisionGoesByPylong i j
def dDivmod : D → D → M D
  | .int i, .int j => if divmOk i j = true then M.pure (.tup [.int (i / j), .int (i % j)]) else M.stuck
  | _, _ => M.stuck
theorem c_divmod : CallR X (.builtin "divmod") (rDs G (on2 dDivmod)) := by
  refine CallR.imp call_divmodW fun vs H Q h => ?_
  obtain ⟨W, w, S, d, e, v, u, rfl, s, rfl, r, r', q⟩ := on2_of h
  cases d with
  | int i =>
    cases e with
    | int j =>
      cases (show v = .int i from r)
      cases (show u = .int j from r')
      obtain ⟨c, q⟩ := FinG.ite q
      unfold divmOk at c
      simp only [Bool.and_eq_true, decide_eq_true_eq, Bool.not_eq_true'] at c
      refine ⟨i, j, rfl, c, fun p hp => ?_⟩
      exact q (w.frz p _) _ (Ext.frz hp) (s.frz hp) ⟨p, _, rfl, .inl ⟨.inr rfl, .inl upd_same⟩, ⟨_, _, rfl, rfl, _, _, rfl, rfl, rfl⟩⟩
    | _ => exact q.elim
  | _ => cases e <;> exact q.elim
def dTuple : D → M D
  | .lst ds => M.pure (.tup ds)
  | .scr ds => M.pure (.tup ds)
  | .tup ds => M.pure (.tup ds)
  | _ => M.stuck
def dList : D → M D
  | .lst ds => M.pure (.lst ds)
  | .scr ds => M.pure (.lst ds)
  | .tup ds => M.pure (.lst ds)
  | _ => M.stuck
theorem c_tuple (cK : G.K = X.K) : CallR X (.type "tuple") (rDs G (on1 dTuple)) := by
  refine CallR.imp call_tuple_of fun vs H Q h => ?_
  obtain ⟨W, w, S, d, v, rfl, s, rfl, r, q⟩ := on1_of h
  cases d with
  | lst ds =>
    obtain ⟨a, vs, e, f, hh, rs⟩ := r
    subst e
    exact ⟨a, vs, rfl, .inl ⟨.of hh, fun p hp => q (w.frz p _) _ (Ext.frz hp) (s.frz hp) ⟨p, vs, rfl, .inl ⟨.inr rfl, .inl upd_same⟩, RepVs.mono (Ext.frz hp) s.dj _ _ rs⟩⟩⟩
  | scr ds =>
    obtain ⟨a, vs, e, hh, rs⟩ := r
    subst e
    exact ⟨a, vs, rfl, .inl ⟨sqL_of cK hh, fun p hp => q (w.frz p _) _ (Ext.frz hp) (s.frz hp) ⟨p, vs, rfl, .inl ⟨.inr rfl, .inl upd_same⟩, RepVs.mono (Ext.frz hp) s.dj _ _ rs⟩⟩⟩
  | tup ds =>
    have r2 := r
    obtain ⟨a, vs, e, hh, rs⟩ := r
    subst e
    exact ⟨a, vs, rfl, .inr ⟨sqT_of cK hh, fin_pure q s r2⟩⟩
  | _ => exact q.elim
theorem c_list (cK : G.K = X.K) : CallR X (.type "list") (rDs G (on1 dList)) := by
  refine CallR.imp call_list_of fun vs H Q h => ?_
  obtain ⟨W, w, S, d, v, rfl, s, rfl, r, q⟩ := on1_of h
  cases d with
  | lst ds =>
    obtain ⟨a, vs, e, f, hh, rs⟩ := r
    subst e
    exact ⟨a, vs, rfl, .inl (.of hh), fun p hp => q (w.frz p _) _ (Ext.frz hp) (s.frz hp) ⟨p, vs, rfl, .inr rfl, upd_same, RepVs.mono (Ext.frz hp) s.dj _ _ rs⟩⟩
  | scr ds =>
    obtain ⟨a, vs, e, hh, rs⟩ := r
    subst e
    exact ⟨a, vs, rfl, .inl (sqL_of cK hh), fun p hp => q (w.frz p _) _ (Ext.frz hp) (s.frz hp) ⟨p, vs, rfl, .inr rfl, upd_same, RepVs.mono (Ext.frz hp) s.dj _ _ rs⟩⟩
  | tup ds =>
    obtain ⟨a, vs, e, hh, rs⟩ := r
    subst e
    exact ⟨a, vs, rfl, .inr (sqT_of cK hh), fun p hp => q (w.frz p _) _ (Ext.frz hp) (s.frz hp) ⟨p, vs, rfl, .inr rfl, upd_same, RepVs.mono (Ext.frz hp) s.dj _ _ rs⟩⟩
  | _ => exact q.elim
def bls : List D → Option (List Bool)
  | [] => some []
  | .bl b :: ds => (bls ds).map (b :: ·)
  | _ :: _ => none
theorem bls_rep : ∀ {ds : List D} {bs : List Bool} {vs : List V}, bls ds = some bs → RepVs G w ds vs → vs = bs.map V.bl
  | [], bs, vs, h, r => by unfold bls at h; cases h; exact r
  | .bl b :: ds, bs, vs, h, r => by
    unfold bls at h
    obtain ⟨cs, h1, h2⟩ := Option.map_eq_some_iff.mp h
    subst h2
    obtain ⟨v, t, e, h3, h4⟩ := r
    rw [e, bls_rep h1 h4]
    cases (show v = .bl b from h3)
    rfl
  | .non :: _, _, _, h, _ => by cases h
  | .int _ :: _, _, _, h, _ => by cases h
  | .str _ :: _, _, _, h, _ => by cases h
  | .tup _ :: _, _, _, h, _ => by cases h
  | .lst _ :: _, _, _, h, _ => by cases h
  | .scr _ :: _, _, _, h, _ => by cases h
  | .dct _ _ :: _, _, _, h, _ => by cases h
  | .ins _ _ :: _, _, _, h, _ => by cases h
  | .ref _ :: _, _, _, h, _ => by cases h
  | .ty _ :: _, _, _, h, _ => by cases h
  | .cls _ :: _, _, _, h, _ => by cases h
def dAll : D → M D
  | .lst ds => match bls ds with
    | some bs => M.pure (.bl (bs.all id))
    | none => M.stuck
  | _ => M.stuck
def dAny : D → M D
  | .lst ds => match bls ds with
    | some bs => M.pure (.bl (bs.any id))
    | none => M.stuck
  | _ => M.stuck
theorem c_all (hc : X.calm = true) : CallR X (.builtin "all") (rDs G (on1 dAll)) := by
  refine CallR.imp (cr_all hc) fun vs H Q h => ?_
  obtain ⟨W, w, S, d, v, rfl, s, rfl, r, q⟩ := on1_of h
  cases d with
  | lst ds =>
    obtain ⟨a, vs, e, f, hh, rs⟩ := r
    unfold dAll at q
    rcases hb : bls ds with _ | bs
    · simp only [hb] at q; exact q.elim
    · simp only [hb] at q
      have ev := bls_rep hb rs
      subst e ev
      exact ⟨a, bs, rfl, .of hh, fin_pure q s rfl⟩
  | _ => exact q.elim
theorem c_any (hc : X.calm = true) : CallR X (.builtin "any") (rDs G (on1 dAny)) := by
  refine CallR.imp (cr_any hc) fun vs H Q h => ?_
  obtain ⟨W, w, S, d, v, rfl, s, rfl, r, q⟩ := on1_of h
  cases d with
  | lst ds =>
    obtain ⟨a, vs, e, f, hh, rs⟩ := r
    unfold dAny at q
    rcases hb : bls ds with _ | bs
    · simp only [hb] at q; exact q.elim
    · simp only [hb] at q
      have ev := bls_rep hb rs
      subst e ev
      exact ⟨a, bs, rfl, .of hh, fin_pure q s rfl⟩
  | _ => exact q.elim
def reprOk (p : PyData) : Bool := p.showable && !p.hasDict && decide (p.depth ≤ 60) && decide (p.shown.length ≤ lim)
def dRepr (d : D) : M D := match toP d with
  | some p => if reprOk p = true then M.pure (.str p.shown) else M.stuck
  | none => M.stuck
theorem c_repr (cK : G.K = X.K) (hr : Rm k X.A) : CallR X (.builtin "repr") (rDs G (on1 dRepr)) := by
  intro pins s σ H xs us Q I rx h
  obtain ⟨W, w, S, d, v, rfl, st, rfl, r, q⟩ := on1_of h
  unfold dRepr at q
  rcases hp : toP d with _ | p
  · simp only [hp] at q; exact q.elim
  · simp only [hp] at q
    obtain ⟨c, q⟩ := FinG.ite q
    unfold reprOk at c
    simp only [Bool.and_eq_true, decide_eq_true_eq, Bool.not_eq_true'] at c
    obtain ⟨⟨⟨c1, c2⟩, c3⟩, c4⟩ := c
    obtain ⟨u, rfl, rv⟩ := vals1 rx
    have dp := toP_dp cK d v p r hp
    obtain ⟨as, rd⟩ := Dp.reads I p v u dp rv
    have fin : Q (.str p.shown) w.H := fin_pure q st rfl
    have hz : p.shown.length ≤ sizeLine := by rw [← lim_eq]; exact c4
    cases rd with
    | none => exact PySem.P.repr_of_none ⟨.str _, w.H, I.tok _, ⟨_, rfl⟩, fin⟩
    | bool b => exact PySem.P.repr_of_bool ⟨.str _, w.H, I.tok _, ⟨_, rfl⟩, fin⟩
    | int i t => exact PySem.P.repr_of_int (by simpa [PyData.showable] using c1) ⟨.str _, w.H, I.tok _, ⟨_, rfl⟩, fin⟩
    | str x t => exact PySem.P.repr_of_str ⟨.str _, w.H, I.tok _, ⟨_, rfl⟩, fin⟩ hz
    | list h1 h2 h3 h4 =>
      refine repr_of_reads' (Reads.list h1 h2 h3 h4) c1 (fun z => by rw [c2] at z; cases z) hr.gd (by have := hr.room.units; omega) (fun _ _ z => z) (fun h' u tk kp => ?_) hz
      exact ⟨.str _, w.H, I.kept (t' := tk) kp, ⟨_, rfl⟩, fin⟩
    | tuple h1 h2 h3 h4 =>
      refine repr_of_reads' (Reads.tuple h1 h2 h3 h4) c1 (fun z => by rw [c2] at z; cases z) hr.gd (by have := hr.room.units; omega) (fun _ _ z => z) (fun h' u tk kp => ?_) hz
      exact ⟨.str _, w.H, I.kept (t' := tk) kp, ⟨_, rfl⟩, fin⟩
    | dict _ _ _ _ _ => cases c2
end
end Ev
set_option maxRecDepth 100000
set_option maxHeartbeats 2000000
namespace Ev
open PySem PySem.Spec PyProof.Rows L2
section
variable {G : Sg} {X : Cx} {W : WX} {k : Nat} {w0 w w1 : Wd} {S : List Ob} {sd : List SV} {σ : L2.St}
theorem R.wr {i : Nat} {a : Addr} {o o' : Ob} {h : HO} (r : R G w0 w sd S σ) (hi : sd[i]? = some (.own o)) (ha : σ[i]? = some (some (.ref a))) (hn : RepO G (w.wr a h) a o') : R G w0 (w.wr a h) (sd.set i (.own o')) S σ := by
  obtain ⟨a', e1, _, nF, nm, n0⟩ := r.ow i o hi
  rw [ha] at e1
  cases e1
  have il : i < sd.length := (List.getElem?_eq_some_iff.mp hi).1
  have st := Stay.wr (o := h) nF
  have key : ∀ {j : Nat} {x : SV}, (sd.set i (.own o'))[j]? = some x → (j = i ∧ x = .own o') ∨ (j ≠ i ∧ sd[j]? = some x) := fun {j x} z => by
    by_cases e : i = j
    · subst e
      rw [List.getElem?_set_self il] at z
      cases z
      exact .inl ⟨rfl, rfl⟩
    · rw [List.getElem?_set_ne e] at z
      exact .inr ⟨fun q => e q.symm, z⟩
  refine ⟨Ext.wr r.ex n0, r.st.wr nF nm, by rw [List.length_set]; exact r.ln, fun j x z => ?_, fun j o2 z => ?_, fun j1 j2 o1 o2 b h1 h2 h3 h4 => ?_, fun b o2 e z => by
    rcases key z with ⟨rfl, _⟩ | ⟨_, z⟩
    · exact r.sf b _ e hi
    · exact r.sf b _ e z⟩
  · rcases key z with ⟨_, e⟩ | ⟨_, z⟩
    · cases e
    · obtain ⟨v, h1, h2⟩ := r.vl j x z
      exact ⟨v, h1, RepV.stay st _ _ h2⟩
  · rcases key z with ⟨rfl, e⟩ | ⟨ne, z⟩
    · cases e
      exact ⟨a, ha, hn, nF, nm, n0⟩
    · obtain ⟨b, h1, h2, h3, h4, h5⟩ := r.ow j o2 z
      have nab : b ≠ a := fun e => by
        subst e
        exact ne (r.ap j i o2 o b z hi h1 ha)
      exact ⟨b, h1, RepO.to (upd_ne nab) st h2, h3, h4, h5⟩
  · have f1 : ∃ p1, sd[j1]? = some (.own p1) := (key h1).elim (fun z => ⟨o, z.1 ▸ hi⟩) fun z => ⟨o1, z.2⟩
    have f2 : ∃ p2, sd[j2]? = some (.own p2) := (key h2).elim (fun z => ⟨o, z.1 ▸ hi⟩) fun z => ⟨o2, z.2⟩
    obtain ⟨p1, q1⟩ := f1
    obtain ⟨p2, q2⟩ := f2
    exact r.ap j1 j2 p1 p2 b q1 q2 h3 h4
theorem R.setown {i : Nat} {a : Addr} {o : Ob} (r : R G w0 w sd S σ) (ho : RepO G w a o) (nF : ¬ w.F a) (nm : a ∉ w.m) (n0 : w0.H a = none) (na : ∀ (j : Nat) (o' : Ob), sd[j]? = some (.own o') → σ[j]? ≠ some (some (V.ref a))) (i0 : i ≠ 0) : R G w0 w (sd.set i (.own o)) S (σ.set i (some (.ref a))) := by
  have key : ∀ {j : Nat} {x : SV}, (sd.set i (.own o))[j]? = some x → (j = i ∧ i < sd.length ∧ x = .own o) ∨ (j ≠ i ∧ sd[j]? = some x) := fun {j x} z => by
    by_cases e : i = j
    · subst e
      by_cases l : i < sd.length
      · rw [List.getElem?_set_self l] at z
        cases z
        exact .inl ⟨rfl, l, rfl⟩
      · rw [List.getElem?_eq_none (by simpa using l)] at z
        cases z
    · rw [List.getElem?_set_ne e] at z
      exact .inr ⟨fun q => e q.symm, z⟩
  refine ⟨r.ex, r.st, by rw [List.length_set, List.length_set]; exact r.ln, fun j x z => ?_, fun j o2 z => ?_, fun j1 j2 o1 o2 b h1 h2 h3 h4 => ?_, fun b o2 e z => by
    rcases key z with ⟨z, _⟩ | ⟨ne, z⟩
    · exact absurd z.symm i0
    · rw [List.getElem?_set_ne i0]
      exact r.sf b _ e z⟩
  · rcases key z with ⟨_, _, e⟩ | ⟨ne, z⟩
    · cases e
    · rw [List.getElem?_set_ne (fun q => ne q.symm)]
      exact r.vl j x z
  · rcases key z with ⟨rfl, l, e⟩ | ⟨ne, z⟩
    · cases e
      exact ⟨a, List.getElem?_set_self (by rw [r.ln]; exact l), ho, nF, nm, n0⟩
    · rw [List.getElem?_set_ne (fun q => ne q.symm)]
      exact r.ow j o2 z
  · rcases key h1 with ⟨e1, l1, _⟩ | ⟨n1, h1⟩ <;> rcases key h2 with ⟨e2, l2, _⟩ | ⟨n2, h2⟩
    · rw [e1, e2]
    · rw [e1, List.getElem?_set_self (by rw [r.ln]; exact l1)] at h3
      cases h3
      rw [List.getElem?_set_ne (fun q => n2 q.symm)] at h4
      exact absurd h4 (na j2 _ h2)
    · rw [e2, List.getElem?_set_self (by rw [r.ln]; exact l2)] at h4
      cases h4
      rw [List.getElem?_set_ne (fun q => n1 q.symm)] at h3
      exact absurd h3 (na j1 _ h1)
    · rw [List.getElem?_set_ne (fun q => n1 q.symm)] at h3
      rw [List.getElem?_set_ne (fun q => n2 q.symm)] at h4
      exact r.ap j1 j2 o1 o2 b h1 h2 h3 h4
def frzO : Ob → D
  | .lst ds => .lst ds
  | .dct ks ds => .dct ks ds
  | .ins c ds => .ins c ds
theorem R.frz {i : Nat} {o : Ob} (r : R G w0 w sd S σ) (hi : sd[i]? = some (.own o)) : ∃ a, Stay w (w.fz a) ∧ R G w0 (w.fz a) (sd.set i (.val (frzO o))) S σ ∧ σ[i]? = some (some (.ref a)) ∧ RepV G (w.fz a) (frzO o) (.ref a) := by
  obtain ⟨a, ha, ho, nF, nm, n0⟩ := r.ow i o hi
  have il : i < sd.length := (List.getElem?_eq_some_iff.mp hi).1
  have rv : RepV G (w.fz a) (frzO o) (.ref a) := by
    cases o with
    | lst ds => obtain ⟨vs, h1, h2⟩ := ho; exact ⟨a, vs, rfl, .inr rfl, h1, RepVs.stay Stay.fz _ _ h2⟩
    | dct ks ds => obtain ⟨vs, h1, h2, h3⟩ := ho; exact ⟨a, vs, rfl, .inr rfl, h1, h2, RepVs.stay Stay.fz _ _ h3⟩
    | ins c ds => obtain ⟨dx, vs, h1, h2, h3⟩ := ho; exact ⟨a, dx, vs, rfl, .inr rfl, h1, h2, RepVs.stay Stay.fz _ _ h3⟩
  refine ⟨a, Stay.fz, ?_, ha, rv⟩
  have key : ∀ {j : Nat} {x : SV}, (sd.set i (.val (frzO o)))[j]? = some x → (j = i ∧ x = .val (frzO o)) ∨ (j ≠ i ∧ sd[j]? = some x) := fun {j x} z => by
    by_cases e : i = j
    · subst e
      rw [List.getElem?_set_self il] at z
      cases z
      exact .inl ⟨rfl, rfl⟩
    · rw [List.getElem?_set_ne e] at z
      exact .inr ⟨fun q => e q.symm, z⟩
  refine ⟨Ext.fz r.ex n0, r.st.fz nm ho.there, by rw [List.length_set]; exact r.ln, fun j x z => ?_, fun j o2 z => ?_, fun j1 j2 o1 o2 b h1 h2 h3 h4 => ?_, fun b o2 e z => by
    rcases key z with ⟨_, e⟩ | ⟨_, z⟩
    · cases e
    · exact r.sf b _ e z⟩
  · rcases key z with ⟨rfl, e⟩ | ⟨_, z⟩
    · cases e
      exact ⟨.ref a, ha, rv⟩
    · obtain ⟨v, h1, h2⟩ := r.vl j x z
      exact ⟨v, h1, RepV.stay Stay.fz _ _ h2⟩
  · rcases key z with ⟨_, e⟩ | ⟨ne, z⟩
    · cases e
    · obtain ⟨b, h1, h2, h3, h4, h5⟩ := r.ow j o2 z
      have nab : b ≠ a := fun e => by
        subst e
        exact ne (r.ap j i o2 o b z hi h1 ha)
      exact ⟨b, h1, RepO.to (w := w) (w' := w.fz a) rfl Stay.fz h2, fun q => q.elim h3 nab, h4, h5⟩
  · rcases key h1 with ⟨_, e⟩ | ⟨n1, h1⟩
    · cases e
    · rcases key h2 with ⟨_, e⟩ | ⟨n2, h2⟩
      · cases e
      · exact r.ap j1 j2 o1 o2 b h1 h2 h3 h4
def frzS (i : Nat) : MS := fun sd S => match sd[i]? with
  | some (.own o) => some (.next (sd.set i (.val (frzO o))), S)
  | _ => none
theorem ss_frz {i : Nat} {sts : List Stmt} {f : MS} (h : PSsV G X W sts f) : PSsV G X W sts (seqS (frzS i) f) := by
  refine PSs.imp h fun En σ H q => ?_
  obtain ⟨w0, w, sd, S, e, r, q⟩ := q
  unfold seqS frzS at q
  rcases hi : sd[i]? with _ | _ | d | o
  · simp only [hi] at q; exact q.elim
  · simp only [hi] at q; exact q.elim
  · simp only [hi] at q; exact q.elim
  · simp only [hi] at q
    obtain ⟨a, st, r2, _⟩ := r.frz hi
    exact ⟨w0, w.fz a, _, S, e, r2, FinS.stay st q⟩
def FinO (G : Sg) (W : Value → Option Addr → Hp → Prop) (w : Wd) (Q : VK) : Option (Except Exn (List D) × List Ob) → Prop
  | none => False
  | some (.ok ds, S) => ∀ w' p vs, Ext w w' → RepS G w' S → w'.H p = some (.lst vs) → RepVs G w' ds vs → ¬ w'.F p → p ∉ w'.m → w.H p = none → Q (.ref p) w'.H
  | some (.error e, S) => ∀ w' cls x, Ext w w' → RepS G w' S → RepX G w' e cls x → W cls x w'.H
def teO (G : Sg) (W : WX) (f : List SV → M (List D)) : TE := fun σ H Q => ∃ w0 w sd S, w.H = H ∧ R G w0 w sd S σ ∧ FinO G (fun c x H => W c x σ H) w Q (f sd S)
abbrev PO_ (G : Sg) (X : Cx) (W : WX) (e : Expr) (f : List SV → M (List D)) : Prop := PE X e (teO G W f)
theorem FinO.ext {W : Value → Option Addr → Hp → Prop} {Q : VK} {r : Option (Except Exn (List D) × List Ob)} (e : Ext w w1) (h : FinO G W w Q r) : FinO G W w1 Q r := by
  rcases r with _ | ⟨_ | ds, S⟩
  · exact h
  · exact fun w' c x e' => h w' c x (e.trans e')
  · exact fun w' p vs e' s h1 h2 h3 h4 h5 => h w' p vs (e.trans e') s h1 h2 h3 h4 (e.al _ h5)
theorem finO_step {α β : Type} {rep : Wd → α → β → Prop} {W : Value → Option Addr → Hp → Prop} {Q : β → Hp → Prop} {Q' : VK} {f : M α} {k : α → M (List D)} (h : FinO G W w Q' (M.bind f k S))
    (c : ∀ w1 S1 d v, Ext w w1 → RepS G w1 S1 → rep w1 d v → FinO G W w1 Q' (k d S1) → Q v w1.H) : FinG G rep W w Q (f S) := by
  unfold M.bind at h
  rcases hf : f S with _ | ⟨_ | d, S1⟩
  · rw [hf] at h; exact h
  · rw [hf] at h; exact h
  · rw [hf] at h
    exact fun w' v e s r => c w' S1 d v e s r (h.ext e)
theorem finO_new {W : Value → Option Addr → Hp → Prop} {Q : VK} {ds : List D} {vs : List V} {p : Addr} (h : FinO G W w Q (M.pure ds S)) (s : RepS G w S) (r : RepVs G w ds vs) (hp : w.H p = none) : Q (.ref p) (upd w.H p (.lst vs)) :=
  h (w.new p (.lst vs)) p vs (Ext.new hp) (s.new hp) upd_same (RepVs.mono (Ext.new hp) s.dj _ _ r) (fun z => s.fh p z hp) (fun z => s.there z hp) hp
theorem o_lst {n : Nat} {es : List Expr} {g : List SV → M (List D)} {pos : Pos} (h : PLn G X W n es g) (hn : n ≤ sizeLine) : PO_ G X W (.List es pos) (fun sd => M.bind (g sd) M.pure) := by
  refine PE.imp (pe_lst h) fun σ H Q h => ?_
  obtain ⟨w0, w, sd, S, e, r, q⟩ := h
  exact ⟨w0, w, sd, S, e, r, finO_step q fun w1 S1 ds vs e1 s1 rv q1 => ⟨by rw [rv.2]; exact hn, fun p hp => finO_new q1 s1 rv.1 hp⟩⟩
def catL : D → D → M (List D)
  | .lst a, .lst b => if a.length + b.length ≤ lim then M.pure (a ++ b) else M.stuck
  | _, _ => M.stuck
theorem finO_ite {W : Value → Option Addr → Hp → Prop} {Q : VK} {c : Prop} [Decidable c] {f : M (List D)} (h : FinO G W w Q ((if c then f else M.stuck) S)) : c ∧ FinO G W w Q (f S) := by
  by_cases hc : c
  · rw [if_pos hc] at h; exact ⟨hc, h⟩
  · rw [if_neg hc] at h; exact h.elim
theorem o_cat {a b : Expr} {fa fb : List SV → M D} {pos : Pos} (ha : PV G X W a fa) (hb : PV G X W b fb) : PO_ G X W (.BinOp a .Add b pos) (fun sd => M.bind (fa sd) fun x => M.bind (fb sd) fun y => catL x y) := by
  refine PE.imp (pe_op op_cat ha hb) fun σ H Q h => ?_
  obtain ⟨w0, w, sd, S, e, r, q⟩ := h
  refine ⟨w0, w, sd, S, e, r, finO_step q fun w1 S1 d v e1 s1 rv q1 => ⟨w0, w1, sd, S1, rfl, r.step e1 s1, finO_step q1 fun w2 S2 d2 v2 e2 s2 rv2 q2 => ?_⟩⟩
  have rv := RepV.mono e2 s1.dj d v rv
  cases d <;> cases d2 <;> first | exact q2.elim | skip
  obtain ⟨c, q2⟩ := finO_ite q2
  obtain ⟨a, va, ea, fa, ha, ra⟩ := rv
  obtain ⟨b, vb, eb, fb, hb, rb⟩ := rv2
  rw [ra.length, rb.length, lim_eq] at c
  exact ⟨a, b, va, vb, ea, eb, ha, hb, c, fun p hp => finO_new q2 s2 (RepVs.append ra rb) hp⟩
def ownS (i : Nat) (f : List SV → M (List D)) : MS := exS f fun ds sd S => some (.next (sd.set i (.own (.lst ds))), S)
theorem s_own {i : Nat} {x : Str} {e : Expr} {f : List SV → M (List D)} {pos pos' : Pos} (c : Ctx G X W k) (hi : X.N[i]? = some x) (hx : Loc X.env.scope x) (he : PO_ G X W e f) (hs : swapFree e = true) (hf : X.fn x = true ∨ X.env.scope.names.lookup x = some .local) (i0 : i ≠ 0) :
    PSV G X W (.Assign [.Name x pos'] e pos) (ownS i f) := by
  refine PS.imp (ps_set c.nd hi hx he (swap_free hs) hf) fun En σ H q => ?_
  obtain ⟨w0, w, sd, S, e, r, q⟩ := q
  refine ⟨w0, w, sd, S, e, r, ?_⟩
  unfold ownS exS at q
  rcases hf : f sd S with _ | ⟨_ | ds, S1⟩
  · rw [hf] at q; exact q
  · rw [hf] at q
    exact fun w' cls x e s rx => q w' σ cls x (e.stay r.st.dj) (r.step e s) rx
  · rw [hf] at q
    intro w' p vs e1 s1 h1 h2 h3 h4 h5
    have r1 := r.step e1 s1
    refine q w' (σ.set i (some (.ref p))) (e1.stay r.st.dj) (r1.setown ⟨vs, h1, h2⟩ h3 h4 (r.ex.al _ h5) (fun j o' ho hj => ?_) i0)
    obtain ⟨a, e2, hr, _⟩ := r.ow j o' ho
    rw [hj] at e2
    cases e2
    exact hr.there h5
def newRef (o : Ob) : M D := fun S => some (.ok (.ref S.length), S ++ [o])
theorem share {o : Ob} {p : Addr} (s : RepS G w S) (ho : RepO G w p o) (nF : ¬ w.F p) (nm : p ∉ w.m) : Stay w ⟨w.m ++ [p], w.F, w.H, w.x⟩ ∧ RepS G ⟨w.m ++ [p], w.F, w.H, w.x⟩ (S ++ [o]) := by
  have st : Stay w ⟨w.m ++ [p], w.F, w.H, w.x⟩ := ⟨⟨[p], rfl⟩, fun _ z => z, fun _ _ _ z => z⟩
  refine ⟨st, by simp [s.len], ?_, fun a h => ?_, s.fh, fun n a u h1 h2 => ?_⟩
  · rw [List.nodup_append]
    exact ⟨s.nd, by simp, fun a ha b hb => by
      have : b = p := by simpa using hb
      subst this
      exact fun e => nm (e ▸ ha)⟩
  · show a ∉ w.m ++ [p]
    simp only [List.mem_append, List.mem_singleton, not_or]
    exact ⟨s.dj a h, fun e => nF (by rw [← e]; exact h)⟩
  · have h1 : (w.m ++ [p])[n]? = some a := h1
    by_cases hn : n < w.m.length
    · rw [List.getElem?_append_left hn] at h1
      rw [List.getElem?_append_left (by rw [← s.len]; exact hn)] at h2
      exact RepO.to (w := w) (w' := ⟨w.m ++ [p], w.F, w.H, w.x⟩) rfl st (s.ob n a u h1 h2)
    · rw [List.getElem?_append_right (by omega)] at h1
      rw [List.getElem?_append_right (by rw [← s.len]; omega)] at h2
      have e0 : n - w.m.length = 0 := by
        have := (List.getElem?_eq_some_iff.mp h1).1
        simp at this
        omega
      rw [e0] at h1
      rw [← s.len, e0] at h2
      simp at h1 h2
      subst h1 h2
      exact RepO.to (w := w) (w' := ⟨w.m ++ [p], w.F, w.H, w.x⟩) rfl st ho
theorem v_shr {e : Expr} {f : List SV → M (List D)} (h : PO_ G X W e f) : PV G X W e (fun sd => M.bind (f sd) fun ds => newRef (.lst ds)) := by
  refine PE.imp h fun σ H Q h => ?_
  obtain ⟨w0, w, sd, S, e, r, q⟩ := h
  refine ⟨w0, w, sd, S, e, r, ?_⟩
  have q : FinG G (RepV G) (fun c x H => W c x σ H) w Q (M.bind (f sd) (fun ds => newRef (.lst ds)) S) := q
  unfold M.bind at q
  rcases hf : f sd S with _ | ⟨_ | ds, S1⟩
  · rw [hf] at q; exact q
  · rw [hf] at q; exact q
  · rw [hf] at q
    intro w' p vs e1 s1 h1 h2 h3 h4 h5
    obtain ⟨st, s2⟩ := share (o := .lst ds) s1 ⟨vs, h1, h2⟩ h3 h4
    have q : FinG G (RepV G) (fun c x H => W c x σ H) w Q (some (.ok (.ref S1.length), S1 ++ [.lst ds])) := q
    refine q ⟨w'.m ++ [p], w'.F, w'.H, w'.x⟩ (.ref p) ⟨?_, e1.F, e1.H, fun b hb => ?_, e1.nF, e1.al⟩ s2 ⟨p, rfl, ?_⟩
    · obtain ⟨rr, er⟩ := e1.m
      exact ⟨rr ++ [p], by show w'.m ++ [p] = _; rw [er, List.append_assoc]⟩
    · have hb : b ∈ w'.m ++ [p] := hb
      rcases List.mem_append.mp hb with z | z
      · exact e1.nm b z
      · have : b = p := by simpa using z
        subst this
        exact .inr h5
    · show (w'.m ++ [p])[S1.length]? = some p
      rw [← s1.len, List.getElem?_append_right (Nat.le_refl _)]
      simp
def appS (i : Nat) (f : List SV → M D) : MS := fun sd S => match sd[i]? with
  | some (.own (.lst ds)) => if ds.length < lim then exS f (fun d sd S => some (.next (sd.set i (.own (.lst (ds ++ [d])))), S)) sd S else none
  | _ => none
theorem few_of {cpos : Pos} {es : List Expr} (hs : es.all notStar = true) (hl : es.length < 30) : ((backTo cpos (starEach es X.env)).all (fun x => !x.1) && (backToKw cpos (keywordEach [] X.env)).all (fun x => x.1.isSome)
      && decide (es.length + ([] : List Keyword).length + (if ([] : List Keyword).isEmpty then 0 else 1) < 30)) = true := by
  rw [star_form hs]
  show (true && true && decide (es.length + 0 + 0 < 30)) = true
  rw [decide_eq_true (by omega)]
  rfl
theorem s_app {i : Nat} {x : Str} {p apos pos epos : Pos} {e : Expr} {f : List SV → M D} (hN : X.N[i]? = some x) (hv : Vis X.env.scope x) (hd : (x == ("__debug__" : Str)) = false) (hcd : (x == ("__classdict__" : Str)) = false) (he : PV G X W e f) (hs : notStar e = true) (hp : (apos.endLine == pos.line) = true) :
    PSV G X W (.Expr (.Call (.Attribute (.Name x p) "append" apos) [e] [] pos) epos) (appS i f) := by
  have hs1 : [e].all notStar = true := by simpa using hs
  have base := ps_expr (pos := epos) (pe_bm (cpos := pos) (apos := apos) PySem.F.plainAttrs_list PySem.F.slot_list_append PySem.F.type_list_append mt_append (pe_var (X := X) (pos := p) hN hv hd hcd) (pa_cons he pa_nil (starEach_cons hs)) (attr_base rfl) (few_of hs1 (by simp)) hp (starEach_cons hs) rfl) rfl
  refine PS.imp base fun En σ H q => ?_
  obtain ⟨w0, w, sd, S, e, r, q⟩ := q
  subst e
  unfold appS at q
  rcases hi : sd[i]? with _ | _ | d0 | ⟨ds | ⟨ks, ds⟩ | ⟨cc, ds⟩⟩
  · simp only [hi] at q; exact q.elim
  · simp only [hi] at q; exact q.elim
  · simp only [hi] at q; exact q.elim
  · simp only [hi] at q
    by_cases hz : ds.length < lim
    · rw [if_pos hz] at q
      obtain ⟨a, ha, ⟨vs, h1, h2⟩, nF, nm, n0⟩ := r.ow i _ hi
      refine ⟨.ref a, ha, Or.inl ⟨rfl, vs, .of h1⟩, w0, w, sd, S, rfl, r, exS_step q r fun w1 S1 d v e1 r1 rv q1 => ?_⟩
      obtain ⟨a', ha', ⟨vs', h1', h2'⟩, nF', nm', _⟩ := r1.ow i _ hi
      rw [ha] at ha'
      cases ha'
      refine ⟨a, vs', v, rfl, rfl, h1', by rw [← h2'.length, ← lim_eq]; exact hz, ?_⟩
      have hn : RepO G (w1.wr a (.lst (vs' ++ [v]))) a (.lst (ds ++ [d])) := ⟨_, upd_same, RepVs.append (RepVs.stay (Stay.wr nF') _ _ h2') (RepVs.one (RepV.stay (Stay.wr nF') _ _ rv))⟩
      exact q1 (w1.wr a (.lst (vs' ++ [v]))) σ (Stay.wr nF') (r1.wr hi ha hn)
    · rw [if_neg hz] at q; exact q.elim
  · simp only [hi] at q; exact q.elim
  · simp only [hi] at q; exact q.elim
end
end Ev
set_option maxRecDepth 100000
set_option maxHeartbeats 2000000
namespace Ev
open PySem PySem.Spec PyProof.Rows L2
section
variable {G : Sg} {X : Cx} {W : WX} {k : Nat} {w0 w w1 : Wd} {S : List Ob} {sd : List SV} {σ : L2.St}
theorem R.wrm {n : Nat} {a : Addr} {o' : Ob} {h : HO} (r : R G w0 w sd S σ) (hm : w.m[n]? = some a) (hn : RepO G (w.wr a h) a o') : Stay w (w.wr a h) ∧ R G w0 (w.wr a h) sd (S.set n o') σ := by
  have am : a ∈ w.m := List.mem_of_getElem? hm
  have nF : ¬ w.F a := fun z => r.st.dj a z am
  have st := Stay.wr (o := h) nF
  have hnS : n < S.length := by rw [← r.st.len]; exact (List.getElem?_eq_some_iff.mp hm).1
  have ne : ∀ {j b}, w.m[j]? = some b → j ≠ n → b ≠ a := fun {j b} hj hjn e => by
    subst e
    obtain ⟨l1, e1⟩ := List.getElem?_eq_some_iff.mp hj
    obtain ⟨l2, e2⟩ := List.getElem?_eq_some_iff.mp hm
    exact hjn ((List.getElem_inj r.st.nd).mp (e1.trans e2.symm))
  refine ⟨st, ⟨?_, ?_, r.ln, fun j x z => ?_, fun j o2 z => ?_, r.ap, r.sf⟩⟩
  · refine ⟨r.ex.m, r.ex.F, fun b u hb hu => ?_, r.ex.nm, r.ex.nF, fun b z => ?_⟩
    · have nb : b ≠ a := fun e => by
        subst e
        rcases r.ex.nm b am with z | z
        · exact hb z
        · rw [z] at hu; cases hu
      show upd w.H a h b = some u
      rw [upd_ne nb]
      exact r.ex.H b u hb hu
    · have z : upd w.H a h b = none := z
      by_cases e : b = a
      · rw [e, upd_same] at z; cases z
      · rw [upd_ne e] at z
        exact r.ex.al b z
  · refine ⟨by rw [List.length_set]; exact r.st.len, r.st.nd, r.st.dj, fun b z => ?_, fun j b u h1 h2 => ?_⟩
    · show upd w.H a h b ≠ none
      rw [upd_ne (fun e => nF (by rw [← e]; exact z))]
      exact r.st.fh b z
    · by_cases e : n = j
      · subst e
        rw [List.getElem?_set_self hnS] at h2
        cases h2
        rw [show w.m[n]? = some b from h1] at hm
        cases hm
        exact hn
      · rw [List.getElem?_set_ne e] at h2
        exact RepO.to (upd_ne (ne h1 fun z => e z.symm)) st (r.st.ob j b u h1 h2)
  · obtain ⟨v, h1, h2⟩ := r.vl j x z
    exact ⟨v, h1, RepV.stay st _ _ h2⟩
  · obtain ⟨b, h1, h2, h3, h4, h5⟩ := r.ow j o2 z
    have nb : b ≠ a := fun e => h4 (e ▸ am)
    exact ⟨b, h1, RepO.to (upd_ne nb) st h2, h3, h4, h5⟩
def itemT (fo fi : List SV → M D) : Tgt := fun d sd S => match fo sd S with
  | some (.ok (.ref n), S1) => match fi sd S1 with
    | some (.ok (.int j), S2) => match S2[n]? with
      | some (.lst ds) => match ixN ds.length j with
        | some i => some (sd, S2.set n (.lst (ds.set i d)))
        | none => none
      | _ => none
    | _ => none
  | _ => none
theorem sub_tree {o i : Expr} {pos : Pos} (hs : notSlice i = true) (v : Value) : assign (.Subscript o i pos) X.env v = (do
      let ov ← holding [v] (eval o X.env)
      let iv ← holding [v, ov] (eval i X.env)
      standAt pos
      holding [v, ov, iv] (setItem ov iv v)
      release [v, ov, iv] []) := by
  cases i <;> first | rfl | cases hs
theorem g_item {o i : Expr} {fo fi : List SV → M D} {pos : Pos} (ho : PV G X W o fo) (hi : PV G X W i fi) (hs : notSlice i = true) : PGV G X [] (.Subscript o i pos) (itemT fo fi) := by
  refine PG.imp (pg_sub ho hi set_list (sub_tree hs)) fun v σ H Q q => ?_
  obtain ⟨w0, w, sd, S, d, e, r, rd, q⟩ := q
  refine ⟨w0, w, sd, S, e, r, ?_⟩
  unfold itemT at q
  rcases hf : fo sd S with _ | ⟨x | d1, S1⟩
  · rw [hf] at q; exact q
  · rw [hf] at q; exact q.elim
  · rw [hf] at q
    cases d1 with
    | ref n =>
      simp only at q
      intro w1 v1 e1 s1 ⟨a, ev, hm⟩
      have r1 := r.step e1 s1
      refine ⟨w0, w1, sd, S1, rfl, r1, ?_⟩
      rcases hg : fi sd S1 with _ | ⟨x | d2, S2⟩
      · rw [hg] at q; exact q
      · rw [hg] at q; exact q.elim
      · rw [hg] at q
        cases d2 with
        | int j =>
          simp only at q
          intro w2 v2 e2 s2 rj
          cases (show v2 = .int j from rj)
          have r2 := r1.step e2 s2
          obtain ⟨rr, er⟩ := e2.m
          have hm2 : w2.m[n]? = some a := by
            rw [er, List.getElem?_append_left (List.getElem?_eq_some_iff.mp hm).1]; exact hm
          rcases hn : S2[n]? with _ | ⟨ds | _ | _⟩
          · simp only [hn] at q; exact q.elim
          · simp only [hn] at q
            obtain ⟨vs, hh, rs⟩ := s2.ob n a _ hm2 hn
            rcases hx : ixN ds.length j with _ | i2
            · simp only [hx] at q; exact q.elim
            · simp only [hx] at q
              have rd2 : RepV G w2 d v := RepV.mono (e1.trans e2) r.st.dj _ _ rd
              have nF : ¬ w2.F a := fun z => s2.dj a z (List.mem_of_getElem? hm2)
              have st := Stay.wr (o := .lst (vs.set i2 v)) nF
              obtain ⟨st2, r3⟩ := r2.wrm hm2 (h := .lst (vs.set i2 v)) (o' := .lst (ds.set i2 d)) ⟨_, upd_same, RepVs.set i2 (RepVs.stay st _ _ rs) (RepV.stay st _ _ rd2)⟩
              refine ⟨a, vs, j, i2, ev, rfl, hh, by rw [← rs.length]; exact hx, ?_⟩
              exact q (w2.wr a _) σ (((e1.trans e2).stay r.st.dj).trans st2) r3 fun _ _ => rfl
          · simp only [hn] at q; exact q.elim
          · simp only [hn] at q; exact q.elim
        | _ => exact q.elim
    | _ => exact q.elim
def setIS (i : Nat) (fi f : List SV → M D) : MS := fun sd S => match sd[i]? with
  | some (.own (.lst ds)) => exS f (fun d sd S => exS fi (fun j sd S => match j with
    | .int j => match ixN ds.length j with
      | some i2 => some (.next (sd.set i (.own (.lst (ds.set i2 d)))), S)
      | none => none
    | _ => none) sd S) sd S
  | _ => none
theorem s_setI {i : Nat} {x : Str} {p spos pos : Pos} {ix e : Expr} {fi f : List SV → M D} (c : Ctx G X W k) (hN : X.N[i]? = some x) (hv : Vis X.env.scope x) (hd : (x == ("__debug__" : Str)) = false) (hcd : (x == ("__classdict__" : Str)) = false) (he : PV G X W e f) (hi : PV G X W ix fi) (hs : notSlice ix = true)
    (hs1 : swapsWithSole [.Subscript (.Name x p) ix spos] e pos.line X.env = pure false) (hw : swappedStores [.Subscript (.Name x p) ix spos] e X.env = pure none) :
    PSV G X W (.Assign [.Subscript (.Name x p) ix spos] e pos) (setIS i fi f) := by
  refine PS.imp (ps_asg he (pg_sub (pe_var (pos := p) hN hv hd hcd) hi set_list (sub_tree hs)) hs1 hw rfl) fun En σ H q => ?_
  obtain ⟨w0, w, sd, S, e, r, q⟩ := q
  unfold setIS at q
  rcases hi : sd[i]? with _ | _ | d0 | ⟨ds | ⟨ks, ds⟩ | ⟨cc, ds⟩⟩
  · simp only [hi] at q; exact q.elim
  · simp only [hi] at q; exact q.elim
  · simp only [hi] at q; exact q.elim
  · simp only [hi] at q
    refine ⟨w0, w, sd, S, e, r, exS_step q r fun w1 S1 d v e1 r1 rv q1 => ?_⟩
    obtain ⟨a, ha, _⟩ := r1.ow i _ hi
    refine ⟨.ref a, ha, w0, w1, sd, S1, rfl, r1, exS_step q1 r1 fun w2 S2 d2 v2 e2 r2 rv2 q2 => ?_⟩
    obtain ⟨a', ha', ⟨vs', h1', h2'⟩, nF', nm', _⟩ := r2.ow i _ hi
    rw [ha] at ha'
    cases ha'
    cases d2 with
    | int j =>
      cases (show v2 = .int j from rv2)
      simp only at q2
      rcases hx : ixN ds.length j with _ | i2
      · simp only [hx] at q2; exact q2.elim
      · simp only [hx] at q2
        refine ⟨a, vs', j, i2, rfl, rfl, h1', by rw [← h2'.length]; exact hx, ?_⟩
        have rv' : RepV G w2 d v := RepV.mono e2 r1.st.dj _ _ rv
        have hn : RepO G (w2.wr a (.lst (vs'.set i2 v))) a (.lst (ds.set i2 d)) := ⟨_, upd_same, RepVs.set i2 (RepVs.stay (Stay.wr nF') _ _ h2') (RepV.stay (Stay.wr nF') _ _ rv')⟩
        exact q2 (w2.wr a (.lst (vs'.set i2 v))) σ (Stay.wr nF') (r2.wr hi ha hn)
    | _ => exact q2.elim
  · simp only [hi] at q; exact q.elim
  · simp only [hi] at q; exact q.elim
theorem putF_zip {f : Str} : ∀ {fs : List Str} {vs : List V} {j : Nat} {v : V}, fs.Nodup → fs[j]? = some f → j < vs.length → putF f v (fs.zip vs) = fs.zip (vs.set j v)
  | [], _, _, _, _, h, _ => by simp at h
  | _ :: _, [], _, _, _, _, h => by simp at h
  | g :: fs, u :: vs, 0, v, _, h, _ => by
    simp at h
    subst h
    show putF g v ((g, u) :: fs.zip vs) = (g, v) :: fs.zip vs
    unfold putF
    rw [if_pos rfl]
  | g :: fs, u :: vs, j + 1, v, nd, h, hl => by
    have nd := List.nodup_cons.mp nd
    have hm : fs[j]? = some f := by simpa using h
    have hne : ¬ g = f := fun e => nd.1 (e ▸ List.mem_of_getElem? hm)
    show putF f v ((g, u) :: fs.zip vs) = (g, u) :: fs.zip (vs.set j v)
    unfold putF
    rw [if_neg hne, putF_zip nd.2 hm (by simpa using hl)]
theorem putF_new {f : Str} : ∀ {fs : List Str} {vs : List V} {v : V}, fs.Nodup → fs[vs.length]? = some f → putF f v (fs.zip vs) = fs.zip (vs ++ [v])
  | [], vs, _, _, h => by simp at h
  | g :: fs, [], v, _, h => by
    simp at h
    subst h
    show putF g v [] = [(g, v)] ++ fs.zip []
    simp [putF]
  | g :: fs, u :: vs, v, nd, h => by
    have nd := List.nodup_cons.mp nd
    have hm : fs[vs.length]? = some f := by simpa using h
    have hne : ¬ g = f := fun e => nd.1 (e ▸ List.mem_of_getElem? hm)
    show putF f v ((g, u) :: fs.zip vs) = (g, u) :: fs.zip (vs ++ [v])
    unfold putF
    rw [if_neg hne, putF_new nd.2 hm]
def putL (ds : List D) (j : Nat) (d : D) : Option (List D) := if j < ds.length then some (ds.set j d) else if j = ds.length then some (ds ++ [d]) else none
structure FldT (X : Cx) (G : Sg) (m : Str) (tbl : Nat → Option Nat) : Prop where
  at_ : ∀ c j, tbl c = some j → Cls X.K (G.ca c) ∧ NoAttr X.K (G.ca c) m ∧ (G.fn c).Nodup ∧ (G.fn c)[j]? = some m ∧ (G.fn c).length < 1000
def setFS (i : Nat) (tbl : Nat → Option Nat) (f : List SV → M D) : MS := exS f fun d sd S => match sd[i]? with
  | some (.own (.ins c ds)) => match tbl c with
    | some j => match putL ds j d with
      | some es => some (.next (sd.set i (.own (.ins c es))), S)
      | none => none
    | none => none
  | _ => none
theorem s_setF {i : Nat} {x m : Str} {p apos pos : Pos} {e : Expr} {f : List SV → M D} {tbl : Nat → Option Nat} (T : FldT X G m tbl) (hN : X.N[i]? = some x) (hv : Vis X.env.scope x) (hd : (x == ("__debug__" : Str)) = false) (hcd : (x == ("__classdict__" : Str)) = false) (he : PV G X W e f) (hs : swapFree e = true) :
    PSV G X W (.Assign [.Attribute (.Name x p) m apos] e pos) (setFS i tbl f) := by
  refine PS.imp (ps_fld (pe_var (X := X) (pos := p) hN hv hd hcd) he (swap_free hs)) fun En σ H q => ?_
  obtain ⟨w0, w, sd, S, e, r, q⟩ := q
  refine ⟨w0, w, sd, S, e, r, exS_step q r fun w1 S1 d v e1 r1 rv q1 => ?_⟩
  rcases hi : sd[i]? with _ | _ | d0 | ⟨ds | ⟨ks, ds⟩ | ⟨cc, ds⟩⟩
  · simp only [hi] at q1; exact q1.elim
  · simp only [hi] at q1; exact q1.elim
  · simp only [hi] at q1; exact q1.elim
  · simp only [hi] at q1; exact q1.elim
  · simp only [hi] at q1; exact q1.elim
  · simp only [hi] at q1
    rcases ht : tbl cc with _ | j
    · simp only [ht] at q1; exact q1.elim
    · simp only [ht] at q1
      obtain ⟨cl, na, nd, hj, hl⟩ := T.at_ cc j ht
      obtain ⟨a, ha, ⟨dx, vs, h1, h2, h3⟩, nF, nm, n0⟩ := r1.ow i _ hi
      have hlen : ((G.fn cc).zip vs).length < 1000 := by
        rw [List.length_zip]; omega
      refine ⟨.ref a, ha, a, _, dx, _, rfl, h1, cl, na, hlen, ?_⟩
      unfold putL at q1
      by_cases c1 : j < ds.length
      · simp only [if_pos c1] at q1
        rw [putF_zip nd hj (by rw [← h3.length]; exact c1)]
        have hn : RepO G (w1.wr a (.ins (G.ca cc) dx ((G.fn cc).zip (vs.set j v)))) a (.ins cc (ds.set j d)) := ⟨dx, _, upd_same, by rw [List.length_set]; exact h2, RepVs.set j (RepVs.stay (Stay.wr nF) _ _ h3) (RepV.stay (Stay.wr nF) _ _ rv)⟩
        exact q1 _ σ (Stay.wr nF) (r1.wr hi ha hn)
      · simp only [if_neg c1] at q1
        by_cases c2 : j = ds.length
        · simp only [if_pos c2] at q1
          subst c2
          rw [h3.length] at hj
          rw [putF_new nd hj]
          have hn : RepO G (w1.wr a (.ins (G.ca cc) dx ((G.fn cc).zip (vs ++ [v])))) a (.ins cc (ds ++ [d])) := ⟨dx, _, upd_same, by
            rw [List.length_append]
            exact (List.getElem?_eq_some_iff.mp hj).1, RepVs.append (RepVs.stay (Stay.wr nF) _ _ h3) (RepVs.one (RepV.stay (Stay.wr nF) _ _ rv))⟩
          exact q1 _ σ (Stay.wr nF) (r1.wr hi ha hn)
        · simp only [if_neg c2] at q1; exact q1.elim
def ownF (i : Nat) (tbl : Nat → Option Nat) : List SV → M D := fun sd => match sd[i]? with
  | some (.own (.ins c ds)) => match tbl c with
    | some j => match ds[j]? with
      | some d => M.pure d
      | none => M.stuck
    | none => M.stuck
  | _ => M.stuck
theorem v_ownF {i : Nat} {x m : Str} {p pos : Pos} {tbl : Nat → Option Nat} (T : FldT X G m tbl) (hN : X.N[i]? = some x) (hv : Vis X.env.scope x) (hd : (x == ("__debug__" : Str)) = false) (hcd : (x == ("__classdict__" : Str)) = false) : PV G X W (.Attribute (.Name x p) m pos) (ownF i tbl) := by
  refine PE.imp (pe_fld (pe_var (X := X) (pos := p) hN hv hd hcd) (attr_base rfl)) fun σ H Q q => ?_
  obtain ⟨w0, w, sd, S, e, r, q⟩ := q
  subst e
  unfold ownF at q
  rcases hi : sd[i]? with _ | _ | d0 | ⟨ds | ⟨ks, ds⟩ | ⟨cc, ds⟩⟩
  · simp only [hi] at q; exact q.elim
  · simp only [hi] at q; exact q.elim
  · simp only [hi] at q; exact q.elim
  · simp only [hi] at q; exact q.elim
  · simp only [hi] at q; exact q.elim
  · simp only [hi] at q
    rcases ht : tbl cc with _ | j
    · simp only [ht] at q; exact q.elim
    · simp only [ht] at q
      rcases hj2 : ds[j]? with _ | d
      · simp only [hj2] at q; exact q.elim
      · simp only [hj2] at q
        obtain ⟨cl, na, nd, hj, hl⟩ := T.at_ cc j ht
        obtain ⟨a, ha, ⟨dx, vs, h1, h2, h3⟩, _⟩ := r.ow i _ hi
        obtain ⟨v, hv1, hv2⟩ := h3.get hj2
        exact ⟨.ref a, ha, a, _, dx, _, v, rfl, h1, cl, na, lookup_zip_some nd hj hv1, fin_pure q r.st hv2⟩
def ownIx (i : Nat) (fi : List SV → M D) : List SV → M D := fun sd => match sd[i]? with
  | some (.own (.lst ds)) => M.bind (fi sd) fun j => dIx (.lst ds) j
  | _ => M.stuck
theorem v_ownIx {i : Nat} {x : Str} {p pos : Pos} {b : Expr} {fi : List SV → M D} (hN : X.N[i]? = some x) (hv : Vis X.env.scope x) (hd : (x == ("__debug__" : Str)) = false) (hcd : (x == ("__classdict__" : Str)) = false) (hb : PV G X W b fi) (hs : notSlice b = true) : PV G X W (.Subscript (.Name x p) b pos) (ownIx i fi) := by
  refine PE.imp (pe_ix ix_list (pe_var (X := X) (pos := p) hN hv hd hcd) hb (plain_ix hs)) fun σ H Q q => ?_
  obtain ⟨w0, w, sd, S, e, r, q⟩ := q
  subst e
  unfold ownIx at q
  rcases hi : sd[i]? with _ | _ | d0 | ⟨ds | ⟨ks, ds⟩ | ⟨cc, ds⟩⟩
  · simp only [hi] at q; exact q.elim
  · simp only [hi] at q; exact q.elim
  · simp only [hi] at q; exact q.elim
  · simp only [hi] at q
    obtain ⟨a, ha, _⟩ := r.ow i _ hi
    refine ⟨.ref a, ha, w0, w, sd, S, rfl, r, fin_step q fun w1 S1 d v e1 s1 rv q1 => ?_⟩
    obtain ⟨a', ha', ⟨vs, h1, h2⟩, _⟩ := (r.step e1 s1).ow i _ hi
    rw [ha] at ha'
    cases ha'
    unfold dIx at q1
    cases d with
    | int j =>
      cases (show v = .int j from rv)
      simp only at q1
      rcases hx : atI ds j with _ | z
      · simp only [hx] at q1; exact q1.elim
      · simp only [hx] at q1
        obtain ⟨v1, h3, h4⟩ := atI_rep h2 hx
        exact ⟨a, vs, j, v1, rfl, rfl, .of h1, h3, fin_pure (a := z) q1 s1 h4⟩
    | _ => exact q1.elim
  · simp only [hi] at q; exact q.elim
  · simp only [hi] at q; exact q.elim
end
end Ev
set_option maxRecDepth 100000
set_option maxHeartbeats 2000000
namespace Ev
open PySem PySem.Spec PyProof.Rows L2
def cutD {α : Type} (xs : List α) (lo hi : Option Int) : List α := (xs.drop (HT.sIx xs.length 0 lo)).take (HT.sIx xs.length xs.length hi - HT.sIx xs.length 0 lo)
section
variable {G : Sg} {X : Cx} {W : WX} {k : Nat} {w0 w w1 : Wd} {S : List Ob} {sd : List SV} {σ : L2.St}
theorem cut_rep {ds : List D} {vs : List V} {lo hi : Option Int} (r : RepVs G w ds vs) : RepVs G w (cutD ds lo hi) (cutV vs lo hi) := by
  unfold cutD cutV
  rw [r.length]
  exact RepVs.take _ (RepVs.drop _ r)
def dSl (d : D) (lo hi : Option Int) : M D := match d with
  | .lst ds => M.pure (.lst (cutD ds lo hi))
  | .scr ds => M.pure (.lst (cutD ds lo hi))
  | .tup ds => M.pure (.tup (cutD ds lo hi))
  | .str z => if z.length ≤ lim then M.pure (.str (cutS z lo hi)) else M.stuck
  | _ => M.stuck
def rSlD (G : Sg) : V → Option Int → Option Int → Hp → VK → Prop := fun v lo hi H Q => ∃ W w S d, w.H = H ∧ RepS G w S ∧ RepV G w d v ∧ FinG G (RepV G) W w Q (dSl d lo hi S)
theorem sl_D (cK : G.K = X.K) : SlR X (rSlD G) := by
  have base := (sl_list (X := X)).or ((sl_tupA (X := X)).or (sl_str (X := X)))
  intro pins s σ H x v vl vu lo hi sl Q I rx hs pl pu q
  refine base pins s σ H x v vl vu lo hi sl Q I rx hs pl pu ?_
  obtain ⟨W, w, S, d, rfl, st, r, q⟩ := q
  cases d with
  | lst ds =>
    obtain ⟨a, vs, rfl, f, hh, rs⟩ := r
    exact .inl ⟨a, vs, rfl, .of hh, fun p hp => q (w.frz p _) _ (Ext.frz hp) (st.frz hp) ⟨p, _, rfl, .inr rfl, upd_same, RepVs.mono (Ext.frz hp) st.dj _ _ (cut_rep rs)⟩⟩
  | scr ds =>
    obtain ⟨a, vs, rfl, hh, rs⟩ := r
    exact .inl ⟨a, vs, rfl, sqL_of cK hh, fun p hp => q (w.frz p _) _ (Ext.frz hp) (st.frz hp) ⟨p, _, rfl, .inr rfl, upd_same, RepVs.mono (Ext.frz hp) st.dj _ _ (cut_rep rs)⟩⟩
  | tup ds =>
    obtain ⟨a, vs, rfl, hh, rs⟩ := r
    refine .inr (.inl ⟨a, vs, rfl, sqT_of cK hh, fun hw => ?_, fun _ p hp => ?_⟩)
    · have e : cutD ds lo hi = ds := by
        unfold cutD
        rw [rs.length, hw.1, hw.2, List.drop_zero, Nat.sub_zero, ← rs.length, List.take_length]
      have q : FinG G (RepV G) W w Q (M.pure (.tup (cutD ds lo hi)) S) := q
      rw [e] at q
      exact fin_pure q st ⟨a, vs, rfl, hh, rs⟩
    · exact q (w.frz p _) _ (Ext.frz hp) (st.frz hp) ⟨p, _, rfl, .inl ⟨.inr rfl, .inl upd_same⟩, RepVs.mono (Ext.frz hp) st.dj _ _ (cut_rep rs)⟩
  | str z =>
    cases (show x = .str z from r)
    obtain ⟨c, q⟩ := FinG.ite q
    exact .inr (.inr ⟨z, rfl, by rw [← lim_eq]; exact c, fin_pure q st rfl⟩)
  | _ => exact q.elim
def repO : Wd → Option Int → Option Int → Prop := fun _ a b => b = a
abbrev POV (G : Sg) (X : Cx) (W : WX) (e : Option Expr) (f : List SV → M (Option Int)) : Prop := PO X e (fun σ H Q => teG G repO W f σ H Q)
theorem PO.imp {e : Option Expr} {t t' : TO} (h : PO X e t) (i : ∀ σ H Q, t' σ H Q → t σ H Q) : PO X e t' := ⟨fun p s σ H Q I q => h.run p s σ H Q I (i σ H Q q)⟩
theorem q_none : POV G X W none (fun _ => M.pure none) := by
  refine PO.imp po_none fun σ H Q h => ?_
  obtain ⟨w0, w, sd, S, e, r, q⟩ := h
  subst e
  exact fin_pure q r.st rfl
def toI : D → M (Option Int)
  | .int i => M.pure (some i)
  | _ => M.stuck
theorem q_some {e : Expr} {f : List SV → M D} (h : PV G X W e f) : POV G X W (some e) (fun sd => M.bind (f sd) toI) := by
  refine PO.imp (po_some h) fun σ H Q h => ?_
  obtain ⟨w0, w, sd, S, e, r, q⟩ := h
  refine ⟨w0, w, sd, S, e, r, fin_step q fun w1 S1 d v e1 s1 rv q1 => ?_⟩
  cases d with
  | int i => cases (show v = .int i from rv); exact ⟨i, rfl, fin_pure q1 s1 rfl⟩
  | _ => exact q1.elim
theorem v_slice {e : Expr} {lo hi : Option Expr} {f : List SV → M D} {fl fh : List SV → M (Option Int)} {p2 pos : Pos} (cK : G.K = X.K) (he : PV G X W e f) (hl : POV G X W lo fl) (hh : POV G X W hi fh) :
    PV G X W (.Subscript e (.Slice lo hi none p2) pos) (fun sd => M.bind (f sd) fun d => M.bind (fl sd) fun l => M.bind (fh sd) fun u => dSl d l u) := by
  refine PE.imp (pe_slice (sl_D cK) he hl hh) fun σ H Q h => ?_
  obtain ⟨w0, w, sd, S, e, r, q⟩ := h
  refine ⟨w0, w, sd, S, e, r, fin_step q fun w1 S1 d v e1 s1 rv q1 => ⟨w0, w1, sd, S1, rfl, r.step e1 s1, fin_step q1 fun w2 S2 l l' e2 s2 rl q2 => ⟨w0, w2, sd, S2, rfl, (r.step e1 s1).step e2 s2, fin_step q2 fun w3 S3 u u' e3 s3 ru q3 => ?_⟩⟩⟩
  cases (show l' = l from rl)
  cases (show u' = u from ru)
  exact ⟨_, w3, S3, d, rfl, s3, RepV.mono (e2.trans e3) s1.dj d v rv, q3⟩
def dRev : D → M D
  | .lst ds => M.pure (.lst ds.reverse)
  | .scr ds => M.pure (.lst ds.reverse)
  | _ => M.stuck
theorem v_rev {e : Expr} {f : List SV → M D} {j : Nat} {p1 p2 p3 pos : Pos} (cK : G.K = X.K) (he : PV G X W e f) : PV G X W (.Subscript e (.Slice none none (some (.UnaryOp .USub (.Constant (.int 1) j p1) p2)) p3) pos) (fun sd => M.bind (f sd) dRev) := by
  refine PE.imp (pe_revL he) fun σ H Q h => ?_
  obtain ⟨w0, w, sd, S, e, r, q⟩ := h
  refine ⟨w0, w, sd, S, e, r, fin_step q fun w1 S1 d v e1 s1 rv q1 => ?_⟩
  cases d with
  | lst ds =>
    obtain ⟨a, vs, ev, f, hh, rs⟩ := rv
    exact ⟨a, vs, ev, .of hh, fun p hp => q1 (w1.frz p _) _ (Ext.frz hp) (s1.frz hp) ⟨p, _, rfl, .inr rfl, upd_same, RepVs.mono (Ext.frz hp) s1.dj _ _ rs.reverse⟩⟩
  | scr ds =>
    obtain ⟨a, vs, ev, hh, rs⟩ := rv
    exact ⟨a, vs, ev, sqL_of cK hh, fun p hp => q1 (w1.frz p _) _ (Ext.frz hp) (s1.frz hp) ⟨p, _, rfl, .inr rfl, upd_same, RepVs.mono (Ext.frz hp) s1.dj _ _ rs.reverse⟩⟩
  | _ => exact q1.elim
def dNeg : D → M D
  | .int i => M.pure (.int (-i))
  | _ => M.stuck
theorem v_neg {a : Expr} {f : List SV → M D} {pos : Pos} (ha : PV G X W a f) : PV G X W (.UnaryOp .USub a pos) (fun sd => M.bind (f sd) dNeg) := by
  refine PE.imp (pe_un un_neg ha) fun σ H Q h => ?_
  obtain ⟨w0, w, sd, S, e, r, q⟩ := h
  refine ⟨w0, w, sd, S, e, r, fin_step q fun w1 S1 d v e1 s1 rv q1 => ?_⟩
  cases d with
  | int i => cases (show v = .int i from rv); exact ⟨i, rfl, fin_pure q1 s1 rfl⟩
  | _ => exact q1.elim
def signIn (x z : Str) : Option Bool := match x.cps.toList with
  | [c] => some (decide (c ∈ z.cps.toList))
  | _ => none
def txts : List D → Option (List Str)
  | [] => some []
  | .str x :: ds => (txts ds).map (x :: ·)
  | _ :: _ => none
def dIn (neg : Bool) (d e : D) : M D := match e with
  | .str z => match d with
    | .str x => match signIn x z with
      | some b => M.pure (.bl (if neg then !b else b))
      | none => M.stuck
    | _ => M.stuck
  | .lst ds => match toP d, toPs ds with
    | some p, some ps => if SeqAt.shaped p = true ∧ SeqAt.shaped (.list ps) = true then M.pure (.bl (if neg then !(ps.any fun z => PyData.eqv z p) else ps.any fun z => PyData.eqv z p)) else M.stuck
    | _, _ => M.stuck
  | .tup ds => match d with
    | .str x => match txts ds with
      | some xs => M.pure (.bl (if neg then !xs.contains x else xs.contains x))
      | none => M.stuck
    | _ => M.stuck
  | _ => M.stuck
theorem strs_rep : ∀ {ds : List D} {xs : List Str} {vs : List V}, txts ds = some xs → RepVs G w ds vs → vs = xs.map V.str
  | [], xs, vs, h, r => by unfold txts at h; cases h; exact r
  | .str x :: ds, xs, vs, h, r => by
    unfold txts at h
    obtain ⟨ys, h1, h2⟩ := Option.map_eq_some_iff.mp h
    subst h2
    obtain ⟨v, t, e, h3, h4⟩ := r
    rw [e, strs_rep h1 h4]
    cases (show v = .str x from h3)
    rfl
  | .non :: _, _, _, h, _ => by cases h
  | .bl _ :: _, _, _, h, _ => by cases h
  | .int _ :: _, _, _, h, _ => by cases h
  | .tup _ :: _, _, _, h, _ => by cases h
  | .lst _ :: _, _, _, h, _ => by cases h
  | .scr _ :: _, _, _, h, _ => by cases h
  | .dct _ _ :: _, _, _, h, _ => by cases h
  | .ins _ _ :: _, _, _, h, _ => by cases h
  | .ref _ :: _, _, _, h, _ => by cases h
  | .ty _ :: _, _, _, h, _ => by cases h
  | .cls _ :: _, _, _, h, _ => by cases h
theorem all_flat (xs : List Str) : (xs.map V.str).all flatV = true := by
  rw [List.all_map]
  exact List.all_eq_true.mpr fun _ _ => rfl
theorem inV_strs (x : Str) (xs : List Str) : inV (.str x) (xs.map V.str) = xs.contains x := by
  unfold inV
  induction xs with
  | nil => rfl
  | cons y ys ih =>
    rw [List.map_cons, List.any_cons, ih, List.contains_cons]
    congr 1
    show eqV (.str y) (.str x) = (x == y)
    have : eqV (.str y) (.str x) = (y == x) := by first | rfl | simp [eqV]
    rw [this]
    exact Bool.beq_comm ..
theorem o_in (cK : G.K = X.K) (hr : Rm k X.A) : OpR X (compareOp .In) (rD2 G (dIn false)) := by
  have hu : X.A.units + 65 < cLine := by have := hr.room.un; omega
  refine OpR.imp (op_in_sign.or ((op_inD hu).or op_in_seq)) fun v u H Q q => ?_
  obtain ⟨W, w, S, d, e, rfl, s, r1, r2, q⟩ := q
  unfold dIn at q
  cases e with
  | str z =>
    cases d with
    | str x =>
      cases (show v = .str x from r1)
      cases (show u = .str z from r2)
      rcases hx : signIn x z with _ | b
      · simp only [hx] at q; exact q.elim
      · simp only [hx] at q
        unfold signIn at hx
        split at hx
        · rename_i c hc
          cases hx
          refine .inl ⟨c, z, ?_, rfl, fin_pure (b := V.bl _) q s rfl⟩
          congr 1
          rcases x with ⟨⟨l⟩⟩
          have : l = [c] := hc
          rw [this]
        · cases hx
    | _ => exact q.elim
  | lst ds =>
    rcases hp : toP d with _ | p
    · simp only [hp] at q; exact q.elim
    · rcases hq : toPs ds with _ | ps
      · simp only [hp, hq] at q; exact q.elim
      · simp only [hp, hq] at q
        obtain ⟨⟨c1, c2⟩, q⟩ := FinG.ite q
        have hl : toP (.lst ds) = some (.list ps) := by show (toPs ds).map _ = _; rw [hq]; rfl
        exact .inr (.inl ⟨p, ps, toP_dp cK d v p r1 hp, toP_dp cK (.lst ds) u (.list ps) r2 hl, c1, c2, fin_pure (b := V.bl _) q s rfl⟩)
  | tup ds =>
    cases d with
    | str x =>
      cases (show v = .str x from r1)
      rcases hx : txts ds with _ | xs
      · simp only [hx] at q; exact q.elim
      · simp only [hx] at q
        obtain ⟨a, vs, e, hh, rs⟩ := r2
        have ev := strs_rep hx rs
        subst ev
        refine .inr (.inr ⟨a, _, e, .inr (sqT_of cK hh), rfl, all_flat xs, ?_⟩)
        have q2 := fin_pure (b := V.bl (xs.contains x)) q s rfl
        rw [inV_strs]
        exact q2
    | _ => exact q.elim
  | _ => exact q.elim
theorem o_notin (cK : G.K = X.K) (hr : Rm k X.A) : OpR X (compareOp .NotIn) (rD2 G (dIn true)) := by
  have hu : X.A.units + 65 < cLine := by have := hr.room.un; omega
  refine OpR.imp (op_notIn_sign.or ((op_notInD hu).or op_notIn_seq)) fun v u H Q q => ?_
  obtain ⟨W, w, S, d, e, rfl, s, r1, r2, q⟩ := q
  unfold dIn at q
  cases e with
  | str z =>
    cases d with
    | str x =>
      cases (show v = .str x from r1)
      cases (show u = .str z from r2)
      rcases hx : signIn x z with _ | b
      · simp only [hx] at q; exact q.elim
      · simp only [hx] at q
        unfold signIn at hx
        split at hx
        · rename_i c hc
          cases hx
          refine .inl ⟨c, z, ?_, rfl, fin_pure (b := V.bl _) q s rfl⟩
          congr 1
          rcases x with ⟨⟨l⟩⟩
          have : l = [c] := hc
          rw [this]
        · cases hx
    | _ => exact q.elim
  | lst ds =>
    rcases hp : toP d with _ | p
    · simp only [hp] at q; exact q.elim
    · rcases hq : toPs ds with _ | ps
      · simp only [hp, hq] at q; exact q.elim
      · simp only [hp, hq] at q
        obtain ⟨⟨c1, c2⟩, q⟩ := FinG.ite q
        have hl : toP (.lst ds) = some (.list ps) := by show (toPs ds).map _ = _; rw [hq]; rfl
        exact .inr (.inl ⟨p, ps, toP_dp cK d v p r1 hp, toP_dp cK (.lst ds) u (.list ps) r2 hl, c1, c2, fin_pure (b := V.bl _) q s rfl⟩)
  | tup ds =>
    cases d with
    | str x =>
      cases (show v = .str x from r1)
      rcases hx : txts ds with _ | xs
      · simp only [hx] at q; exact q.elim
      · simp only [hx] at q
        obtain ⟨a, vs, e, hh, rs⟩ := r2
        have ev := strs_rep hx rs
        subst ev
        refine .inr (.inr ⟨a, _, e, .inr (sqT_of cK hh), rfl, all_flat xs, ?_⟩)
        have q2 := fin_pure (b := V.bl (!xs.contains x)) q s rfl
        show Q (.bl (if true = true then !inV (.str x) (xs.map V.str) else inV (.str x) (xs.map V.str))) w.H
        rw [inV_strs]
        exact q2
    | _ => exact q.elim
  | _ => exact q.elim
end
end Ev
set_option maxRecDepth 100000
set_option maxHeartbeats 2000000
namespace Ev
open PySem PySem.Spec PyProof.Rows L2
section
variable {G : Sg} {X : Cx} {W : WX} {k : Nat} {w0 w w1 : Wd} {S : List Ob} {sd : List SV} {σ : L2.St}
def chainD (g g' : D → D → M D) (fa fb fc : List SV → M D) : List SV → M D := fun sd => M.bind (fa sd) fun x => M.bind (fb sd) fun y => M.bind (g x y) fun z => M.bind (toB z) fun k => if k = true then M.bind (fc sd) fun u => g' y u else M.pure (.bl false)
theorem toB_bind {α β : Type} {rep : Wd → α → β → Prop} {W' : Value → Option Addr → Hp → Prop} {Q : β → Hp → Prop} {d : D} {v : V} {kk : Bool → M α} (h : FinG G rep W' w Q (M.bind (toB d) kk S)) (r : RepV G w d v) : ∃ b, v = .bl b ∧ FinG G rep W' w Q (kk b S) := by
  cases d with
  | bl b => exact ⟨b, r, h⟩
  | _ => exact False.elim h
theorem chain_read {g g' : D → D → M D} {fa fb fc : List SV → M D} {H : Hp} {Q : VK} (h : teV G W (chainD g g' fa fb fc) σ H Q) : tChain (rD2 G g) (rD2 G g') (teV G W fa) (teV G W fb) (teV G W fc) σ H Q := by
  obtain ⟨w0, w, sd, S, e, r, q⟩ := h
  refine ⟨w0, w, sd, S, e, r, fin_step q fun w1 S1 d v e1 s1 rv q1 => ⟨w0, w1, sd, S1, rfl, r.step e1 s1, fin_step q1 fun w2 S2 d2 v2 e2 s2 rv2 q2 => ?_⟩⟩
  refine ⟨_, w2, S2, d, d2, rfl, s2, RepV.mono e2 s1.dj d v rv, rv2, fin_step q2 fun w3 S3 z vz e3 s3 rz q3 => ?_⟩
  obtain ⟨b, ev, q4⟩ := toB_bind q3 rz
  refine ⟨b, ev, ?_⟩
  cases b with
  | false => exact fin_pure (b := V.bl false) q4 s3 rfl
  | true =>
    refine ⟨w0, w3, sd, S3, rfl, ((r.step e1 s1).step e2 s2).step e3 s3, fin_step q4 fun w4 S4 d4 v4 e4 s4 rv4 q5 => ?_⟩
    exact ⟨_, w4, S4, d2, d4, rfl, s4, RepV.mono (e3.trans e4) s2.dj d2 v2 rv2, rv4, q5⟩
theorem marks_of {op op' : CmpOp} {b c : Expr} (h : behindInMarks op' c = false) : lastMarks [op, op'] [b, c] = false := h
theorem v_chain' {op op' : CmpOp} {g g' : D → D → M D} {a b c : Expr} {fa fb fc : List SV → M D} {pos : Pos} (ho : OpR X (compareOp op) (rD2 G g)) (ho' : OpR X (compareOp op') (rD2 G g')) (ha : PV G X W a fa) (hb : PV G X W b fb) (hc : PV G X W c fc)
    (hm : behindInMarks op' c = false) : PV G X W (.Compare a [op, op'] [b, c] pos) (chainD g g' fa fb fc) := PE.imp (pe_chain ho ho' ha hb hc (marks_of hm)) fun σ H Q h => chain_read h
theorem b_chain {op op' : CmpOp} {g g' : D → D → M D} {a b c : Expr} {fa fb fc : List SV → M D} {pos : Pos} (ho : OpR X (compareOp op) (rD2 G g)) (ho' : OpR X (compareOp op') (rD2 G g')) (ha : PV G X W a fa) (hb : PV G X W b fb) (hc : PV G X W c fc)
    (hm : behindInMarks op' c = false) : PB G X W (.Compare a [op, op'] [b, c] pos) (fun sd => M.bind (chainD g g' fa fb fc sd) toB) := by
  refine PT.imp (pt_chain ho ho' ha hb hc (marks_of hm)) fun σ H Q h => ?_
  obtain ⟨w0, w, sd, S, e, r, q⟩ := h
  exact chain_read ⟨w0, w, sd, S, e, r, fin_step q fun w1 S1 d v e1 s1 rv q1 => toB_fin q1 s1 rv⟩
theorem reps_strs : ∀ ys : List Str, RepVs G w (ys.map D.str) (ys.map V.str)
  | [] => rfl
  | y :: ys => ⟨.str y, _, rfl, rfl, reps_strs ys⟩
def isStr : D → M Str
  | .str x => M.pure x
  | _ => M.stuck
def dSplit (a : Str) : D → M D
  | .str b => if (b.length == 0) = false ∧ a.length + 2 ≤ lim then M.pure (.lst ((Txt.split a b).map .str)) else M.stuck
  | _ => M.stuck
def dJoin (a : Str) (e : D) : M D := match e with
  | .lst ds => match txts ds with
    | some ys => if (ys.map (·.length)).sum + ys.length * a.length ≤ 16777216 then M.pure (.str (Txt.join a ys)) else M.stuck
    | none => M.stuck
  | .tup ds => match txts ds with
    | some ys => if (ys.map (·.length)).sum + ys.length * a.length ≤ 16777216 then M.pure (.str (Txt.join a ys)) else M.stuck
    | none => M.stuck
  | _ => M.stuck
theorem isStr_bind {α β : Type} {rep : Wd → α → β → Prop} {W' : Value → Option Addr → Hp → Prop} {Q : β → Hp → Prop} {d : D} {v : V} {kk : Str → M α} (h : FinG G rep W' w Q (M.bind (isStr d) kk S)) (r : RepV G w d v) : ∃ b, v = .str b ∧ FinG G rep W' w Q (kk b S) := by
  cases d with
  | str b => exact ⟨b, r, h⟩
  | _ => exact False.elim h
theorem v_split {o e : Expr} {fo fe : List SV → M D} {apos pos : Pos} (ho : PV G X W o fo) (he : PV G X W e fe) (hs : notStar e = true) (hb : plainBase o = true) (hp : (apos.endLine == pos.line) = true) :
    PV G X W (.Call (.Attribute o "split" apos) [e] [] pos) (fun sd => M.bind (fo sd) fun d => M.bind (isStr d) fun a => M.bind (fe sd) fun b => dSplit a b) := by
  refine PE.imp (pe_split ho he (by rw [starEach_cons hs]; rfl) (attr_base hb) hp) fun σ H Q h => ?_
  obtain ⟨w0, w, sd, S, e, r, q⟩ := h
  refine ⟨w0, w, sd, S, e, r, fin_step q fun w1 S1 d v e1 s1 rv q1 => ?_⟩
  obtain ⟨a, ev, q2⟩ := isStr_bind q1 rv
  refine ⟨⟨a, ev⟩, w0, w1, sd, S1, rfl, r.step e1 s1, fin_step q2 fun w2 S2 d2 v2 e2 s2 rv2 q3 => ?_⟩
  cases d2 with
  | str b =>
    cases (show v2 = .str b from rv2)
    obtain ⟨⟨c1, c2⟩, q4⟩ := FinG.ite q3
    exact ⟨a, b, ev, rfl, c1, by rw [← lim_eq]; exact c2, fun p hp => q4 (w2.frz p _) _ (Ext.frz hp) (s2.frz hp) ⟨p, _, rfl, .inr rfl, upd_same, reps_strs _⟩⟩
  | _ => exact q3.elim
theorem v_join {o e : Expr} {fo fe : List SV → M D} {apos pos : Pos} (cK : G.K = X.K) (ho : PV G X W o fo) (he : PV G X W e fe) (hs : notStar e = true) (hb : plainBase o = true) (hp : (apos.endLine == pos.line) = true) :
    PV G X W (.Call (.Attribute o "join" apos) [e] [] pos) (fun sd => M.bind (fo sd) fun d => M.bind (isStr d) fun a => M.bind (fe sd) fun b => dJoin a b) := by
  refine PE.imp (pe_join ho he (by rw [starEach_cons hs]; rfl) (attr_base hb) hp) fun σ H Q h => ?_
  obtain ⟨w0, w, sd, S, e, r, q⟩ := h
  refine ⟨w0, w, sd, S, e, r, fin_step q fun w1 S1 d v e1 s1 rv q1 => ?_⟩
  obtain ⟨a, ev, q2⟩ := isStr_bind q1 rv
  refine ⟨⟨a, ev⟩, w0, w1, sd, S1, rfl, r.step e1 s1, fin_step q2 fun w2 S2 d2 v2 e2 s2 rv2 q3 => ?_⟩
  unfold dJoin at q3
  cases d2 with
  | lst ds =>
    rcases ht : txts ds with _ | ys
    · simp only [ht] at q3; exact q3.elim
    · simp only [ht] at q3
      obtain ⟨c1, q4⟩ := FinG.ite q3
      obtain ⟨p, vs, e3, f, hh, rs⟩ := rv2
      have e4 := strs_rep ht rs
      subst e4
      exact ⟨a, p, ys, ev, by rw [e3], .inl (.of hh), c1, fin_pure q4 s2 rfl⟩
  | tup ds =>
    rcases ht : txts ds with _ | ys
    · simp only [ht] at q3; exact q3.elim
    · simp only [ht] at q3
      obtain ⟨c1, q4⟩ := FinG.ite q3
      obtain ⟨p, vs, e3, hh, rs⟩ := rv2
      have e4 := strs_rep ht rs
      subst e4
      exact ⟨a, p, ys, ev, by rw [e3], .inr (sqT_of cK hh), c1, fin_pure q4 s2 rfl⟩
  | _ => exact q3.elim
def dFmt : D → M D
  | .str x => if x.length ≤ lim then M.pure (.str x) else M.stuck
  | .int i => if strOk i = true then M.pure (.str (toString i : String)) else M.stuck
  | _ => M.stuck
theorem v_fmt {e : Expr} {f : List SV → M D} {pos : Pos} (he : PV G X W e f) : PV G X W (.FormattedValue e (-1) none pos) (fun sd => M.bind (f sd) dFmt) := by
  refine PE.imp (pe_fmt he) fun σ H Q h => ?_
  obtain ⟨w0, w, sd, S, e, r, q⟩ := h
  refine ⟨w0, w, sd, S, e, r, fin_step q fun w1 S1 d v e1 s1 rv q1 => ?_⟩
  cases d with
  | str x =>
    obtain ⟨c, q2⟩ := FinG.ite q1
    exact .inl ⟨x, rv, by rw [← lim_eq]; exact c, fin_pure q2 s1 rfl⟩
  | int i =>
    obtain ⟨c, q2⟩ := FinG.ite q1
    exact .inr ⟨i, rv, of_decide_eq_true c, fin_pure q2 s1 rfl⟩
  | _ => exact q1.elim
inductive PJV (G : Sg) (X : Cx) (W : WX) : List Expr → List (List SV → M D) → Prop where
  | nil : PJV G X W [] []
  | cons {e : Expr} {f : List SV → M D} {es : List Expr} {fs : List (List SV → M D)} (h : PV G X W e f) (r : PJV G X W es fs) : PJV G X W (e :: es) (f :: fs)
def joinFs : List (List SV → M D) → Str → List SV → M D
  | [], acc, _ => M.pure (.str acc)
  | f :: fs, acc, sd => M.bind (f sd) fun d => M.bind (isStr d) fun y => if (acc ++ y).length ≤ lim then joinFs fs (acc ++ y) sd else M.stuck
theorem PJV.pj {es : List Expr} {fs : List (List SV → M D)} (h : PJV G X W es fs) : PJ X es (fs.map (teV G W)) := by
  induction h with
  | nil => exact .nil
  | cons h r ih => exact .cons h ih
theorem join_read : ∀ (fs : List (List SV → M D)) (acc : Str) (σ : L2.St) (H : Hp) (Q : VK), teV G W (joinFs fs acc) σ H Q → tJs (fs.map (teV G W)) acc σ H (fun out H1 => Q (.str out) H1)
  | [], acc, σ, H, Q, h => by
    obtain ⟨w0, w, sd, S, e, r, q⟩ := h
    subst e
    exact fin_pure (b := V.str acc) q r.st rfl
  | f :: fs, acc, σ, H, Q, h => by
    obtain ⟨w0, w, sd, S, e, r, q⟩ := h
    refine ⟨w0, w, sd, S, e, r, fin_step (f := f sd) q fun w1 S1 d v e1 s1 rv q1 => ?_⟩
    obtain ⟨y, ev, q2⟩ := isStr_bind q1 rv
    obtain ⟨c, q3⟩ := FinG.ite q2
    exact ⟨y, ev, by rw [← lim_eq]; exact c, join_read fs (acc ++ y) σ w1.H Q ⟨w0, w1, sd, S1, rfl, r.step e1 s1, q3⟩⟩
theorem v_joined {v1 v2 : Expr} {rest : List Expr} {fs : List (List SV → M D)} {pos : Pos} (h : PJV G X W (v1 :: v2 :: rest) fs) : PV G X W (.JoinedStr (v1 :: v2 :: rest) pos) (joinFs fs Str.empty) :=
  PE.imp (pe_joined h.pj) fun σ H Q q => join_read fs Str.empty σ H Q q
theorem v_joined1 {e : Expr} {f : List SV → M D} {pos : Pos} (h : PV G X W e f) : PV G X W (.JoinedStr [e] pos) f := pe_joined1 h
def subT (a b : TyN) : Bool := a = b || (a = .bool && b = .int)
theorem kitT {K : PySem.W.Frag} (a b : TyN) : PySem.W.kitOne K (.type a.name) (.type b.name) = some (subT a b) := by
  cases a <;> cases b <;> exact kit_ty (by decide +kernel)
structure ClsT (X : Cx) (G : Sg) (known : Nat → Bool) (sub : Nat → Nat → Option Bool) : Prop where
  cl : ∀ c, known c = true → Cls X.K (G.ca c) ∧ PySem.W.findIn X.K (.ref (G.ca c)) "__class__" = some (some (.builtin "object.__class__")) ∧ PySem.W.mroIn X.K (G.ca c) (.type "object") = some true
  hn : PySem.W.specialIn X.K (.builtin "object.__class__") "__get__" = some (some (.builtin "getset_descriptor.__get__"))
  ht : PySem.W.takesIn X.K (.builtin "object.__class__") = some true
  cc : ∀ c c' b, sub c c' = some b → PySem.W.kitOne X.K (.ref (G.ca c)) (.ref (G.ca c')) = some b
  ct : ∀ c t, known c = true → PySem.W.kitOne X.K (.ref (G.ca c)) (.type (TyN.name t)) = some false
  tc : ∀ t c, known c = true → PySem.W.kitOne X.K (.type (TyN.name t)) (.ref (G.ca c)) = some false
def tyOf (d : D) : M (Sum TyN Nat) := fun S => match d with
  | .non => some (.ok (.inl .none_), S)
  | .bl _ => some (.ok (.inl .bool), S)
  | .int _ => some (.ok (.inl .int), S)
  | .str _ => some (.ok (.inl .str), S)
  | .tup _ => some (.ok (.inl .tuple), S)
  | .lst _ => some (.ok (.inl .list), S)
  | .scr _ => some (.ok (.inl .list), S)
  | .dct _ _ => some (.ok (.inl .dict), S)
  | .ins c _ => some (.ok (.inr c), S)
  | .ref n => match S[n]? with
    | some (.lst _) => some (.ok (.inl .list), S)
    | some (.dct _ _) => some (.ok (.inl .dict), S)
    | some (.ins c _) => some (.ok (.inr c), S)
    | none => none
  | _ => none
def isaD (known : Nat → Bool) (sub : Nat → Nat → Option Bool) (t : Sum TyN Nat) : D → Option Bool
  | .ty b => match t with
    | .inl a => some (subT a b)
    | .inr c => if known c = true then some false else none
  | .cls c' => match t with
    | .inl _ => if known c' = true then some false else none
    | .inr c => if known c = true then sub c c' else none
  | _ => none
def dIsa (known : Nat → Bool) (sub : Nat → Nat → Option Bool) (d e : D) : M D := M.bind (tyOf d) fun t => match isaD known sub t e with
  | some b => M.pure (.bl b)
  | none => M.stuck
def tyV' (G : Sg) : Sum TyN Nat → Value
  | .inl t => .type t.name
  | .inr c => .ref (G.ca c)
theorem tyOf_rep {d : D} {v : V} {t : Sum TyN Nat} {S' : List Ob} {known : Nat → Bool} {sub : Nat → Nat → Option Bool} (cK : G.K = X.K) (T : ClsT X G known sub) (s : RepS G w S) (r : RepV G w d v) (h : tyOf d S = some (.ok t, S')) (hk : ∀ c, t = .inr c → known c = true) : S' = S ∧ TyX X.K w.H v (tyV' G t) := by
  have insX : ∀ {a dx : Addr} {fs : List (Str × V)} {c : Nat}, w.H a = some (.ins (G.ca c) dx fs) → known c = true → TyX X.K w.H (.ref a) (.ref (G.ca c)) := fun e hc => by
    obtain ⟨h1, h2, h3⟩ := T.cl _ hc
    exact .base (.ins e h1 h2 T.hn T.ht h3)
  unfold tyOf at h
  cases d with
  | non => cases h; cases (show v = .non from r); exact ⟨rfl, .base .non⟩
  | bl b => cases h; cases (show v = .bl b from r); exact ⟨rfl, .base (.bl b)⟩
  | int b => cases h; cases (show v = .int b from r); exact ⟨rfl, .base (.int b)⟩
  | str b => cases h; cases (show v = .str b from r); exact ⟨rfl, .base (.str b)⟩
  | tup ds =>
    cases h
    obtain ⟨a, vs, e, hh, rs⟩ := r
    subst e
    rcases hh with ⟨_, hh | ⟨o, hh⟩⟩ | ⟨o, its, n, h1, h2, _⟩
    · exact ⟨rfl, .base (.tup hh)⟩
    · exact ⟨rfl, .fTuple hh⟩
    · exact ⟨rfl, .kTuple (by rw [← cK]; exact h1) h2⟩
  | lst ds =>
    cases h
    obtain ⟨a, vs, e, f, hh, rs⟩ := r
    subst e
    exact ⟨rfl, .base (.lst hh)⟩
  | scr ds =>
    cases h
    obtain ⟨a, vs, e, hh, rs⟩ := r
    subst e
    rcases hh with ⟨_, hh | ⟨o, hh⟩⟩ | ⟨o, its, n, h1, h2, _⟩
    · exact ⟨rfl, .base (.lst hh)⟩
    · exact ⟨rfl, .base (.frz hh)⟩
    · exact ⟨rfl, .kList (by rw [← cK]; exact h1) h2⟩
  | dct ks ds =>
    cases h
    obtain ⟨a, vs, e, f, hh, _⟩ := r
    subst e
    exact ⟨rfl, .base (.dK hh)⟩
  | ins c ds =>
    cases h
    obtain ⟨a, dx, vs, e, f, hh, _⟩ := r
    subst e
    exact ⟨rfl, insX hh (hk c rfl)⟩
  | ref n =>
    obtain ⟨a, e, hm⟩ := r
    subst e
    rcases hn : S[n]? with _ | ⟨ds | ⟨ks, ds⟩ | ⟨c, ds⟩⟩
    · simp only [hn] at h; cases h
    · simp only [hn] at h
      cases h
      obtain ⟨vs, hh, _⟩ := s.ob n a _ hm hn
      exact ⟨rfl, .base (.lst hh)⟩
    · simp only [hn] at h
      cases h
      obtain ⟨vs, hh, _⟩ := s.ob n a _ hm hn
      exact ⟨rfl, .base (.dK hh)⟩
    · simp only [hn] at h
      cases h
      obtain ⟨dx, vs, hh, _⟩ := s.ob n a _ hm hn
      exact ⟨rfl, insX hh (hk c rfl)⟩
  | ty t => cases h
  | cls c => cases h
theorem tyOf_noerr {d : D} {S' : List Ob} {x : Exn} : tyOf d S ≠ some (.error x, S') := by
  intro h
  unfold tyOf at h
  cases d with
  | ref n => rcases hn : S[n]? with _ | ⟨ds | ⟨ks, ds⟩ | ⟨c, ds⟩⟩ <;> simp [hn] at h
  | _ => simp at h
theorem c_isa {known : Nat → Bool} {sub : Nat → Nat → Option Bool} (cK : G.K = X.K) (T : ClsT X G known sub) : CallR X (.builtin "isinstance") (rDs G (on2 (dIsa known sub))) := by
  refine CallR.imp call_isi fun vs H Q h => ?_
  obtain ⟨W, w, S, d, e, v, u, rfl, s, rfl, r, r', q⟩ := on2_of h
  unfold dIsa M.bind at q
  rcases ht : tyOf d S with _ | ⟨x | t, S2⟩
  · rw [ht] at q; exact q.elim
  · exact absurd ht tyOf_noerr
  · rw [ht] at q
    simp only at q
    rcases hi : isaD known sub t e with _ | b
    · simp only [hi] at q; exact q.elim
    · simp only [hi] at q
      have hk : ∀ c, t = .inr c → known c = true := fun c e2 => by
        subst e2
        unfold isaD at hi
        cases e with
        | ty b => by_cases hc : known c = true
                  · exact hc
                  · simp [hc] at hi
        | cls c' => by_cases hc : known c = true
                    · exact hc
                    · simp [hc] at hi
        | _ => simp at hi
      obtain ⟨rfl, ty⟩ := tyOf_rep cK T s r ht hk
      have kit : ∃ c, ClsV u c ∧ PySem.W.kitOne X.K (tyV' G t) c = some b := by
        unfold isaD at hi
        cases e with
        | ty y =>
          cases (show u = .ty y.name from r')
          refine ⟨.type y.name, .ty _, ?_⟩
          rcases t with a | c
          · simp only [Option.some.injEq] at hi
            subst hi
            exact kitT a y
          · have hc := hk c rfl
            simp only [hc, if_true, Option.some.injEq] at hi
            subst hi
            exact T.ct c y hc
        | cls c' =>
          cases (show u = .ref (G.ca c') from r')
          refine ⟨.ref (G.ca c'), .own _, ?_⟩
          rcases t with a | c
          · by_cases hc : known c' = true
            · simp only [hc, if_true, Option.some.injEq] at hi
              subst hi
              exact T.tc a c' hc
            · simp [hc] at hi
          · have hc := hk c rfl
            simp only [hc, if_true] at hi
            exact T.cc c c' b hi
        | _ => simp at hi
      obtain ⟨cc, h1, h2⟩ := kit
      exact ⟨v, u, tyV' G t, cc, b, rfl, h1, ty, h2, fin_pure q s rfl⟩
end
end Ev
set_option maxRecDepth 100000
set_option maxHeartbeats 2000000
namespace Ev
open PySem PySem.Spec PyProof.Rows L2
def FnS (P : Program) (w : World) (K : PySem.W.Frag) (mg : Str → Option Value) (base : Heap) (k : Nat) (f : Addr) (sp : Sp) : Prop :=
  ∀ (A : Around) (fr : List Env) (s : Shared) (H : Hp) (us : List Value) (vs : List V) (Q : VK) (E : XK),
    Rm k A → Env0 P w K mg base A fr s H → Vals vs us → sp vs H Q E → codeAny (model P w) A (.call (.ref f) ⟨us, []⟩) (CR (L2.CX P w) fr P w H s Q E) s
def finR : Option (Out × List Ob) → Option (Except Exn D × List Ob)
  | some (.next _, S) => some (.ok .non, S)
  | some (.ret d, S) => some (.ok d, S)
  | some (.err e _, S) => some (.error e, S)
  | _ => none
def slots (n : Nat) (sv : List SV) : List SV := sv ++ List.replicate (n - sv.length) .no
def runFn (m n : Nat) (ms : MS) : List D → M D := fun ds S => if ds.length = m then finR (ms (slots n (ds.map .val)) S) else none
def starFn (m n : Nat) (ms : MS) : List D → M D := fun ds => if m ≤ ds.length ∧ ds.length < m + lim then runFn (m + 1) n ms (ds.take m ++ [.tup (ds.drop m)]) else M.stuck
def mkR (c : Nat) : Option (Out × List Ob) → Option (Except Exn D × List Ob)
  | some (.next sd, S) => match sd[0]? with
    | some (SV.own (Ob.ins c' es)) => if c' = c then some (.ok (.ins c es), S) else none
    | _ => none
  | some (.err e _, S) => some (.error e, S)
  | _ => none
def mkFn (c m n : Nat) (ms : MS) : List D → M D := fun ds S => if ds.length + 1 = m then mkR c (ms (slots n (.own (.ins c []) :: ds.map .val)) S) else none
def mkStar (c m n : Nat) (ms : MS) : List D → M D := fun ds => if m ≤ ds.length + 1 ∧ ds.length + 1 < m + lim then mkFn c (m + 1) n ms (ds.take (m - 1) ++ [.tup (ds.drop (m - 1))]) else M.stuck
section
variable {P : Program} {w : World} {K : PySem.W.Frag} {mg : Str → Option Value} {base : Heap} {G : Sg} {k : Nat} {f : Addr} {x qual : Str} {st : Stmt} {fd : FuncData} {N ps : List Str} {ms : MS}
abbrev XF (P : Program) (w : World) (K : PySem.W.Frag) (mg : Str → Option Value) (base : Heap) (N : List Str) (qual : Str) (st : Stmt) (f : Addr) (cdv : Value) (A : Around) (fr : List Env) (s : Shared) (H : Hp) (E : XK) : Cx :=
  cxOf (L2.CX P w) P w K mg base N qual (defScope st) f cdv A fr s H E
abbrev WF (E : XK) : WX := fun c d _ H => E c d H
def Body (P : Program) (w : World) (K : PySem.W.Frag) (mg : Str → Option Value) (base : Heap) (G : Sg) (k : Nat) (f : Addr) (N : List Str) (qual : Str) (st : Stmt) (ms : MS) : Prop :=
  ∀ (cdv : Value) (A : Around) (fr : List Env) (s : Shared) (H : Hp) (E : XK), Ctx G (XF P w K mg base N qual st f cdv A fr s H E) (WF E) k → PSsV G (XF P w K mg base N qual st f cdv A fr s H E) (WF E) (defBody st) ms
def spT (G : Sg) (N : List Str) (ms : MS) : Sp := fun vs H Q E => tsV G (WF E) ms { nx := fun _ H' => Q .non H', rt := Q } (start N vs) H
theorem ctxF (cK : G.K = K) (SC : FnScope N ps (defScope st)) {cdv : Value} {A : Around} {fr : List Env} {s : Shared} {H : Hp} {E : XK} (hr : Rm (k + 1) (A.deeper (envOfC qual (defScope st) s.heap.objs.size f cdv))) :
    Ctx G (XF P w K mg base N qual st f cdv A fr s H E) (WF E) k := ⟨cK, rfl, hr, SC.nd, fun σ => L2.passAt (L2.takes_of rfl rfl rfl rfl) σ, L2.passes_of rfl⟩
theorem fns_rule (F : Fun K x qual st f fd) (SC : FnScope N ps (defScope st)) (hb : Binds K fd ps []) (cK : G.K = K) (B : Body P w K mg base G k f N qual st ms) :
    FnS P w K mg base (k + 2) f (fun vs H Q E => vs.length = ps.length ∧ spT G N ms vs H Q E) := by
  obtain ⟨oc, od, kV, doc, pm, an, cdv, ct, osl, rfl, lk, hcd⟩ := F.ex
  have g := gn_of (sp := fun vs H Q E => vs.length = ps.length ∧ spT G N ms vs H Q E) (P := P) (w := w) (mg := mg) (base := base) (k := k + 1) lk hcd SC (fun _ _ _ _ z => z.1) (fun A fr s H vs Q E hr hsp => ⟨_, B cdv A fr s H E (ctxF cK SC hr), hsp.2⟩)
  intro A fr s H us vs Q E hr e0 r h
  have inK : K.In s.heap := e0.mod.kin.keeps fun b o e => (e0.bs b o e).1
  have b2 := hb s us inK (by rw [List.append_nil, ← r.length]; exact h.1)
  rw [List.append_nil] at b2
  exact g.run A fr s H ⟨us, []⟩ us vs Q E hr e0 b2 r h
theorem slots_val {n i : Nat} {ds : List D} {d : D} (h : (slots n (ds.map .val))[i]? = some (.val d)) : ds[i]? = some d := by
  unfold slots at h
  by_cases l : i < (ds.map SV.val).length
  · rw [List.getElem?_append_left l, List.getElem?_map] at h
    cases e : ds[i]? with
    | none => rw [e] at h; cases h
    | some y => rw [e] at h; cases h; rfl
  · rw [List.getElem?_append_right (Nat.le_of_not_lt l), List.getElem?_replicate] at h
    split at h <;> cases h
theorem slots_own {n i : Nat} {ds : List D} {o : Ob} (h : (slots n (ds.map .val))[i]? = some (.own o)) : False := by
  unfold slots at h
  by_cases l : i < (ds.map SV.val).length
  · rw [List.getElem?_append_left l, List.getElem?_map] at h
    cases e : ds[i]? with
    | none => rw [e] at h; cases h
    | some y => rw [e] at h; cases h
  · rw [List.getElem?_append_right (Nat.le_of_not_lt l), List.getElem?_replicate] at h
    split at h <;> cases h
theorem start_get {vs : List V} {i : Nat} {v : V} (h : vs[i]? = some v) : (start N vs)[i]? = some (some v) := by
  unfold L2.start
  have l : i < vs.length := (List.getElem?_eq_some_iff.mp h).1
  rw [List.getElem?_append_left (by simpa using l), List.getElem?_map, h]
  rfl
theorem start_len {vs : List V} (h : vs.length ≤ N.length) : (start N vs).length = N.length := by
  unfold L2.start
  rw [List.length_append, List.length_map, List.length_replicate]
  omega
theorem slots_len {n : Nat} {sv : List SV} (h : sv.length ≤ n) : (slots n sv).length = n := by
  unfold slots
  rw [List.length_append, List.length_replicate]
  omega
theorem R.enter {wd : Wd} {ds : List D} {vs : List V} {S : List Ob} (s : RepS G wd S) (r : RepVs G wd ds vs) (h : ds.length ≤ N.length) : R G wd wd (slots N.length (ds.map .val)) S (start N vs) := by
  refine ⟨Ext.refl wd, s, ?_, fun i d e => ?_, fun i o e => (slots_own e).elim, fun i j o o' a e => (slots_own e).elim, fun a o _ e => (slots_own e).elim⟩
  · rw [start_len (by rw [← r.length]; exact h), slots_len (by simpa using h)]
  · obtain ⟨v, h1, h2⟩ := r.get (slots_val e)
    exact ⟨v, start_get h1, h2⟩
theorem fin_body {wd : Wd} {ds : List D} {vs : List V} {S : List Ob} {H : Hp} {Q : VK} {E : XK} (eH : wd.H = H) (s : RepS G wd S) (r : RepVs G wd ds vs) (h : ds.length ≤ N.length) (q : FinG G (RepV G) E wd Q (finR (ms (slots N.length (ds.map .val)) S))) : spT G N ms vs H Q E := by
  refine ⟨wd, wd, _, S, eH, R.enter s r h, ?_⟩
  rcases hm : ms (slots N.length (ds.map .val)) S with _ | ⟨_ | _ | _ | _ | _, S1⟩
  · rw [hm] at q; exact q
  · rw [hm] at q
    exact fun w' σ' _ r' => q w' .non r'.ex r'.st rfl
  · rw [hm] at q
    exact fun w' v e s' rv => q w' v e s' rv
  · rw [hm] at q; exact q.elim
  · rw [hm] at q; exact q.elim
  · rw [hm] at q
    exact fun w' σ' cls y _ r' rx => q w' cls y r'.ex r'.st rx
theorem fna_rule (F : Fun K x qual st f fd) (SC : FnScope N ps (defScope st)) (hb : Binds K fd ps []) (cK : G.K = K) (B : Body P w K mg base G k f N qual st ms) {m n : Nat} (em : ps.length = m) (en : N.length = n) (hmn : m ≤ n) :
    FnA P w K mg base G (k + 2) f (runFn m n ms) := by
  have z := fns_rule (P := P) (w := w) (mg := mg) (base := base) F SC hb cK B
  refine ⟨fun A fr s H us vs Q E hr e0 r ⟨wd, ds, S, eH, rs, rv, q⟩ => z A fr s H us vs Q E hr e0 r ?_, F.kp⟩
  unfold runFn at q
  split at q
  · next e =>
    subst em en
    exact ⟨by rw [← rv.length]; exact e, fin_body eH rs rv (by omega) q⟩
  · exact q.elim
theorem fns_starred {pv : Str} (F : Fun K x qual st f fd) (SC : FnScope N (ps ++ [pv]) (defScope st)) (cK : G.K = K) (B : Body P w K mg base G k f N qual st ms)
    (hb : ∀ (kV doc pm : Value) (an : Option Addr) (cdv ct : Value) (us rest : List Value), us.length = ps.length → bindArgs (PySem.W.fnOf x qual (defArgs st) (defBody st) (defScope st) .none kV doc pm an cdv ct) ⟨us ++ rest, []⟩ = (newTuple rest >>= fun t => pure (ps.zip us ++ [(pv, t)]))) :
    FnS P w K mg base (k + 2) f (fun vs H Q E => ∃ ws more, vs = ws ++ more ∧ ws.length = ps.length ∧ more.length ≤ sizeLine ∧ ∀ p, H p = none → spT G N ms (ws ++ [V.ref p]) (upd H p (.tup more)) Q E) := by
  obtain ⟨oc, od, kV, doc, pm, an, cdv, ct, osl, rfl, lk, hcd⟩ := F.ex
  rintro A fr s H us vs Q E hr e0 r ⟨ws, more, rfl, lw, lm, q⟩
  obtain ⟨u1, u2, rfl, r1, r2⟩ := StX.vals_split r
  have free : H s.heap.objs.size = none := e0.hok.fresh (Nat.le_refl _)
  refine StX.run_bnd (CX := L2.CX P w) (k := k + 1) lk hcd SC hr.room e0 (G := fun xs H2 => ∃ p, H p = none ∧ xs = ws ++ [V.ref p] ∧ H2 = upd H p (.tup more)) ?_ ?_
  · intro A' Ex Q' h
    have l1 : u1.length = ps.length := r1.length.symm.trans lw
    have l2 : u2.length ≤ sizeLine := r2.length ▸ lm
    rw [hb _ _ _ _ _ _ u1 u2 l1]
    refine wpAny_bind (wpAny_newTuple (wpAny_pure ?_) l2)
    have made : ObjOk P w (upd H s.heap.objs.size (.tup more)) (s.heap.push { cls := .type "tuple", data := .seq u2.toArray }) s.heap.objs.size (.tup more) := ⟨lm, u2, r2, _, Heap.get?_push_size _ rfl, rfl, _, rfl⟩
    have keep := StX.un_laid (fs := frs fr) (o := ({ cls := .type "tuple", data := .seq u2.toArray } : Obj)) (u := .tup more) free
    have got := h _ _ (ws ++ [V.ref s.heap.objs.size]) (u1 ++ [Value.ref s.heap.objs.size]) (StX.env0_laid e0 made) keep rfl (fun e s' => StX.cxUp fr s H _ _ E e s' keep (fun b o y => Heap.get?_push_of_some _ y) rfl)
      (r1.append (.cons rfl .nil)) (by simp [lw]) ⟨_, free, rfl, rfl⟩
    rwa [List.zip_append l1.symm] at got
  · rintro s2 H2 xs ⟨p, hp, rfl, rfl⟩ hr2
    exact ⟨_, B cdv A fr s2 _ E (ctxF cK SC ⟨hr2, hr.gd⟩), q p hp⟩
theorem rep_tail {wd : Wd} : ∀ (m : Nat) {ds : List D} {vs : List V}, RepVs G wd ds vs → m ≤ ds.length → ∃ a b, vs = a ++ b ∧ a.length = m ∧ RepVs G wd (ds.take m) a ∧ RepVs G wd (ds.drop m) b := fun m ds vs r h =>
  ⟨vs.take m, vs.drop m, (List.take_append_drop m vs).symm, by rw [List.length_take, ← r.length]; omega, r.take m, r.drop m⟩
theorem fna_star {pv : Str} (F : Fun K x qual st f fd) (SC : FnScope N (ps ++ [pv]) (defScope st)) (cK : G.K = K) (B : Body P w K mg base G k f N qual st ms)
    (hb : ∀ (kV doc pm : Value) (an : Option Addr) (cdv ct : Value) (us rest : List Value), us.length = ps.length → bindArgs (PySem.W.fnOf x qual (defArgs st) (defBody st) (defScope st) .none kV doc pm an cdv ct) ⟨us ++ rest, []⟩ = (newTuple rest >>= fun t => pure (ps.zip us ++ [(pv, t)])))
    {m n : Nat} (em : ps.length = m) (en : N.length = n) (hmn : m + 1 ≤ n) : FnA P w K mg base G (k + 2) f (starFn m n ms) := by
  have z := fns_starred (P := P) (w := w) (mg := mg) (base := base) F SC cK B hb
  refine ⟨fun A fr s H us vs Q E hr e0 r ⟨wd, ds, S, eH, rs, rv, q⟩ => z A fr s H us vs Q E hr e0 r ?_, F.kp⟩
  unfold starFn at q
  obtain ⟨hl, q⟩ := FinG.ite q
  obtain ⟨a, b, e, la, ra, rb⟩ := rep_tail m rv hl.1
  have lb : b.length < lim := by
    rw [← rb.length, List.length_drop]
    omega
  refine ⟨a, b, e, la.trans em.symm, by rw [lim_eq] at lb; exact Nat.le_of_lt lb, fun p hp => ?_⟩
  subst en eH
  have ez : Ext wd (wd.frz p (.tup b)) := Ext.frz hp
  have st2 := ez.stay rs.dj
  unfold runFn at q
  have ll : (ds.take m ++ [D.tup (ds.drop m)]).length = m + 1 := by simp; omega
  rw [if_pos ll] at q
  refine fin_body (wd := wd.frz p (.tup b)) rfl (rs.frz hp) (RepVs.append (RepVs.stay st2 _ _ ra) (RepVs.one ?_)) (by rw [ll]; exact hmn) (FinG.ext ez q)
  exact ⟨p, b, rfl, .inl ⟨.inr rfl, .inl upd_same⟩, RepVs.stay st2 _ _ rb⟩
end
end Ev
set_option maxRecDepth 100000
set_option maxHeartbeats 2000000
namespace Ev
open PySem PySem.Spec PyProof.Rows L2
def spN (G : Sg) (c : Nat) (sem : List D → M D) : Sp := fun vs' H' Q' E => ∃ (x dx : Addr) (vs : List V) (H : Hp) (Q : VK), vs' = V.ref x :: vs ∧ H' = upd (upd H dx (.own x)) x (.ins (G.ca c) dx []) ∧ H x = none ∧ H dx = none ∧ dx ≠ x ∧
  (Q' = fun v H2 => v = V.non ∧ Q (.ref x) H2) ∧ spV G sem vs H Q E
structure ClA (P : Program) (w : World) (K : PySem.W.Frag) (mg : Str → Option Value) (base : Heap) (G : Sg) (k c : Nat) (sem : List D → M D) : Prop where
  ex : ∃ f, Mk K (G.ca c) f ∧ FnS P w K mg base k f (spN G c sem)
theorem ClA.mono {P : Program} {w : World} {K : PySem.W.Frag} {mg : Str → Option Value} {base : Heap} {G : Sg} {j k c : Nat} {sem : List D → M D} (F : ClA P w K mg base G j c sem) (h : j ≤ k) : ClA P w K mg base G k c sem :=
  ⟨let ⟨f, M, g⟩ := F.ex; ⟨f, M, fun A fr s H us vs Q E hr => g A fr s H us vs Q E (hr.mono h)⟩⟩
section
variable {P : Program} {w : World} {K : PySem.W.Frag} {mg : Str → Option Value} {base : Heap} {G : Sg} {k c : Nat} {f : Addr} {x qual : Str} {st : Stmt} {fd : FuncData} {N ps : List Str} {ms : MS}
theorem R.enterI {wd w1 : Wd} {ds : List D} {vs : List V} {S : List Ob} {a dx : Addr} (e : Ext wd w1) (s : RepS G w1 S) (r : RepVs G w1 ds vs) (h : ds.length + 1 ≤ N.length) (ha : w1.H a = some (.ins (G.ca c) dx [])) (nF : ¬ w1.F a) (nm : a ∉ w1.m) (n0 : wd.H a = none) :
    R G { wd with x := some a } w1 (slots N.length (.own (.ins c []) :: ds.map .val)) S (L2.start N (V.ref a :: vs)) := by
  have hd : ∀ {i : Nat} {y : SV}, (slots N.length (SV.own (.ins c []) :: ds.map .val))[i]? = some y → (i = 0 ∧ y = .own (.ins c [])) ∨ (∃ j, i = j + 1 ∧ (slots (N.length - 1) (ds.map SV.val))[j]? = some y) := fun {i y} z => by
    cases i with
    | zero =>
      refine .inl ⟨rfl, ?_⟩
      unfold slots at z
      simp at z
      exact z.symm
    | succ j =>
      refine .inr ⟨j, rfl, ?_⟩
      unfold slots at z ⊢
      have e1 : N.length - (SV.own (Ob.ins c []) :: ds.map SV.val).length = N.length - 1 - (ds.map SV.val).length := by
        rw [List.length_cons]
        omega
      rw [e1, List.cons_append, List.getElem?_cons_succ] at z
      exact z
  have s0 : (L2.start N (V.ref a :: vs))[0]? = some (some (V.ref a)) := start_get rfl
  refine ⟨⟨e.m, e.F, e.H, e.nm, e.nF, e.al⟩, s, ?_, fun i d z => ?_, fun i o z => ?_, fun i j o o' b z1 z2 _ _ => ?_, fun b o eb z => ?_⟩
  · have l : vs.length = ds.length := r.length.symm
    rw [start_len (by rw [List.length_cons, l]; exact h), slots_len (by rw [List.length_cons, List.length_map]; exact h)]
  · rcases hd z with ⟨_, e2⟩ | ⟨j, rfl, z2⟩
    · cases e2
    · obtain ⟨v, h1, h2⟩ := r.get (slots_val z2)
      exact ⟨v, start_get (by rw [List.getElem?_cons_succ]; exact h1), h2⟩
  · rcases hd z with ⟨rfl, e2⟩ | ⟨j, rfl, z2⟩
    · cases e2
      exact ⟨a, s0, ⟨dx, [], by rw [List.zip_nil_right]; exact ha, Nat.zero_le _, rfl⟩, nF, nm, n0⟩
    · exact (slots_own z2).elim
  · rcases hd z1 with ⟨e1, _⟩ | ⟨j1, _, z1⟩
    · rcases hd z2 with ⟨e2, _⟩ | ⟨j2, _, z2⟩
      · rw [e1, e2]
      · exact (slots_own z2).elim
    · exact (slots_own z1).elim
  · cases eb
    exact s0
theorem fin_mk {wd w1 : Wd} {ds : List D} {vs : List V} {S : List Ob} {a dx : Addr} {Q : VK} {E : XK} (e : Ext wd w1) (s : RepS G w1 S) (r : RepVs G w1 ds vs) (h : ds.length + 1 ≤ N.length) (ha : w1.H a = some (.ins (G.ca c) dx [])) (nF : ¬ w1.F a) (nm : a ∉ w1.m) (n0 : wd.H a = none)
    (q : FinG G (RepV G) E wd Q (mkR c (ms (slots N.length (.own (.ins c []) :: ds.map .val)) S))) : spT G N ms (V.ref a :: vs) w1.H (fun v H2 => v = .non ∧ Q (.ref a) H2) E := by
  refine ⟨{ wd with x := some a }, w1, _, S, rfl, R.enterI e s r h ha nF nm n0, ?_⟩
  rcases hm : ms (slots N.length (.own (.ins c []) :: ds.map .val)) S with _ | ⟨sd | _ | _ | _ | _, S1⟩
  · rw [hm] at q; exact q
  · rw [hm] at q
    intro w' σ' _ r'
    have ex : Ext wd w' := ⟨r'.ex.m, r'.ex.F, r'.ex.H, r'.ex.nm, r'.ex.nF, r'.ex.al⟩
    unfold mkR at q
    simp only at q
    rcases hs : sd[0]? with _ | _ | _ | ⟨_ | _ | ⟨c', es⟩⟩
    · rw [hs] at q; exact q.elim
    · rw [hs] at q; exact q.elim
    · rw [hs] at q; exact q.elim
    · rw [hs] at q; exact q.elim
    · rw [hs] at q; exact q.elim
    · rw [hs] at q
      simp only at q
      split at q
      · next ec =>
        subst ec
        obtain ⟨b, hb, ho, bF, bm, b0⟩ := r'.ow 0 _ hs
        have hb2 := r'.sf a _ rfl hs
        rw [hb] at hb2
        cases hb2
        obtain ⟨dx', vs', h1, h2, h3⟩ := id ho
        refine ⟨rfl, q (w'.fz a) (.ref a) (Ext.fz ex n0) (r'.st.fz bm ho.there) ⟨a, dx', vs', rfl, .inr rfl, h1, h2, RepVs.stay Stay.fz _ _ h3⟩⟩
      · exact q.elim
  · rw [hm] at q; exact q.elim
  · rw [hm] at q; exact q.elim
  · rw [hm] at q; exact q.elim
  · rw [hm] at q
    exact fun w' σ' cls y _ r' rx => q w' cls y ⟨r'.ex.m, r'.ex.F, r'.ex.H, r'.ex.nm, r'.ex.nF, r'.ex.al⟩ r'.st rx
theorem made {wd : Wd} {S : List Ob} {a dx C : Addr} (s : RepS G wd S) (ha : wd.H a = none) (hdx : wd.H dx = none) (ne : dx ≠ a) :
    ∃ w1 : Wd, w1.H = upd (upd wd.H dx (.own a)) a (.ins C dx []) ∧ Ext wd w1 ∧ RepS G w1 S ∧ ¬ w1.F a ∧ a ∉ w1.m := by
  have ha2 : (wd.new dx (.own a)).H a = none := by
    show upd wd.H dx _ a = none
    rw [upd_ne (fun e => ne e.symm)]
    exact ha
  exact ⟨(wd.new dx (.own a)).new a (.ins C dx []), rfl, (Ext.new hdx).trans (Ext.new ha2), (s.new hdx).new ha2, fun z => s.fh a z ha, fun z => s.there z ha⟩
theorem cla_rule (F : Fun K x qual st f fd) (SC : FnScope N ps (defScope st)) (hb : Binds K fd ps []) (cK : G.K = K) (B : Body P w K mg base G k f N qual st ms) (M : Mk K (G.ca c) f) {m n : Nat} (em : ps.length = m) (en : N.length = n) (hmn : m ≤ n) :
    ClA P w K mg base G (k + 2) c (mkFn c m n ms) := by
  have z := fns_rule (P := P) (w := w) (mg := mg) (base := base) F SC hb cK B
  refine ⟨f, M, fun A fr s H us vs Q E hr e0 r h => z A fr s H us vs Q E hr e0 r ?_⟩
  obtain ⟨a, dx, vs, H, Q, rfl, rfl, ha, hdx, ne, rfl, wd, ds, S, eH, rs, rv, q⟩ := h
  subst em en eH
  obtain ⟨w1, e1, ex, s1, nF, nm⟩ := made (C := G.ca c) rs ha hdx ne
  unfold mkFn at q
  split at q
  · next e =>
    refine ⟨by rw [List.length_cons, ← rv.length]; exact e, ?_⟩
    rw [← e1]
    exact fin_mk ex s1 (RepVs.mono ex rs.dj _ _ rv) (by omega) (by rw [e1, upd_same]) nF nm ha q
  · exact q.elim
theorem cla_star {pv : Str} (F : Fun K x qual st f fd) (SC : FnScope N (ps ++ [pv]) (defScope st)) (cK : G.K = K) (B : Body P w K mg base G k f N qual st ms)
    (hb : ∀ (kV doc pm : Value) (an : Option Addr) (cdv ct : Value) (us rest : List Value), us.length = ps.length → bindArgs (PySem.W.fnOf x qual (defArgs st) (defBody st) (defScope st) .none kV doc pm an cdv ct) ⟨us ++ rest, []⟩ = (newTuple rest >>= fun t => pure (ps.zip us ++ [(pv, t)])))
    (M : Mk K (G.ca c) f) {m n : Nat} (em : ps.length = m) (en : N.length = n) (hmn : m + 1 ≤ n) (hm1 : 1 ≤ m) : ClA P w K mg base G (k + 2) c (mkStar c m n ms) := by
  have z := fns_starred (P := P) (w := w) (mg := mg) (base := base) F SC cK B hb
  refine ⟨f, M, fun A fr s H us vs Q E hr e0 r h => z A fr s H us vs Q E hr e0 r ?_⟩
  obtain ⟨a, dx, vs, H, Q, rfl, rfl, ha, hdx, ne, rfl, wd, ds, S, eH, rs, rv, q⟩ := h
  subst eH
  unfold mkStar at q
  obtain ⟨hl, q⟩ := FinG.ite q
  obtain ⟨v1, v2, e, l1, r1, r2⟩ := rep_tail (m - 1) rv (by omega)
  subst e
  have l2 : v2.length < lim := by
    rw [← r2.length, List.length_drop]
    omega
  obtain ⟨w1, e1, ex, s1, nF, nm⟩ := made (C := G.ca c) rs ha hdx ne
  refine ⟨V.ref a :: v1, v2, rfl, by rw [List.length_cons, em, l1]; omega, by rw [lim_eq] at l2; exact Nat.le_of_lt l2, fun p hp => ?_⟩
  subst en
  rw [← e1] at hp ⊢
  have ez : Ext w1 (w1.frz p (.tup v2)) := Ext.frz hp
  have st2 := (ex.trans ez).stay rs.dj
  have nap : a ≠ p := fun z => by
    rw [← z, e1, upd_same] at hp
    cases hp
  have ll : (ds.take (m - 1) ++ [D.tup (ds.drop (m - 1))]).length + 1 = m + 1 := by simp; omega
  unfold mkFn at q
  rw [if_pos ll] at q
  have rr : RepVs G (w1.frz p (.tup v2)) (ds.take (m - 1) ++ [D.tup (ds.drop (m - 1))]) (v1 ++ [V.ref p]) := RepVs.append (RepVs.stay st2 _ _ r1) (RepVs.one ⟨p, v2, rfl, .inl ⟨.inr rfl, .inl upd_same⟩, RepVs.stay st2 _ _ r2⟩)
  refine fin_mk (ex.trans ez) (s1.frz hp) rr (by rw [ll]; exact hmn) (a := a) (dx := dx) ?_ (fun z => z.elim nF nap) nm ha q
  show upd w1.H p _ a = _
  rw [upd_ne nap, e1, upd_same]
end
section
variable {G : Sg} {X : Cx} {W : WX} {k n c : Nat} {f C : Addr} {sem : List D → M D} {sp : Sp} {x : Str} {p pos apos : Pos} {e o : Expr} {es : List Expr} {fa : List SV → M (List D)} {σ : L2.St}
theorem run_mk {pins : List (Addr × Obj)} {H : Hp} {s : Shared} {Q : VK} {us : List Value} {vs : List V} (cx : Ctx G X W k) (M : Mk X.K C f) (F : FnS X.prog X.w X.K X.mg X.base k f sp) (I : Inv X pins σ H s) (r : Vals vs us)
    (h : ∀ a dx, H a = none → H dx = none → dx ≠ a → sp (V.ref a :: vs) (upd (upd H dx (.own a)) a (.ins C dx [])) (fun v H2 => v = .non ∧ Q (.ref a) H2) (WE W σ)) :
    wpAny (model X.prog X.w) X.A (call (.ref C) us) (EP X pins σ Q) X.xe s := by
  have want := h _ _ (I.hok.fresh (Nat.le_succ _)) (I.hok.fresh (Nat.le_refl _)) (Nat.ne_of_lt (Nat.lt_succ_self s.heap.objs.size))
  have J := Inv.made (C := C) I
  have body := F _ X.stack _ _ (Value.ref (s.heap.objs.size + 1) :: us) (V.ref (s.heap.objs.size + 1) :: vs) _ _ (cx.rm.make C us []) (J.env0.make C us []) (.cons rfl r) want
  refine wpAny_call (make_map (f := f) I.kIn M.makes M.init (beq_iff_eq.mp M.fn) (codeAny_mono body ?_))
  rintro (er | fl) s' got
  · exact cx.px σ pins _ _ er s' J got
  · cases fl with
    | ret u =>
      obtain ⟨v, H', J2, rv, rfl, q3⟩ := J.after got
      exact ⟨rv, V.ref (s.heap.objs.size + 1), H', J2, rfl, q3⟩
    | next => exact got.elim
    | brk => exact got.elim
    | cont => exact got.elim
structure CallA (G : Sg) (X : Cx) (W : WX) (a : Addr) (sem : List D → M D) : Prop where
  kp : PySem.W.keepIn X.K (.ref a) = true
  run : ∀ (pins : List (Addr × Obj)) (σ : L2.St) (H : Hp) (s : Shared) (Q : VK) (us : List Value) (vs : List V), Inv X pins σ H s → Vals vs us → spV G sem vs H Q (WE W σ) → wpAny (model X.prog X.w) X.A (call (.ref a) us) (EP X pins σ Q) X.xe s
theorem FnA.call (c : Ctx G X W k) (F : FnX X G k f sem) : CallA G X W f sem := ⟨F.kp, fun _ _ _ _ _ _ _ I r h => run_fa c F I r h⟩
theorem ClA.call {c : Nat} (cx : Ctx G X W k) (F : ClA X.prog X.w X.K X.mg X.base G k c sem) : CallA G X W (G.ca c) sem := by
  obtain ⟨f, M, g⟩ := F.ex
  exact ⟨M.kp, fun pins σ H s Q us vs I r h => run_mk cx M g I r fun a dx ha hdx ne => ⟨a, dx, vs, H, Q, rfl, rfl, ha, hdx, ne, rfl, h⟩⟩
theorem v_calls (F : CallA G X W f sem) (hg : Gl X x) (hm : X.mg x = some (.ref f)) (ha : PLn G X W n (e :: es) fa) (hs : (e :: es).all notStar = true) (hd : (x == ("__debug__" : Str)) = false) :
    PV G X W (.Call (.Name x p) (e :: es) [] pos) (fun sd => M.bind (fa sd) sem) := by
  have hs2 : notStar e = true ∧ es.all notStar = true := by simpa using hs
  constructor
  intro pins s σ H Q I ⟨w0, w, sd, S, eH, r, q⟩
  refine wpAny_Call_Name_kw (ld_glob I hg hm ?_ hd)
  refine PySem.W.callWith_K (h₀ := X.base) I.ok.mod.kin F.kp (thn (ha.run pos pins s σ H (fun vs H1 => spV G sem vs H1 Q (WE W σ)) I ?_) ?_) (starEach_cons hs2.1) (starEach_all hs2.2 pos)
  · exact ⟨w0, w, sd, S, eH, r, fin_step q fun w1 S1 ds vs e1 s1 rv q1 => ⟨w1, ds, S1, rfl, s1, rv.1, q1⟩⟩
  · rintro us s1 ⟨vs, H1, I1, rv, q1⟩
    exact ⟨I1.kIn, F.run _ _ _ _ _ _ _ I1 rv q1⟩
theorem v_calls0 (F : CallA G X W f sem) (hg : Gl X x) (hm : X.mg x = some (.ref f)) (hd : (x == ("__debug__" : Str)) = false) : PV G X W (.Call (.Name x p) [] [] pos) (fun _ => sem []) := by
  constructor
  intro pins s σ H Q I ⟨w0, w, sd, S, eH, r, q⟩
  refine wpAny_Call_Name_kw (ld_glob I hg hm ?_ hd)
  exact PySem.W.callWith_K0 I.kIn F.kp (F.run pins σ H s Q [] [] I .nil ⟨w, [], S, eH, r.st, rfl, q⟩)
end
end Ev
set_option maxRecDepth 100000
set_option maxHeartbeats 2000000
namespace Ev
open PySem PySem.Spec PyProof.Rows L2
section
variable {G : Sg} {X : Cx} {W : WX} {k n : Nat} {f C : Addr} {sem : List D → M D} {x m : Str} {p pos apos : Pos} {e o fe : Expr} {es : List Expr} {fa : List SV → M (List D)} {ff : List SV → M D} {σ : L2.St}
def fldT (i : Nat) (tbl : Nat → Option Nat) : Tgt := fun d sd S => match sd[i]? with
  | some (.own (.ins c ds)) => match tbl c with
    | some j => match putL ds j d with
      | some es => some (sd.set i (.own (.ins c es)), S)
      | none => none
    | none => none
  | _ => none
def tgFld (K : PySem.W.Frag) (to : TE) (f : Str) : TG := fun v σ H Q => to σ H fun y H1 => ∃ a C dx fs, y = V.ref a ∧ H1 a = some (.ins C dx fs) ∧ Cls K C ∧ NoAttr K C f ∧ fs.length < 1000 ∧ Q σ (upd H1 a (.ins C dx (putF f v fs)))
theorem pg_attr {to : TE} (ho : PE X o to) : PG X (.Attribute o m pos) (tgFld X.K to m) := by
  refine ⟨fun pins s σ H v u Q I r h => ?_⟩
  have tree : assign (.Attribute o m pos) X.env u = (do
    let ov ← holding [u] (eval o X.env)
    standAt pos.atName
    holding [u, ov] (setAttr ov m u)
    release [u, ov] []) := by rfl
  rw [tree]
  refine wpAny_bind (wpAny_holding (thn (ho.run pins s σ H _ I h) fun ov s1 got => ?_))
  obtain ⟨y, H1, I1, ry, a, C, dx, fs, ey, ha, cl, na, hl, q⟩ := got
  subst ey
  obtain rfl : ov = Value.ref a := ry
  refine wpAny_bind (wpAny_standAt (wpAny_bind (wpAny_holding (setattr_ok I1 ha cl na hl r fun s2 I2 => ?_))))
  exact wpAny_release ⟨σ, _, I2, q⟩
theorem g_fld {i : Nat} {tbl : Nat → Option Nat} (T : FldT X G m tbl) (hN : X.N[i]? = some x) (hv : Vis X.env.scope x) (hd : (x == ("__debug__" : Str)) = false) (hcd : (x == ("__classdict__" : Str)) = false) : PGV G X [] (.Attribute (.Name x p) m pos) (fldT i tbl) := by
  refine PG.imp (pg_attr (pe_var (X := X) (pos := p) hN hv hd hcd)) fun v σ H Q q => ?_
  obtain ⟨w0, w, sd, S, d, e, r, rv, q⟩ := q
  subst e
  unfold fldT at q
  rcases hi : sd[i]? with _ | _ | d0 | ⟨ds | ⟨ks, ds⟩ | ⟨cc, ds⟩⟩
  · simp only [hi] at q; exact q.elim
  · simp only [hi] at q; exact q.elim
  · simp only [hi] at q; exact q.elim
  · simp only [hi] at q; exact q.elim
  · simp only [hi] at q; exact q.elim
  · simp only [hi] at q
    rcases ht : tbl cc with _ | j
    · simp only [ht] at q; exact q.elim
    · simp only [ht] at q
      obtain ⟨cl, na, nd, hj, hl⟩ := T.at_ cc j ht
      obtain ⟨a, ha, ⟨dx, vs, h1, h2, h3⟩, nF, nm, n0⟩ := r.ow i _ hi
      have hlen : ((G.fn cc).zip vs).length < 1000 := by
        rw [List.length_zip]; omega
      refine ⟨.ref a, ha, a, _, dx, _, rfl, h1, cl, na, hlen, ?_⟩
      have st := Stay.wr (w := w) (p := a) (o := .ins (G.ca cc) dx ((G.fn cc).zip (vs.set j v))) nF
      unfold putL at q
      by_cases c1 : j < ds.length
      · simp only [if_pos c1] at q
        rw [putF_zip nd hj (by rw [← h3.length]; exact c1)]
        have hn : RepO G (w.wr a (.ins (G.ca cc) dx ((G.fn cc).zip (vs.set j v)))) a (.ins cc (ds.set j d)) := ⟨dx, _, upd_same, by rw [List.length_set]; exact h2, RepVs.set j (RepVs.stay (Stay.wr nF) _ _ h3) (RepV.stay (Stay.wr nF) _ _ rv)⟩
        exact q _ σ (Stay.wr nF) (r.wr hi ha hn) fun _ _ => rfl
      · simp only [if_neg c1] at q
        by_cases c2 : j = ds.length
        · simp only [if_pos c2] at q
          subst c2
          rw [h3.length] at hj
          rw [putF_new nd hj]
          have hn : RepO G (w.wr a (.ins (G.ca cc) dx ((G.fn cc).zip (vs ++ [v])))) a (.ins cc (ds ++ [d])) := ⟨dx, _, upd_same, by
            rw [List.length_append]
            exact (List.getElem?_eq_some_iff.mp hj).1, RepVs.append (RepVs.stay (Stay.wr nF) _ _ h3) (RepVs.one (RepV.stay (Stay.wr nF) _ _ rv))⟩
          exact q _ σ (Stay.wr nF) (r.wr hi ha hn) fun _ _ => rfl
        · simp only [if_neg c2] at q; exact q.elim
structure CallT (X : Cx) (G : Sg) (k : Nat) (tbl : Nat → Option (List D → M D)) : Prop where
  at_ : ∀ c g, tbl c = some g → ∃ f, StX.CallO X.K (G.ca c) f ∧ FnX X G k f g
def isObj : D → Bool
  | .ins _ _ => true
  | .ref _ => true
  | _ => false
theorem isObj_ref {w : Wd} {d : D} {v : V} (h : isObj d = true) (r : RepV G w d v) : ∃ a, v = .ref a := by
  cases d <;> first | (cases h; done) | skip
  · obtain ⟨a, _, _, e, _⟩ := r; exact ⟨a, e⟩
  · obtain ⟨a, e, _⟩ := r; exact ⟨a, e⟩
def callD (tbl : Nat → Option (List D → M D)) (fa : M (List D)) (d : D) : M D := if isObj d = true then M.bind fa fun ds => M.bind (pick tbl d) fun g => g (d :: ds) else M.stuck
theorem v_callO {tbl : Nat → Option (List D → M D)} (c : Ctx G X W k) (T : CallT X G k tbl) (hf : PV G X W fe ff) (ha : PLn G X W n (e :: es) fa) (hs : (e :: es).all notStar = true)
    (ht : eval (.Call fe (e :: es) [] pos) X.env = (do callWith pos (← eval fe X.env) [] (backTo pos (starEach (e :: es) X.env)) (backToKw pos (keywordEach [] X.env)))) :
    PV G X W (.Call fe (e :: es) [] pos) (fun sd => M.bind (ff sd) (callD tbl (fa sd))) := by
  have hs2 : notStar e = true ∧ es.all notStar = true := by simpa using hs
  constructor
  intro pins s σ H Q I ⟨w0, w, sd, S, eH, r, q⟩
  refine Call_ (thn (hf.run pins s σ H (fun v H1 => ∃ a, v = V.ref a ∧ ∃ w1 S1 d, w1.H = H1 ∧ R G w0 w1 sd S1 σ ∧ RepV G w1 d v ∧ FinG G (RepV G) (fun c x H => W c x σ H) w1 Q (M.bind (fa sd) (fun ds => M.bind (pick tbl d) fun g => g (d :: ds)) S1)) I ?_) ?_) ht
  · refine ⟨w0, w, sd, S, eH, r, fin_step q fun w1 S1 d v e1 s1 rv q1 => ?_⟩
    unfold callD at q1
    obtain ⟨io, q1⟩ := FinG.ite q1
    obtain ⟨a, ev⟩ := isObj_ref io rv
    exact ⟨a, ev, w1, S1, d, rfl, r.step e1 s1, rv, q1⟩
  · rintro u s1 ⟨v, H1, I1, rv, a, rfl, w1, S1, d, rfl, r1, rd, q1⟩
    obtain rfl : u = Value.ref a := rv
    refine StX.callO_with (thn (ha.run pos pins s1 σ w1.H (fun vs H2 => ∃ c g dx fs, tbl c = some g ∧ H2 a = some (.ins (G.ca c) dx fs) ∧ spV G g (V.ref a :: vs) H2 Q (WE W σ)) I1 ?_) ?_) (starEach_cons hs2.1) (starEach_all hs2.2 pos)
    · refine ⟨w0, w1, sd, S1, rfl, r1, fin_step q1 fun w2 S2 ds xs e2 s2 rx q2 => ?_⟩
      have rd2 := RepV.mono e2 r1.st.dj _ _ rd
      obtain ⟨cc, g, tg, q3, _, b, dx, fs, eb, hb⟩ := pick_fin s2 rd2 q2
      cases eb
      exact ⟨cc, g, dx, _, tg, hb, w2, d :: ds, S2, rfl, s2, ⟨_, _, rfl, rd2, rx.1⟩, q3⟩
    · rintro us s2 ⟨xs, H2, I2, rx, cc, g, dx, fs, tg, hb, q2⟩
      obtain ⟨f, co, F⟩ := T.at_ cc g tg
      obtain ⟨ox, od, J, hd⟩ := StX.insC_at I2 (.inr ⟨dx, fs, hb⟩)
      refine ⟨⟨_, ox, od, J, hd⟩, wpAny_call (PySem.W.kco_code I2.kIn J hd co.at_ co.fn co.fi ?_)⟩
      have body := F.run X.A X.stack s2 H2 (.ref a :: us) (.ref a :: xs) Q (WE W σ) c.rm0 I2.env0 (.cons rfl rx) q2
      refine codeAny_mono body ?_
      rintro (er | fl) s' hq
      · exact c.px σ pins H2 s2 er s' I2 hq
      · cases fl with
        | ret u => exact I2.after hq
        | next => exact hq.elim
        | brk => exact hq.elim
        | cont => exact hq.elim
structure StatT (X : Cx) (C : Addr) (m : Str) (f : Addr) : Prop where
  ex : ∃ (mc : Value) (p : Addr) (rest : List Value), ClX.CRead X.K C mc ∧ PySem.W.findCls X.K (.ref C) mc m = some (.get (.builtin "staticmethod.__get__") (.ref p) .none (.ref C)) ∧ PySem.W.recIn X.K p "staticmethod" = some (.ref f :: rest)
theorem v_stat {y : Str} (T : StatT X C m f) (F : CallA G X W f sem) (hg : Gl X y) (hm : X.mg y = some (.ref C)) (ha : PLn G X W n (e :: es) fa) (hs : (e :: es).all notStar = true) (hd : (y == ("__debug__" : Str)) = false) (hl : (e :: es).length < 30) (hp : (apos.endLine == pos.line) = true) :
    PV G X W (.Call (.Attribute (.Name y p) m apos) (e :: es) [] pos) (fun sd => M.bind (fa sd) sem) := by
  have hs2 : notStar e = true ∧ es.all notStar = true := by simpa using hs
  obtain ⟨mc, q, rest, rd, hat, hrec⟩ := T.ex
  constructor
  intro pins s σ H Q I ⟨w0, w, sd, S, eH, r, qq⟩
  refine PySem.W.methodCall_KW (ld_glob I hg hm ?_ hd) (meth_tree (by rfl) hs hl hp)
  refine PySem.W.method_cls I.kIn rd.ga (PySem.W.cls_bind I.kIn rd.rd hat (wpAny_call (PySem.W.sm_get (s := { s with toks := s.toks + 1 }) I.kIn hrec (PySem.W.handed_on rfl ?_))))
  have I1 := I.tok (s.toks + 1)
  refine PySem.W.callWith_K (h₀ := X.base) I.ok.mod.kin F.kp (thn (ha.run pos pins _ σ H (fun vs H1 => spV G sem vs H1 Q (WE W σ)) I1 ?_) ?_) (starEach_cons hs2.1) (starEach_all hs2.2 pos)
  · exact ⟨w0, w, sd, S, eH, r, fin_step qq fun w1 S1 ds vs e1 s1 rv q1 => ⟨w1, ds, S1, rfl, s1, rv.1, q1⟩⟩
  · rintro us s1 ⟨vs, H1, I2, rv, q1⟩
    exact ⟨I2.kIn, F.run _ _ _ _ _ _ _ I2 rv q1⟩
structure BinT (X : Cx) (G : Sg) (k : Nat) (op : Operator) (tbl : Nat → Option (List D → M D)) : Prop where
  at_ : ∀ c g, tbl c = some g → ∃ f, PySem.W.selfFirst X.K (G.ca c) = true ∧ PySem.W.findIn X.K (.ref (G.ca c)) (PySem.dunder op.info.2) = some (some (.ref f)) ∧ PySem.W.isFn X.K (.ref f) = true ∧ FnX X G k f g
def ownBin (tbl : Nat → Option (List D → M D)) (d e : D) : M D := M.bind (pick tbl d) fun g => M.bind (clsOf d) fun c => M.bind (clsOf e) fun c' => if c = c' then g [d, e] else M.stuck
theorem clsOf_fin {α β : Type} {rep : Wd → α → β → Prop} {W' : Value → Option Addr → Hp → Prop} {w : Wd} {Q : β → Hp → Prop} {S : List Ob} {d : D} {kk : Nat → M α} {v : V} (s : RepS G w S) (rd : RepV G w d v) (h : FinG G rep W' w Q (M.bind (clsOf d) kk S)) :
    ∃ c, FinG G rep W' w Q (kk c S) ∧ clsOf d S = some (.ok c, S) ∧ ∃ a dx vs, v = .ref a ∧ w.H a = some (.ins (G.ca c) dx ((G.fn c).zip vs)) := by
  unfold M.bind at h
  rcases hc : clsOf d S with _ | ⟨y | c, S2⟩
  · rw [hc] at h; exact h.elim
  · exact absurd hc clsOf_noerr
  · obtain ⟨rfl, z⟩ := clsOf_rep s rd hc
    rw [hc] at h
    exact ⟨c, h, rfl, z⟩
theorem v_ownBin {op : Operator} {a b : Expr} {tbl : Nat → Option (List D → M D)} {f1 f2 : List SV → M D} (c : Ctx G X W k) (T : BinT X G k op tbl) (h1 : PV G X W a f1) (h2 : PV G X W b f2) : PV G X W (.BinOp a op b pos) (fun sd => M.bind (f1 sd) fun d => M.bind (f2 sd) (ownBin tbl d)) := by
  constructor
  intro pins s σ H Q I ⟨w0, w, sd, S, eH, r, q⟩
  refine wpAny_BinOp (binT h1 h2 (R := fun v v2 H2 => ∃ w2 S2 d d2, w2.H = H2 ∧ RepS G w2 S2 ∧ RepV G w2 d v ∧ RepV G w2 d2 v2 ∧ FinG G (RepV G) (fun c x H => W c x σ H) w2 Q (ownBin tbl d d2 S2)) I ?_ ?_)
  · refine ⟨w0, w, sd, S, eH, r, fin_step q fun w1 S1 d v e1 s1 rv q1 => ⟨w0, w1, sd, S1, rfl, r.step e1 s1, fin_step q1 fun w2 S2 d2 v2 e2 s2 rv2 q2 => ?_⟩⟩
    exact ⟨w2, S2, d, d2, rfl, s2, RepV.mono e2 s1.dj d v rv, rv2, q2⟩
  · rintro v u s2 y z H2 I2 rv ru ⟨w2, S2, d, d2, rfl, s2', rd, rd2, q2⟩
    unfold ownBin at q2
    obtain ⟨cc, g, tg, q3, hc1, a1, dx1, fs1, rfl, hb1⟩ := pick_fin s2' rd q2
    obtain ⟨c1, q4, hc2, a2, dx2, fs2, e2, hb2⟩ := clsOf_fin s2' rd q3
    cases e2
    obtain ⟨c2, q5, hc3, a3, dx3, fs3, rfl, hb3⟩ := clsOf_fin s2' rd2 q4
    obtain ⟨ec, q6⟩ := FinG.ite q5
    subst ec
    have e12 : c1 = cc := by
      rw [hc1] at hc2
      cases hc2
      rfl
    subst e12
    obtain ⟨f, sf, fi, isf, F⟩ := T.at_ c1 g tg
    cases (show v = Value.ref a1 from rv)
    cases (show u = Value.ref a3 from ru)
    obtain ⟨m1, O1, _⟩ := ins_get I2.hok hb1
    obtain ⟨od1, J1, _⟩ := O1.look
    obtain ⟨m3, O3, _⟩ := ins_get I2.hok hb3
    obtain ⟨od3, J3, _⟩ := O3.look
    obtain ⟨fr, hF⟩ := I2.fr
    refine PySem.W.binop_K hF I2.ok.mod.kin J1 J3.type sf fi isf (wpAny_mono (run_fa (us := [.ref a1, .ref a3]) (vs := [.ref a1, .ref a3]) c F I2 (.cons rfl (.cons rfl .nil)) ⟨w2, [d, d2], S2, rfl, s2', ⟨_, _, rfl, rd, _, _, rfl, rd2, rfl⟩, q6⟩) (fun u2 s3 got => ?_) fun _ _ z => z)
    obtain ⟨v2, H3, I3, rv2, q7⟩ := id got
    exact SlX.cmpback rv2 got
end
end Ev
set_option maxRecDepth 100000
set_option maxHeartbeats 2000000
namespace Ev
open PySem PySem.Spec PyProof.Rows L2
def stepLo (n : Nat) (c : Int) : Int := if c < 0 then (n : Int) - 1 else 0
def stepNo (n : Nat) (c : Int) : Nat := Builtin.Slice.slicePlaces (stepLo n c) (if c < 0 then -1 else (n : Int)) c
def stepL {α : Type} (c : Int) (xs : List α) : List α := (List.range (stepNo xs.length c)).filterMap fun (m : Nat) => xs[(stepLo xs.length c + (m : Int) * c).toNat]?
theorem step_adjust (n : Nat) (c : Int) : Builtin.Slice.sliceAdjust none none c (n : Int) = (stepLo n c, if c < 0 then -1 else (n : Int)) := by
  unfold Builtin.Slice.sliceAdjust stepLo
  by_cases h : c < 0
  · simp [h]
  · simp [h]
theorem vals_pick {xs : List V} {us : List Value} (r : Vals xs us) (ix : Nat → Nat) : ∀ l : List Nat, Vals (l.filterMap fun m => xs[ix m]?) (l.filterMap fun m => us[ix m]?)
  | [] => .nil
  | m :: l => by
    have ih := vals_pick r ix l
    rcases h : xs[ix m]? with _ | x
    · have hu : us[ix m]? = none := by
        rw [List.getElem?_eq_none_iff] at h ⊢
        rw [← r.length]
        exact h
      rw [List.filterMap_cons_none (by simpa using h), List.filterMap_cons_none (by simpa using hu)]
      exact ih
    · obtain ⟨u, hu, ru⟩ := r.get h
      rw [List.filterMap_cons_some (b := x) (by simpa using h), List.filterMap_cons_some (b := u) (by simpa using hu)]
      exact .cons ru ih
theorem reps_pick {G : Sg} {w : Wd} {ds : List D} {vs : List V} (r : RepVs G w ds vs) (ix : Nat → Nat) : ∀ l : List Nat, RepVs G w (l.filterMap fun m => ds[ix m]?) (l.filterMap fun m => vs[ix m]?)
  | [] => rfl
  | m :: l => by
    have ih := reps_pick r ix l
    rcases h : ds[ix m]? with _ | x
    · have hu : vs[ix m]? = none := by
        rw [List.getElem?_eq_none_iff] at h ⊢
        rw [← r.length]
        exact h
      rw [List.filterMap_cons_none (by simpa using h), List.filterMap_cons_none (by simpa using hu)]
      exact ih
    · obtain ⟨u, hu, ru⟩ := r.get h
      rw [List.filterMap_cons_some (b := x) (by simpa using h), List.filterMap_cons_some (b := u) (by simpa using hu)]
      exact ⟨u, _, rfl, ru, ih⟩
theorem stepNo_le (n : Nat) (c : Int) (h : c ≠ 0) : stepNo n c ≤ n := by
  unfold stepNo stepLo Builtin.Slice.slicePlaces
  by_cases h0 : c < 0
  · have h1 : ¬ c > 0 := by omega
    simp only [h0, h1, if_true, if_false]
    split
    · have e : ((n : Int) - 1 - -1 - 1) / -c ≤ (n : Int) - 1 - -1 - 1 := by
        refine Int.ediv_le_self _ ?_
        omega
      omega
    · simp
  · have h1 : c > 0 := by omega
    simp only [h0, h1, if_true, if_false]
    split
    · have e : ((n : Int) - 0 - 1) / c ≤ (n : Int) - 0 - 1 := by
        refine Int.ediv_le_self _ ?_
        omega
      omega
    · simp
theorem step_len {α : Type} (c : Int) (h : c ≠ 0) (xs : List α) : (stepL c xs).length ≤ xs.length := by
  unfold stepL
  refine Nat.le_trans (List.length_filterMap_le _ _) ?_
  rw [List.length_range]
  exact stepNo_le _ _ h
section
variable {prog : Program} {w : World} {A : Around} {E : Value → Shared → Prop} {s : Shared}
theorem applied_step {sl : Addr} {vs : Value} {c : Int} {n : Nat} {Q : Int × Int × Nat → Shared → Prop} (hs : s.heap.IsSliceOf sl .none .none vs) (pc : IsPart vs (some c)) (h0 : c ≠ 0) (h : Q (stepLo n c, c, stepNo n c) s) :
    wpAny (model prog w) A (Builtin.Slice.sliceApplied (.ref sl) (pure (n : Int))) Q E s := by
  obtain ⟨ob, hob, hcl, hfd⟩ := id hs
  unfold Builtin.Slice.sliceApplied Builtin.Slice.sliceFields
  refine wpAny_bind (wpAny_bind (wpAny_field hob hfd (x := .none) rfl (wpAny_bind (wpAny_field hob hfd (x := .none) rfl (wpAny_bind (wpAny_field hob hfd (x := vs) rfl (wpAny_pure ?_)))))))
  refine wpAny_bind (HT.slicePart_ pc ?_)
  show wpAny _ _ (if (c == 0) = true then _ else _) _ _ s
  rw [if_neg (by simpa using h0)]
  refine wpAny_bind (HT.slicePart_ .none (wpAny_bind (HT.slicePart_ .none (wpAny_bind (wpAny_pure ?_)))))
  show wpAny _ _ (match Builtin.Slice.sliceAdjust none none c (n : Int) with | (lo, hi) => pure (lo, c, Builtin.Slice.slicePlaces lo hi c)) _ _ s
  rw [step_adjust]
  exact wpAny_pure h
theorem get_tup_step {t sl : Addr} {items : Array Value} {vs : Value} {c : Int} {Q : Value → Shared → Prop} (ht : IsTup s.heap t items) (hs : s.heap.IsSliceOf sl .none .none vs) (pc : IsPart vs (some c)) (h0 : c ≠ 0) (h1 : c ≠ 1)
    (h : Q (.ref s.heap.objs.size) { s with heap := s.heap.push { cls := .type "tuple", data := .seq (stepL c items.toList).toArray } }) (hsz : items.size ≤ sizeLine) : wpAny (model prog w) A (getItem (.ref t) (.ref sl)) Q E s := by
  have fits : sizeOk (.seq (stepL c items.toList).toArray) := by
    show (stepL c items.toList).toArray.size ≤ sizeLine
    rw [List.size_toArray]
    exact Nat.le_trans (step_len c h0 items.toList) (by rw [Array.length_toList]; exact hsz)
  obtain ⟨ob, hob, hcl, hfd⟩ := id hs
  have hT : s.TypeIs (.ref sl) "slice" := ⟨ob, hob, hcl⟩
  unfold getItem
  try with_reducible refine wpAny_holding ?_
  first | refine wpAny_bind (wpAny_pure ?_) | skip
  refine wpAny_bind (wpAny_sequenceKey ht.typeIs (by decide) ?_)
  refine wpAny_bind (wpAny_callSpecial?_slot (name := Str.ofString "__getitem__") ht.typeIs PyProof.Rows.slot_tuple_getitem (wpAny_call_entry PyProof.Rows.slot_tuple_getitem ht.typeIs entry_tuple_getitem ?_ (args_tuple_getitem _ _)))
  show wpAny _ _ (Builtin.Tuple.tupleItemsOf (.ref t) >>= _) _ _ s
  refine wpAny_bind (tupleItemsOf_ ht (wpAny_bind (wpAny_typeOf hT ?_)))
  rw [if_pos (by decide)]
  refine wpAny_bind (applied_step hs pc h0 ?_)
  have part : ¬ ((stepLo items.size c == 0 && c == 1 && stepNo items.size c == items.size) = true) := by
    intro z
    rw [Bool.and_eq_true, Bool.and_eq_true] at z
    exact h1 (eq_of_beq z.1.2)
  show wpAny _ _ (if (stepLo items.size c == 0 && c == 1 && stepNo items.size c == items.size) = true then _ else _) _ _ s
  rw [if_neg part]
  have e : ((List.range (stepNo items.size c)).filterMap fun (k : Nat) => items[(stepLo items.size c + (k : Int) * c).toNat]?) = stepL c items.toList := by
    unfold stepL
    rw [Array.length_toList]
    congr 1
    funext k
    rw [Array.getElem?_toList]
  rw [e]
  first
    | exact wpAny_bind (m := Builtin.Tuple.tupleExact _) (wpAny_newObj_type (wpAny_pure ⟨_, rfl, wpAny_pure h⟩) fits)
    | exact wpAny_bind (m := Builtin.Tuple.tupleExact _) (wpAny_newObj_type (wpAny_bind (wpAny_pure (wpAny_pure ⟨_, rfl, wpAny_pure h⟩))) fits)
    | exact wpAny_bind (wpAny_bind (m := Builtin.Tuple.tupleExact _) (wpAny_newObj_type (wpAny_pure (wpAny_pure ⟨_, rfl, wpAny_pure h⟩)) fits))
    | exact wpAny_bind (wpAny_bind (m := Builtin.Tuple.tupleExact _) (wpAny_newObj_type (wpAny_pure ⟨_, rfl, wpAny_pure h⟩) fits))
end
section
variable {G : Sg} {X : Cx} {W : WX} {k n : Nat} {pos : Pos} {e o fe : Expr} {es : List Expr} {σ : L2.St}
def tStepT (K : PySem.W.Frag) (c : Int) (te : TE) : TE := fun σ H Q => te σ H fun x H1 => ∃ a xs, x = .ref a ∧ SqT K H1 a xs ∧ ∀ p, H1 p = none → Q (.ref p) (upd H1 p (.tup (stepL c xs)))
theorem stepL_eq {α : Type} (c : Int) (xs : List α) (n : Nat) (h : xs.length = n) : stepL c xs = (List.range (stepNo n c)).filterMap fun m => xs[(fun m : Nat => (stepLo n c + (m : Int) * c).toNat) m]? := by
  subst h
  rfl
theorem pe_stepT {te : TE} {st : Expr} {p3 : Pos} {c : Int} (he : PE X e te) (hst : PO X (some st) (fun _ H Q => Q (some c) H)) (h0 : c ≠ 0) (h1 : c ≠ 1) : PE X (.Subscript e (.Slice none none (some st) p3) pos) (tStepT X.K c te) := by
  refine ⟨fun pins s σ H Q I h => ?_⟩
  refine Subscript_ (thn (he.run pins s σ H _ I h) fun v s1 ⟨x, H1, I1, r1, a, xs, ex, hx, q⟩ => ?_)
  subst ex
  obtain rfl : v = Value.ref a := r1
  refine wpAny_Slice (thn (po_none.run pins s1 σ H1 (fun o H2 => o = none ∧ H2 = H1) I1 ⟨rfl, rfl⟩) fun vl s2 got => ?_)
  obtain ⟨l, H2, I2, pl, el, e2⟩ := got
  subst el e2
  refine thn (po_none.run pins s2 σ H2 (fun o H3 => o = none ∧ H3 = H2) I2 ⟨rfl, rfl⟩) fun vu s3 got => ?_
  obtain ⟨u, H3, I3, pu, eu, e3⟩ := got
  subst eu e3
  refine thn (hst.run pins s3 σ H3 (fun o H4 => o = some c ∧ H4 = H3) I3 ⟨rfl, rfl⟩) fun vs s4 got => ?_
  obtain ⟨oo, H4, I4, ps, eo, e4⟩ := got
  subst eo e4
  cases pl
  cases pu
  have J : Inv X pins σ H4 { s4 with heap := s4.heap.push { cls := .type "slice", data := .fields #[.none, .none, vs] } } := I4.kept (t' := s4.toks) fun b ob z => Heap.get?_push_of_some _ z
  obtain ⟨its, r, ht, hz⟩ := J.tuple hx
  show wpAny (model X.prog X.w) X.A (subscriptTail e (.Slice none none (some st) p3) (.ref a) (.ref s4.heap.objs.size)) (EP X pins σ Q) X.xe { s4 with heap := s4.heap.push { cls := .type "slice", data := .fields #[.none, .none, vs] } }
  refine tail_any (ops := [.ref a, .ref s4.heap.objs.size]) ht.typeIs PyProof.Rows.slot_tuple_getitem.lookup ?_ (by with_unfolding_all rfl)
  refine get_tup_step ht (Heap.IsSliceOf.new _ .none .none vs) ps h0 h1 ?_ (by rw [List.size_toArray, ← r.length]; exact hz)
  refine ⟨.ref _, _, J.laid (t' := s4.toks) (o := .tup (stepL c xs)) (fun b ob z => Heap.get?_push_of_some _ z) (Nat.le_refl _) ?_, rfl, q _ (J.hok.fresh (Nat.le_refl _))⟩
  refine ⟨Nat.le_trans (step_len c h0 xs) hz, stepL c its, ?_, IsTup.new _ _⟩
  rw [stepL_eq c xs xs.length rfl, stepL_eq c its xs.length r.length.symm]
  exact vals_pick r _ _
def dStep (c : Int) : D → M D
  | .tup ds => M.pure (.tup (stepL c ds))
  | _ => M.stuck
theorem v_stepT {f : List SV → M D} {st : Expr} {p3 : Pos} {c : Int} (cK : G.K = X.K) (he : PV G X W e f) (hst : PO X (some st) (fun _ H Q => Q (some c) H)) (h0 : c ≠ 0) (h1 : c ≠ 1) : PV G X W (.Subscript e (.Slice none none (some st) p3) pos) (fun sd => M.bind (f sd) (dStep c)) := by
  refine PE.imp (pe_stepT he hst h0 h1) fun σ H Q h => ?_
  obtain ⟨w0, w, sd, S, e, r, q⟩ := h
  refine ⟨w0, w, sd, S, e, r, fin_step q fun w1 S1 d v e1 s1 rv q1 => ?_⟩
  cases d with
  | tup ds =>
    obtain ⟨a, vs, ev, ha, rs⟩ := rv
    refine ⟨a, vs, ev, sqT_of cK ha, fun p hp => q1 (w1.frz p _) _ (Ext.frz hp) (s1.frz hp) ⟨p, _, rfl, .inl ⟨.inr rfl, .inl upd_same⟩, RepVs.mono (Ext.frz hp) s1.dj _ _ ?_⟩⟩
    rw [stepL_eq c ds ds.length rfl, stepL_eq c vs ds.length rs.length.symm]
    exact reps_pick rs _ _
  | _ => exact q1.elim
theorem po_neg1 {j : Nat} {p1 p2 : Pos} : PO X (some (.UnaryOp .USub (.Constant (.int 1) j p1) p2)) (fun _ H Q => Q (some (-1)) H) := by
  have z : PO X (some (.UnaryOp .USub (.Constant (.int 1) j p1) p2)) (tPart (tUn (rU fun i => .int (-i)) (tC (.int 1)))) := po_some (pe_un un_neg pe_int)
  exact ⟨fun pins s σ H Q I h => z.run pins s σ H Q I ⟨1, rfl, -1, rfl, h⟩⟩
theorem po_lit {c : Int} {j : Nat} {p1 : Pos} : PO X (some (.Constant (.int c) j p1)) (fun _ H Q => Q (some c) H) := by
  have z : PO X (some (.Constant (.int c) j p1)) (tPart (tC (.int c))) := po_some pe_int
  exact ⟨fun pins s σ H Q I h => z.run pins s σ H Q I ⟨c, rfl, h⟩⟩
end
end Ev
set_option maxRecDepth 100000
set_option maxHeartbeats 2000000
namespace Ev
open PySem PySem.Spec PyProof.Rows L2
def perm {α : Type} (ix : List Nat) (l : List α) : List α := ix.filterMap (l[·]?)
theorem vals_perm {xs : List V} {us : List Value} (r : Vals xs us) (ix : List Nat) : Vals (perm ix xs) (perm ix us) := vals_pick r id ix
theorem reps_perm {G : Sg} {w : Wd} {ds : List D} {vs : List V} (r : RepVs G w ds vs) (ix : List Nat) : RepVs G w (perm ix ds) (perm ix vs) := reps_pick r id ix
structure FnK (P : Program) (w : World) (K : PySem.W.Frag) (mg : Str → Option Value) (base : Heap) (G : Sg) (k : Nat) (f : Addr) (m : Nat) (ks : List Str) (sem : List D → M D) : Prop where
  run : ∀ (A : Around) (fr : List Env) (s : Shared) (H : Hp) (us ws : List Value) (vs zs : List V) (Q : VK) (E : XK),
    Rm k A → Env0 P w K mg base A fr s H → Vals vs us → Vals zs ws → vs.length = m → zs.length = ks.length → spV G sem (vs ++ zs) H Q E → codeAny (model P w) A (.call (.ref f) ⟨us, ks.zip ws⟩) (CR (L2.CX P w) fr P w H s Q E) s
  kp : PySem.W.keepIn K (.ref f) = true
abbrev FnKX (X : Cx) (G : Sg) (k : Nat) (f : Addr) (m : Nat) (ks : List Str) (sem : List D → M D) : Prop := FnK X.prog X.w X.K X.mg X.base G k f m ks sem
theorem FnK.mono {P : Program} {w : World} {K : PySem.W.Frag} {mg : Str → Option Value} {base : Heap} {G : Sg} {j k m : Nat} {ks : List Str} {f : Addr} {sem : List D → M D} (F : FnK P w K mg base G j f m ks sem) (h : j ≤ k) : FnK P w K mg base G k f m ks sem :=
  ⟨fun A fr s H us ws vs zs Q E hr => F.run A fr s H us ws vs zs Q E (hr.mono h), F.kp⟩
section
variable {P : Program} {w : World} {K : PySem.W.Frag} {mg : Str → Option Value} {base : Heap} {G : Sg} {k m c : Nat} {f : Addr} {x qual : Str} {st : Stmt} {fd : FuncData} {N ps ks : List Str} {ms : MS} {ix : List Nat}
def KwBinds (st : Stmt) (x qual : Str) (ps ks : List Str) (m : Nat) (ix : List Nat) : Prop := ∀ (kV doc pm : Value) (an : Option Addr) (cdv ct : Value) (us ws : List Value), us.length = m → ws.length = ks.length →
  bindArgs (PySem.W.fnOf x qual (defArgs st) (defBody st) (defScope st) .none kV doc pm an cdv ct) ⟨us, ks.zip ws⟩ = pure (ps.zip (perm ix (us ++ ws)))
theorem fnk_run (F : Fun K x qual st f fd) (SC : FnScope N ps (defScope st)) (hb : KwBinds st x qual ps ks m ix) (cK : G.K = K) (B : Body P w K mg base G k f N qual st ms)
    {A : Around} {fr : List Env} {s : Shared} {H : Hp} {us ws : List Value} {vs zs : List V} {Q : VK} {E : XK} (hr : Rm (k + 2) A) (e0 : Env0 P w K mg base A fr s H) (r : Vals vs us) (r2 : Vals zs ws) (l1 : vs.length = m) (l2 : zs.length = ks.length)
    (h : (perm ix (vs ++ zs)).length = ps.length ∧ spT G N ms (perm ix (vs ++ zs)) H Q E) : codeAny (model P w) A (.call (.ref f) ⟨us, ks.zip ws⟩) (CR (L2.CX P w) fr P w H s Q E) s := by
  obtain ⟨oc, od, kV, doc, pm, an, cdv, ct, osl, rfl, lk, hcd⟩ := F.ex
  have g := gn_of (sp := fun vs H Q E => vs.length = ps.length ∧ spT G N ms vs H Q E) (P := P) (w := w) (mg := mg) (base := base) (k := k + 1) lk hcd SC (fun _ _ _ _ z => z.1) (fun A fr s H vs Q E hr hsp => ⟨_, B cdv A fr s H E (ctxF cK SC hr), hsp.2⟩)
  exact g.run A fr s H ⟨us, ks.zip ws⟩ (perm ix (us ++ ws)) _ Q E hr e0 (.of_eq (hb _ _ _ _ _ _ us ws (r.length.symm.trans l1) (r2.length.symm.trans l2))) (vals_perm (r.append r2) ix) h
theorem fnk_rule (F : Fun K x qual st f fd) (SC : FnScope N ps (defScope st)) (hb : KwBinds st x qual ps ks m ix) (cK : G.K = K) (B : Body P w K mg base G k f N qual st ms) {a n : Nat} (ea : ps.length = a) (en : N.length = n) (hmn : a ≤ n) :
    FnK P w K mg base G (k + 2) f m ks (fun ds => runFn a n ms (perm ix ds)) := by
  refine ⟨fun A fr s H us ws vs zs Q E hr e0 r r2 l1 l2 ⟨wd, ds, S, eH, rs, rv, q⟩ => fnk_run F SC hb cK B hr e0 r r2 l1 l2 ?_, F.kp⟩
  have rp := reps_perm rv ix
  have q2 : FinG G (RepV G) E wd Q (runFn a n ms (perm ix ds) S) := q
  clear q
  unfold runFn at q2
  split at q2
  · next e =>
    subst ea en
    exact ⟨by rw [← rp.length]; exact e, fin_body eH rs rp (by omega) q2⟩
  · exact q2.elim
end
section
variable {G : Sg} {X : Cx} {W : WX} {k n m j : Nat} {f C : Addr} {sem : List D → M D} {x y mm : Str} {p pos apos kpos : Pos} {e o fe : Expr} {es : List Expr} {kws : List Keyword} {ks : List Str} {fa fk : List SV → M (List D)} {ff g : List SV → M D} {σ : L2.St}
abbrev PKn (G : Sg) (X : Cx) (W : WX) (n : Nat) (es : List Keyword) (f : List SV → M (List D)) : Prop := PK X es (teG G (repL G n) W f)
theorem PK.imp {e : List Keyword} {t t' : TA} (h : PK X e t) (i : ∀ σ H Q, t' σ H Q → t σ H Q) : PK X e t' := ⟨fun ps p s σ H Q I q => h.run ps p s σ H Q I (i σ H Q q)⟩
theorem k_nil : PKn G X W 0 [] (fun _ => M.pure []) := by
  refine PK.imp pk_nil fun σ H Q h => ?_
  obtain ⟨w0, w, sd, S, e, r, q⟩ := h
  subst e
  exact fin_pure q r.st ⟨rfl, rfl⟩
theorem k_cons {nm : Option Str} (he : PV G X W e g) (hr : PKn G X W n kws fk) : PKn G X W (n + 1) (⟨nm, e, kpos⟩ :: kws) (fun sd => M.bind (g sd) fun d => M.bind (fk sd) fun ds => M.pure (d :: ds)) := by
  refine PK.imp (pk_cons he hr) fun σ H Q h => ?_
  obtain ⟨w0, w, sd, S, e, r, q⟩ := h
  refine ⟨w0, w, sd, S, e, r, fin_step q fun w1 S1 d v e1 s1 rv q1 => ⟨w0, w1, sd, S1, rfl, r.step e1 s1, fin_step q1 fun w2 S2 ds vs e2 s2 rvs q2 => ?_⟩⟩
  exact fin_pure q2 s2 ⟨⟨v, vs, rfl, RepV.mono e2 s1.dj d v rv, rvs.1⟩, by rw [List.length_cons, rvs.2]⟩
def both (fa fk : List SV → M (List D)) : List SV → M (List D) := fun sd => M.bind (fa sd) fun ds => M.bind (fk sd) fun es => M.pure (ds ++ es)
structure CallK (G : Sg) (X : Cx) (W : WX) (a : Addr) (m : Nat) (ks : List Str) (sem : List D → M D) : Prop where
  kp : PySem.W.keepIn X.K (.ref a) = true
  run : ∀ (pins : List (Addr × Obj)) (σ : L2.St) (H : Hp) (s : Shared) (Q : VK) (us ws : List Value) (vs zs : List V), Inv X pins σ H s → Vals vs us → Vals zs ws → vs.length = m → zs.length = ks.length → spV G sem (vs ++ zs) H Q (WE W σ) →
    wpAny (model X.prog X.w) X.A (call (.ref a) us (ks.zip ws)) (EP X pins σ Q) X.xe s
theorem after_call {pins : List (Addr × Obj)} {H : Hp} {s : Shared} {Q : VK} {a : Args} (c : Ctx G X W k) (I : Inv X pins σ H s) (h : codeAny (model X.prog X.w) X.A (.call (.ref f) a) (CR (L2.CX X.prog X.w) X.stack X.prog X.w H s Q (WE W σ)) s) :
    wpAny (model X.prog X.w) X.A (call (.ref f) a.pos a.kw) (EP X pins σ Q) X.xe s := by
  refine wpAny_call (codeAny_mono h ?_)
  rintro (er | fl) s' hq
  · exact c.px σ pins H s er s' I hq
  · cases fl with
    | ret u => exact I.after hq
    | next => exact hq.elim
    | brk => exact hq.elim
    | cont => exact hq.elim
theorem FnK.call (c : Ctx G X W k) (F : FnKX X G k f m ks sem) : CallK G X W f m ks sem :=
  ⟨F.kp, fun pins σ H s Q us ws vs zs I r r2 l1 l2 h => after_call (a := ⟨us, ks.zip ws⟩) c I (F.run X.A X.stack s H us ws vs zs Q (WE W σ) c.rm0 I.env0 r r2 l1 l2 h)⟩
theorem kw_names {env : Env} : ∀ {kws : List Keyword} {pos : Pos}, (backToKw pos (keywordEach kws env)).all (·.1.isSome) = true → (backToKw pos (keywordEach kws env)).any (·.1.isNone) = false := fun {kws pos} h => by
  rw [List.any_eq_false]
  intro z hz
  have := List.all_eq_true.mp h z hz
  cases e : z.1 with
  | none => rw [e] at this; cases this
  | some _ => simp
theorem v_kw (F : CallK G X W f n ks sem) (hg : Gl X x) (hm : X.mg x = some (.ref f)) (ha : PLn G X W n (e :: es) fa) (hk : PKn G X W j kws fk) (hj : j = ks.length) (hs : (e :: es).all notStar = true) (hd : (x == ("__debug__" : Str)) = false)
    (hall : (backToKw pos (keywordEach kws X.env)).all (·.1.isSome) = true) (hks : (backToKw pos (keywordEach kws X.env)).filterMap (·.1) = ks) : PV G X W (.Call (.Name x p) (e :: es) kws pos) (fun sd => M.bind (both fa fk sd) sem) := by
  have hs2 : notStar e = true ∧ es.all notStar = true := by simpa using hs
  constructor
  intro pins s σ H Q I ⟨w0, w, sd, S, eH, r, q⟩
  have q : FinG G (RepV G) (fun c x H => W c x σ H) w Q (M.bind (M.bind (fa sd) fun ds => M.bind (fk sd) fun es => M.pure (ds ++ es)) sem S) := q
  rw [M.bind_assoc] at q
  refine wpAny_Call_Name_kw (ld_glob I hg hm ?_ hd)
  refine PySem.W.callWith_KW (h₀ := X.base) I.ok.mod.kin F.kp hall (thn (ha.run pos pins s σ H (fun vs H1 => vs.length = n ∧ ∃ w1 S1 ds, w1.H = H1 ∧ R G w0 w1 sd S1 σ ∧ RepVs G w1 ds vs ∧ FinG G (RepV G) (fun c x H => W c x σ H) w1 Q (M.bind (M.bind (fk sd) fun es => M.pure (ds ++ es)) sem S1)) I ?_) ?_)
    (by rw [starEach_all hs pos, kw_names hall]; rfl) (starEach_cons hs2.1)
  · exact ⟨w0, w, sd, S, eH, r, fin_step q fun w1 S1 ds vs e1 s1 rv q1 => ⟨rv.2, w1, S1, ds, rfl, r.step e1 s1, rv.1, q1⟩⟩
  · rintro us s1 ⟨vs, H1, I1, rv, lv, w1, S1, ds, rfl, r1, rd, q1⟩
    rw [M.bind_assoc] at q1
    refine thn (hk.run pos pins s1 σ w1.H (fun zs H2 => zs.length = ks.length ∧ spV G sem (vs ++ zs) H2 Q (WE W σ)) I1 ?_) ?_
    · exact ⟨w0, w1, sd, S1, rfl, r1, fin_step q1 fun w2 S2 es zs e2 s2 rz q2 => ⟨rz.2.trans hj, w2, ds ++ es, S2, rfl, s2, RepVs.append (RepVs.mono e2 r1.st.dj _ _ rd) rz.1, q2⟩⟩
    · rintro ws s2 ⟨zs, H2, I2, rz, lz, q2⟩
      refine ⟨I2.kIn, ?_⟩
      rw [hks]
      exact F.run pins σ H2 s2 Q us ws vs zs I2 rv rz lv lz q2
theorem v_kw0 (F : CallK G X W f 0 ks sem) (hg : Gl X x) (hm : X.mg x = some (.ref f)) (hk : PKn G X W j kws fk) (hj : j = ks.length) (hd : (x == ("__debug__" : Str)) = false)
    (hall : (backToKw pos (keywordEach kws X.env)).all (·.1.isSome) = true) (hks : (backToKw pos (keywordEach kws X.env)).filterMap (·.1) = ks) : PV G X W (.Call (.Name x p) [] kws pos) (fun sd => M.bind (fk sd) sem) := by
  constructor
  intro pins s σ H Q I ⟨w0, w, sd, S, eH, r, q⟩
  refine wpAny_Call_Name_kw (ld_glob I hg hm ?_ hd)
  refine PySem.W.callWith_KW0 (h₀ := X.base) I.ok.mod.kin F.kp hall (thn (hk.run pos pins s σ H (fun zs H2 => zs.length = ks.length ∧ spV G sem ([] ++ zs) H2 Q (WE W σ)) I ?_) ?_) (by rw [kw_names hall]; rfl)
  · exact ⟨w0, w, sd, S, eH, r, fin_step q fun w2 S2 es zs e2 s2 rz q2 => ⟨rz.2.trans hj, w2, es, S2, rfl, s2, rz.1, q2⟩⟩
  · rintro ws s2 ⟨zs, H2, I2, rz, lz, q2⟩
    refine ⟨I2.kIn, ?_⟩
    rw [hks]
    exact F.run pins σ H2 s2 Q [] ws [] zs I2 .nil rz rfl lz q2
theorem with_obj {M : Model} {A : Around} {E : Value → Shared → Prop} {s : Shared} {a : Addr} {pos : Pos} {Q : Value → Shared → Prop} {args : List (Bool × Sem Value)} {keys : List (Option Str × Sem Value)} (plain : (args.any (·.1) || keys.any (·.1.isNone)) = false)
    (h : wpAny M A (evalArgs (.ref a) true args keys) (fun z t => (∃ C ox od, PySem.W.InstAt t.heap a ox C od ∧ ox.data = .plain) ∧ wpAny M A (call (.ref a) z.pos z.kw) Q E t) E s) : wpAny M A (callWith pos (.ref a) [] args keys) Q E s := by
  unfold callWith
  refine wpAny_bind (wpAny_holding (wpAny_mono h ?_ fun _ _ y => y))
  rintro z t ⟨⟨C, ox, od, J, hd⟩, go⟩
  refine wpAny_bind (wpAny_standAt ?_)
  have kept := PySem.W.kco_keeper (M := M) J hd
  simp only [plain]
  refine wpAny_bind (kept.here ?_)
  exact wpAny_bind (wpAny_mono (wpAny_operateT go) (fun r t2 hr => wpAny_bind (wpAny_holding (wpAny_point (wpAny_pure hr)))) fun _ _ y => y)
structure CallKT (X : Cx) (G : Sg) (k : Nat) (ks : List Str) (tbl : Nat → Option (List D → M D)) : Prop where
  at_ : ∀ c g, tbl c = some g → ∃ f, StX.CallO X.K (G.ca c) f ∧ FnKX X G k f 1 ks g
theorem v_callOK {tbl : Nat → Option (List D → M D)} (c : Ctx G X W k) (T : CallKT X G k ks tbl) (hf : PV G X W fe ff) (hk : PKn G X W j kws fk) (hj : j = ks.length)
    (hall : (backToKw pos (keywordEach kws X.env)).all (·.1.isSome) = true) (hks : (backToKw pos (keywordEach kws X.env)).filterMap (·.1) = ks)
    (ht : eval (.Call fe [] kws pos) X.env = (do callWith pos (← eval fe X.env) [] (backTo pos (starEach [] X.env)) (backToKw pos (keywordEach kws X.env)))) :
    PV G X W (.Call fe [] kws pos) (fun sd => M.bind (ff sd) (callD tbl (fk sd))) := by
  constructor
  intro pins s σ H Q I ⟨w0, w, sd, S, eH, r, q⟩
  rw [ht]
  refine wpAny_bind (thn (hf.run pins s σ H (fun v H1 => ∃ a, v = V.ref a ∧ ∃ w1 S1 d, w1.H = H1 ∧ R G w0 w1 sd S1 σ ∧ RepV G w1 d v ∧ FinG G (RepV G) (fun c x H => W c x σ H) w1 Q (M.bind (fk sd) (fun ds => M.bind (pick tbl d) fun g => g (d :: ds)) S1)) I ?_) ?_)
  · refine ⟨w0, w, sd, S, eH, r, fin_step q fun w1 S1 d v e1 s1 rv q1 => ?_⟩
    unfold callD at q1
    obtain ⟨io, q1⟩ := FinG.ite q1
    obtain ⟨a, ev⟩ := isObj_ref io rv
    exact ⟨a, ev, w1, S1, d, rfl, r.step e1 s1, rv, q1⟩
  · rintro u s1 ⟨v, H1, I1, rv, a, rfl, w1, S1, d, rfl, r1, rd, q1⟩
    obtain rfl : u = Value.ref a := rv
    refine with_obj (by rw [kw_names hall]; rfl) (PyProof.Rows.evalArgs_kw2_nil hall (thn (hk.run pos pins s1 σ w1.H (fun zs H2 => zs.length = ks.length ∧ ∃ c g dx fs, tbl c = some g ∧ H2 a = some (.ins (G.ca c) dx fs) ∧ spV G g ([V.ref a] ++ zs) H2 Q (WE W σ)) I1 ?_) ?_))
    · refine ⟨w0, w1, sd, S1, rfl, r1, fin_step q1 fun w2 S2 ds xs e2 s2 rx q2 => ?_⟩
      have rd2 := RepV.mono e2 r1.st.dj _ _ rd
      obtain ⟨cc, g, tg, q3, _, b, dx, fs, eb, hb⟩ := pick_fin s2 rd2 q2
      cases eb
      exact ⟨rx.2.trans hj, cc, g, dx, _, tg, hb, w2, d :: ds, S2, rfl, s2, ⟨_, _, rfl, rd2, rx.1⟩, q3⟩
    · rintro ws s2 ⟨zs, H2, I2, rz, lz, cc, g, dx, fs, tg, hb, q2⟩
      obtain ⟨f, co, F⟩ := T.at_ cc g tg
      obtain ⟨ox, od, J, hd⟩ := StX.insC_at I2 (.inr ⟨dx, fs, hb⟩)
      rw [hks]
      refine ⟨⟨_, ox, od, J, hd⟩, wpAny_call (PySem.W.kco_code I2.kIn J hd co.at_ co.fn co.fi ?_)⟩
      have body := F.run X.A X.stack s2 H2 [.ref a] ws [.ref a] zs Q (WE W σ) c.rm0 I2.env0 (.cons rfl .nil) rz rfl lz q2
      refine codeAny_mono body ?_
      rintro (er | fl) s' hq
      · exact c.px σ pins H2 s2 er s' I2 hq
      · cases fl with
        | ret u => exact I2.after hq
        | next => exact hq.elim
        | brk => exact hq.elim
        | cont => exact hq.elim
end
end Ev
set_option maxRecDepth 100000
set_option maxHeartbeats 2000000
namespace Ev
open PySem PySem.Spec PyProof.Rows L2
def GlobD (mg : Str → Option Value) (G : Sg) (x : Str) (d : D) : Prop := ∃ u v, mg x = some u ∧ RelV v u ∧ ∀ w : Wd, RepV G w d v
section
variable {G : Sg} {X : Cx} {W : WX} {k : Nat} {x : Str} {p : Pos} {d : D}
theorem v_glob (hg : Gl X x) (h : GlobD X.mg G x d) (hd : (x == ("__debug__" : Str)) = false) : PV G X W (.Name x p) (fun _ => M.pure d) := by
  obtain ⟨u, v, hm, r, rv⟩ := h
  exact v_lit (pe_glob hg hm r hd) fun w S _ => rv w
theorem v_ty {t : TyN} (hg : Gl X x) (hm : X.mg x = none) (hv : bootBuiltins x = some (.type t.name)) (hn : x ≠ "__name__") (hd : (x == ("__debug__" : Str)) = false) : PV G X W (.Name x p) (fun _ => M.pure (.ty t)) :=
  v_lit (v := .ty t.name) (pe_bltn hg hm hv rfl hn hd) fun w S _ => rfl
theorem v_int {i : Int} {j : Nat} : PV G X W (.Constant (.int i) j p) (fun _ => M.pure (.int i)) := v_lit pe_int fun _ _ _ => rfl
theorem v_str {s : Str} {j : Nat} : PV G X W (.Constant (.str s) j p) (fun _ => M.pure (.str s)) := v_lit pe_str fun _ _ _ => rfl
theorem v_bool {b : Bool} {j : Nat} : PV G X W (.Constant (.bool b) j p) (fun _ => M.pure (.bl b)) := v_lit pe_bl fun _ _ _ => rfl
theorem v_none {j : Nat} : PV G X W (.Constant .none j p) (fun _ => M.pure .non) := v_lit pe_non fun _ _ _ => rfl
theorem b_of {e : Expr} {f : List SV → M Bool} (h : PBW G X W e f) : PB G X W e f := PW.pt h
end
theorem glob_int {mg : Str → Option Value} {G : Sg} {x : Str} {i : Int} {t : Tok} (h : mg x = some (.int i t)) : GlobD mg G x (.int i) := ⟨_, .int i, h, ⟨t, rfl⟩, fun _ => rfl⟩
theorem glob_str {mg : Str → Option Value} {G : Sg} {x s : Str} {t : Tok} (h : mg x = some (.str s t)) : GlobD mg G x (.str s) := ⟨_, .str s, h, ⟨t, rfl⟩, fun _ => rfl⟩
theorem glob_cls {mg : Str → Option Value} {G : Sg} {x : Str} {c : Nat} (h : mg x = some (.ref (G.ca c))) : GlobD mg G x (.cls c) := ⟨_, .ref (G.ca c), h, rfl, fun _ => rfl⟩
theorem glob_tup {mg : Str → Option Value} {G : Sg} {x : Str} {a : Addr} {ds : List D} {vs : List V} (h : mg x = some (.ref a)) (hk : KTup G.K a vs) (hr : ∀ w : Wd, RepVs G w ds vs) : GlobD mg G x (.tup ds) := ⟨_, .ref a, h, rfl, fun w => ⟨a, vs, rfl, .inr hk, hr w⟩⟩
def tab {α : Type} : List (Nat × α) → Nat → Option α
  | [], _ => none
  | (c, x) :: l, n => if n = c then some x else tab l n
theorem tab_nil {α : Type} {P : Nat → α → Prop} : ∀ c g, tab ([] : List (Nat × α)) c = some g → P c g := fun _ _ h => nomatch h
theorem tab_cons {α : Type} {P : Nat → α → Prop} {c0 : Nat} {x : α} {l : List (Nat × α)} (h0 : P c0 x) (h : ∀ c g, tab l c = some g → P c g) : ∀ c g, tab ((c0, x) :: l) c = some g → P c g := fun c g e => by
  unfold tab at e
  split at e
  · next q => subst q; cases e; exact h0
  · exact h c g e
end Ev
namespace Ev
open PySem PySem.Spec PyProof.Rows L2
def AtOk (X : Cx) (G : Sg) (k : Nat) (m : Str) (c : Nat) : At → Prop
  | .fld i => Cls X.K (G.ca c) ∧ NoAttr X.K (G.ca c) m ∧ (G.fn c).Nodup ∧ (G.fn c)[i]? = some m
  | .prop g => ∃ p f, Cls X.K (G.ca c) ∧ PropOf X.K (G.ca c) m p f ∧ FnX X G k f g
theorem AttrT.of {X : Cx} {G : Sg} {k : Nat} {m : Str} {tbl : Nat → Option At} (h : ∀ c x, tbl c = some x → AtOk X G k m c x) : AttrT X G k m tbl := ⟨fun c i e => h c _ e, fun c g e => h c _ e⟩
end Ev
set_option maxRecDepth 100000
set_option maxHeartbeats 2000000
namespace Ev
open PySem PySem.Spec PyProof.Rows L2
theorem enum_new1 {v : Value} {o : Obj} {Hh : Heap → Prop} (B : Begins v o Hh) :
    Meets (Builtin.«enumerate.__new__» ⟨[.type "enumerate", v], []⟩) (fun _ R s => Hh s.heap ∧
      R (.ok (.ret (.ref (s.heap.push o).objs.size))) { s with heap := (s.heap.push o).push { cls := .type "enumerate", data := .fields #[.none, .bool false, .ref s.heap.objs.size, rawInt 0, .none, .none] } }) :=
  .of_wp fun prog w A R s h => by
    obtain ⟨hp, g, d, tk, os⟩ := s
    obtain ⟨h1, h⟩ := h
    have below := sub_enumerate
    have begin_ : ∀ {A' : Around} {E : Value → Shared → Prop} {Q : Value → Shared → Prop}, Q (.ref hp.objs.size) ⟨hp.push o, g, d, tk, os⟩ → wpAny (model prog w) A' (pyIter v) Q E ⟨hp, g, d, tk, os⟩ :=
      fun q => B.iter prog w _ _ ⟨hp, g, d, tk, os⟩ _ h1 q
    wp_walk using begin_
    refine wpAny_stack_any fun st => wpAny_pure ?_
    split
    · rename_i c _ _ _ _ _
      cases (c == Value.type "enumerate")
      all_goals
        wp_walk using begin_
        exact ⟨_, rfl, h⟩
    · wp_walk using begin_
      exact ⟨_, rfl, h⟩
section
variable {prog : Program} {w : World} {A : Around} {E : Value → Shared → Prop} {s : Shared}
theorem call_enum1 {v : Value} {o : Obj} {Hh : Heap → Prop} {Q : Value → Shared → Prop} (B : Begins v o Hh) (h1 : Hh s.heap)
    (h : ∀ h', IsEnum h' (s.heap.objs.size + 1) s.heap.objs.size 0 .none → h'.get? s.heap.objs.size = some o → (∀ b u, s.heap.get? b = some u → h'.get? b = some u) → Q (.ref (s.heap.objs.size + 1)) { s with heap := h' }) :
    wpAny (model prog w) A (call (.type "enumerate") [v]) Q E s := by
  have size1 : (s.heap.push o).objs.size = s.heap.objs.size + 1 := Heap.size_push ..
  refine callType_new F.called_enumerate (by decide) (F.typeCall_enumerate_1 _) (F.newCall_enumerate_1 _) (fun obj => F.args_object_init_2 obj _) F.entry_enumerate_new (enum_new1 B) ⟨h1, ?_⟩
  show _ ∧ _
  rw [size1]
  have made : IsEnum ((s.heap.push o).push { cls := .type "enumerate", data := .fields #[.none, .bool false, .ref s.heap.objs.size, rawInt 0, .none, .none] }) (s.heap.objs.size + 1) s.heap.objs.size 0 .none := by
    have z := Heap.get?_push_size (s.heap.push o) (o := { cls := .type "enumerate", data := .fields #[.none, .bool false, .ref s.heap.objs.size, rawInt 0, .none, .none] }) rfl
    rw [size1] at z
    exact z
  exact ⟨⟨_, made, rfl⟩, h _ made (Heap.get?_push_of_some _ (Heap.get?_push_size _ B.free)) fun b u x => Heap.get?_push_of_some _ (Heap.get?_push_of_some _ x)⟩
end
theorem apart_it {h : Heap} {a it : Addr} {items : Array Value} {i : Nat} (p : IsTup h a items) (q : h.IsTupleIter it a i) : a ≠ it := by
  rintro rfl
  obtain ⟨o1, h1, c1, _⟩ := p
  obtain ⟨o2, h2, c2, _⟩ := q
  rw [h1] at h2
  cases h2
  rw [c1] at c2
  exact absurd (Value.type.inj c2) (by decide)
theorem enum_done {prog : Program} {w : World} {A : Around} {E : Value → Shared → Prop} {s : Shared} {e it a : Addr} {i : Nat} {n : Int} {old : Value} {items : Array Value} {Q : Option Value → Shared → Prop} (hh : A.handled = none) (he : IsEnum s.heap e it n old) (hit : s.heap.IsTupleIter it a i)
    (ht : s.heap.IsTuple a items) (hi : items.size ≤ i) (hQ : ∀ h', Heap.ExtBut it s.heap h' → Q none { s with heap := h' }) : wpAny (model prog w) A (pyNext (.ref e)) Q E s := by
  have kind : s.TypeIs (.ref e) "enumerate" := ⟨_, he, rfl⟩
  unfold pyNext
  refine wpAny_bind (wpAny_attempt (wpAny_callSpecial?_slot (name := Str.ofString "__next__") kind F.slot_enumerate_next (wpAny_call_entry F.slot_enumerate_next kind F.entry_enumerate_next ?_ (F.args_enumerate_next_1 _))))
  show wpAny _ _ (field (.ref e) 2 >>= _) _ _ _
  refine wpAny_bind (wpAny_field he rfl (x := .ref it) rfl (wpAny_bind ?_))
  refine wpAny_nextOf_tuple_end (A := A.in1) hh hit ht (Array.getElem?_eq_none hi) fun h' x ext stop => ?_
  obtain ⟨ob, ho, hc⟩ := stop
  exact wpAny_bind (wpAny_isInstance (T := "StopIteration") (b := true) ⟨ob, ho, hc⟩ isSubtype_stop (wpAny_pure (hQ _ ext)))
def ItE (K : PySem.W.Frag) (a : Addr) : It :=
  ⟨fun i H => ∃ (xs : List V) (x : V), SqT K H a xs ∧ xs[i]? = some x, fun i H v H' => ∃ T x, v = .ref T ∧ H T = none ∧ H' = upd H T (.tup [.int (i : Nat), x]) ∧ ∀ xs, SqT K H a xs → xs[i]? = some x, fun i H => ∃ xs : List V, SqT K H a xs ∧ xs.length ≤ i⟩
theorem turn_enumT {P : Program} {w : World} {K : PySem.W.Frag} {elts : List Expr} {kk : Nat} {tpos : Pos} (a e it : Addr) :
    Turn P w K (.Tuple elts kk tpos) (ItE K a) [e, it] e (fun i h => (∃ old, IsEnum h e it ((i : Nat) : Int) old) ∧ h.IsTupleIter it a i ∧ e ≠ it) where
  mem := by simp
  obj := fun i h st b hb => by
    obtain ⟨⟨old, he⟩, ⟨o, ho, hc, hd⟩, _⟩ := st
    rcases (show b = e ∨ b = it by simpa using hb) with rfl | rfl
    · exact ⟨_, he, fun v q => nomatch q⟩
    · exact ⟨o, ho, fun v q => by rw [hd] at q; cases q⟩
  keep := fun i h h' st k => let ⟨⟨old, he⟩, hi, hne⟩ := st; ⟨⟨old, k e (by simp) _ he⟩, hi.at fun o q => k it (by simp) o q, hne⟩
  item := by
    intro X hP hw hK hc i pins s σ H E I hf st hg
    subst hP hw hK
    obtain ⟨⟨old, he⟩, hit, hne⟩ := st
    obtain ⟨xs, x, hq, hx⟩ := hg
    obtain ⟨its, rv, p, hz⟩ := I.tuple hq
    obtain ⟨u, hu, ru⟩ := rv.get hx
    have elt_ : e < s.heap.objs.size := Heap.lt_size he
    have ilt : it < s.heap.objs.size := by obtain ⟨_, q, _⟩ := hit; exact Heap.lt_size q
    have apart : a ≠ it := apart_it p hit
    have D := Draws.tuple (prog := X.prog) (w := X.w) (A := X.A.in1) (I.ok.hd hc) it a apart its.toArray
    have ea : e ∉ ([it, a] : List Addr) := by
      intro z
      rcases (show e = it ∨ e = a by simpa using z) with z | z
      · exact hne z
      · subst z
        obtain ⟨o1, h1, c1, _⟩ := p
        have h2 := he
        unfold IsEnum at h2
        rw [h1] at h2
        cases h2
        exact absurd (Value.type.inj c1) (by decide)
    have small : i < its.toArray.size := by
      rw [List.size_toArray, ← rv.length]
      exact (List.getElem?_eq_some_iff.mp hx).1
    refine wpAny_pyNext_enum_itemD D he ⟨hit, p⟩ small hne ea fun y h' tk hy ho st' hT hsz hk => ?_
    have ey : y = u := by
      have hy2 : its.toArray[i]? = some y := hy
      have hu2 : its.toArray[i]? = some u := by simpa using hu
      rw [hu2] at hy2
      exact (Option.some.inj hy2).symm
    subst ey
    refine ⟨_, rfl, wpAny_letOwnedTupleGo_enum (s := { s with heap := h', toks := tk + 1 }) ho fun h'' he' sb => ?_⟩
    have hT2 : h''.get? s.heap.objs.size = some { cls := .type "tuple", data := .seq #[.int i tk, y] } := (sb.2 _ (Nat.ne_of_gt elt_)).trans hT
    have new : ObjOk X.prog X.w (upd H s.heap.objs.size (.tup [.int (i : Nat), x])) h'' s.heap.objs.size (.tup [.int (i : Nat), x]) :=
      ⟨by show 2 ≤ sizeLine; decide, [.int i tk, y], .cons ⟨_, rfl⟩ (.cons ru .nil), ⟨_, hT2, rfl, _, rfl⟩⟩
    have I1 : Inv X pins σ (upd H s.heap.objs.size (.tup [.int (i : Nat), x])) { s with heap := h'', toks := tk + 1 } :=
      I.turnedNew (ch := [e, it]) (fun b ob hb q => (sb.2 b (fun z => hb (by simp [z]))).trans (hk b ob (fun z => hb (by simp [z])) (fun z => hb (by simp [z])) q)) hf (Nat.le_refl _) new
    refine ⟨.ref s.heap.objs.size, _, I1, rfl, ⟨_, x, rfl, I.hok.fresh (Nat.le_refl _), rfl, fun ys hy => by rw [I.tuple_inj hy hq]; exact hx⟩, ⟨⟨y, ?_⟩, st'.1.at fun o q => (sb.2 it (Ne.symm hne)).trans q, hne⟩, fun b hb => ?_⟩
    · have cast : ((i + 1 : Nat) : Int) = (i : Int) + 1 := by omega
      rw [cast]
      exact he'
    · have below : b < s.heap.objs.size := by
        rcases (show b = e ∨ b = it by simpa using hb) with rfl | rfl
        · exact elt_
        · exact ilt
      rw [upd_ne (Nat.ne_of_lt below)]
      exact (hf b hb).1
  done := by
    intro X hP hw hK hc i pins s σ H E I hf st hg
    subst hP hw hK
    obtain ⟨⟨old, he⟩, hit, hne⟩ := st
    obtain ⟨xs, hq, hx⟩ := hg
    obtain ⟨its, rv, p, hz⟩ := I.tuple hq
    obtain ⟨f0, f1, f2, f3, f4, f5⟩ := hf it (by simp)
    have hl := rv.length
    exact enum_done (I.ok.hd hc) he hit p (by rw [List.size_toArray]; omega) fun h' eb => ⟨rfl, I.turned (t' := s.toks) (fun b o hb q => eb b o hb q) f0 f1 f3 f4 f5⟩
  self := fun A i s Q E st h => let ⟨⟨_, he⟩, _⟩ := st; wpAny_pyIter_enum he h
section
variable {G : Sg} {X : Cx} {W : WX} {k : Nat} {w : Wd}
theorem pi_enumT {e : Expr} {te : TE} {p pos tpos : Pos} {elts : List Expr} {kk : Nat} (hg : Gl X "enumerate") (hm : X.mg "enumerate" = none) (he : PE X e te) (hs : notStar e = true) :
    PI X (.Tuple elts kk tpos) (.Call (.Name "enumerate" p) [e] [] pos) (fun σ H R => te σ H fun v H1 => ∃ a xs, v = .ref a ∧ SqT X.K H1 a xs ∧ R (ItE X.K a) H1) := by
  have ha := pa_cons he pa_nil (starEach_cons hs)
  refine ⟨fun pins s σ H R I h => ?_⟩
  refine Call_ (ld_blt I hg hm boot_enumerate (PyProof.Rows.callWith_type1 (thn (ha.run pos pins s σ H (fun vs H1 => match vs with | [v] => ∃ a xs, v = .ref a ∧ SqT X.K H1 a xs ∧ R (ItE X.K a) H1 | _ => False) I ?_) fun us s1 got => ?_) (starEach_cons hs) rfl))
  · exact h
  · obtain ⟨vs, H1, I1, r1, got⟩ := got
    rcases vs with _ | ⟨v, _ | ⟨v2, vs⟩⟩
    · exact got.elim
    rotate_left
    · exact got.elim
    obtain ⟨a, xs, rfl, hq, q⟩ := got
    obtain ⟨u, rfl, ru⟩ := r1.one
    cases (show u = Value.ref a from ru)
    obtain ⟨its, rv, tp, hz⟩ := I1.tuple hq
    refine call_enum1 (begins_tuple a its.toArray) tp fun h' he' hit keep => wpAny_pyIter_enum he' ?_
    have I2 : Inv X pins σ H1 { s1 with heap := h' } := I1.kept (t' := s1.toks) keep
    have ti : h'.IsTupleIter s1.heap.objs.size a 0 := ⟨_, hit, rfl, rfl⟩
    refine ⟨s1.heap.objs.size + 1, [s1.heap.objs.size + 1, s1.heap.objs.size], _, _, H1, rfl, I2, turn_enumT a (s1.heap.objs.size + 1) s1.heap.objs.size, ⟨⟨.none, he'⟩, ti, Nat.succ_ne_self _⟩, fun b hb => ?_, q⟩
    have above : s1.heap.objs.size ≤ b := by
      rcases (show b = s1.heap.objs.size + 1 ∨ b = s1.heap.objs.size by simpa using hb) with z | z
      · rw [z]; exact Nat.le_add_right _ _
      · rw [z]; exact Nat.le_refl _
    exact I1.fpOk above (I1.hok.fresh above)
def numbered : Nat → List D → List D
  | _, [] => []
  | n, d :: ds => .tup [.int n, d] :: numbered (n + 1) ds
theorem numbered_len : ∀ (n : Nat) (ds : List D), (numbered n ds).length = ds.length
  | _, [] => rfl
  | n, d :: ds => by rw [numbered, List.length_cons, List.length_cons, numbered_len (n + 1) ds]
theorem numbered_get : ∀ (n i : Nat) (ds : List D) (z : D), (numbered n ds)[i]? = some z → ∃ d, ds[i]? = some d ∧ z = .tup [.int ((n + i : Nat) : Int), d]
  | _, _, [], _, h => by simp [numbered] at h
  | n, 0, d :: ds, z, h => by
    simp [numbered] at h
    exact ⟨d, rfl, h.symm⟩
  | n, i + 1, d :: ds, z, h => by
    obtain ⟨d', h1, h2⟩ := numbered_get (n + 1) i ds z (by simpa [numbered] using h)
    exact ⟨d', by simpa using h1, by rw [h2]; congr 4; omega⟩
def enumD : D → M (List D)
  | .tup ds => M.pure (numbered 0 ds)
  | _ => M.stuck
theorem yld_enum (cK : G.K = X.K) {ds : List D} {vs : List V} {a : Addr} (h : RdF w a (.tup vs) ∨ KTup G.K a vs) (r : RepVs G w ds vs) : Yld G w (numbered 0 ds) (ItE X.K a) := by
  have sq : ∀ w', Stay w w' → SqT X.K w'.H a vs := fun w' s => sqT_of cK (h.imp (fun z => z.stay s) id)
  refine ⟨fun w' i s hi => ⟨vs, sq w' s, by rw [← r.length, ← numbered_len 0]; exact hi⟩, fun w' i s hi => ?_, fun w' i d x H' S s st hd hy => ?_⟩
  · obtain ⟨v, e⟩ := r.get_len (by rw [← numbered_len 0]; exact hi)
    exact ⟨vs, v, sq w' s, e⟩
  · obtain ⟨T, y, rfl, free, rfl, hx⟩ := hy
    obtain ⟨d', h1, rfl⟩ := numbered_get 0 i ds d hd
    obtain ⟨v, ev, rv⟩ := r.get h1
    have z := hx vs (sq w' s)
    rw [ev] at z
    cases z
    refine ⟨w'.frz T (.tup [.int (i : Nat), y]), rfl, Ext.frz free, st.frz free, T, _, rfl, .inl ⟨.inr rfl, .inl upd_same⟩, _, _, rfl, by rw [Nat.zero_add]; rfl, _, _, rfl, ?_, rfl⟩
    exact RepV.stay (s.trans ((Ext.frz free).stay st.dj)) _ _ rv
theorem i_enum {e : Expr} {f : List SV → M D} {p pos tpos : Pos} {elts : List Expr} {kk : Nat} (c : Ctx G X W k) (hg : Gl X "enumerate") (hm : X.mg "enumerate" = none) (he : PV G X W e f) (hs : notStar e = true) :
    PIV G X W (.Tuple elts kk tpos) (.Call (.Name "enumerate" p) [e] [] pos) (fun sd => M.bind (f sd) enumD) := by
  refine PI.imp (pi_enumT hg hm he hs) fun σ H Q q => ?_
  obtain ⟨w0, w, sd, S, e, r, q⟩ := q
  refine ⟨w0, w, sd, S, e, r, fin_step q fun w1 S1 d v e1 s1 rv q1 => ?_⟩
  cases d with
  | tup ds =>
    obtain ⟨a, vs, ev, ha, rs⟩ := rv
    exact ⟨a, vs, ev, sqT_of c.cK ha, q1 w1 _ (Ext.refl _) s1 (yld_enum c.cK ha rs)⟩
  | _ => exact q1.elim
def charsOf : D → M (List D)
  | .str x => M.pure (x.cps.toList.map fun c => .str ⟨#[c]⟩)
  | _ => M.stuck
theorem yld_str {x : Str} : Yld G w (x.cps.toList.map fun c => D.str ⟨#[c]⟩) (Its x) := by
  have hl : (x.cps.toList.map fun c => D.str ⟨#[c]⟩).length = x.cps.size := by simp
  refine ⟨fun w' i s hi => by rw [hl] at hi; exact hi, fun w' i s hi => by rw [hl] at hi; exact hi, fun w' i d y H' S s st hd hy => ?_⟩
  obtain ⟨e, c, hc, rfl⟩ := hy
  refine ⟨w', e.symm, Ext.refl _, st, ?_⟩
  rw [List.getElem?_map, Array.getElem?_toList, hc] at hd
  cases hd
  rfl
theorem i_str {tg e : Expr} {f : List SV → M D} (he : PV G X W e f) : PIV G X W tg e (fun sd => M.bind (f sd) charsOf) := by
  refine PI.imp (pi_str he) fun σ H Q q => ?_
  obtain ⟨w0, w, sd, S, e, r, q⟩ := q
  refine ⟨w0, w, sd, S, e, r, fin_step q fun w1 S1 d v e1 s1 rv q1 => ?_⟩
  cases d with
  | str x => exact ⟨x, rv, q1 w1 _ (Ext.refl _) s1 yld_str⟩
  | _ => exact q1.elim
variable {s : Shared} {H : Hp} {scope : Scope} {env : Env} {fp : List Addr}
theorem blkV {e : Expr} {f : List SV → M D} (c : Ctx G X W k) (h : Ctx G (X.blk s H scope env fp) NoW k → PV G (X.blk s H scope env fp) NoW e f) : PV G (X.blk s H scope env fp) NoW e f := h (c.blk s H scope env fp)
theorem blkT {e : List Expr} {f : List SV → M Bool} (c : Ctx G X W k) (h : Ctx G (X.blk s H scope env fp) NoW k → PTsV G (X.blk s H scope env fp) NoW e f) : PTsV G (X.blk s H scope env fp) NoW e f := h (c.blk s H scope env fp)
theorem blkP {e : Expr} {ts : List Nat} {f : TgP} (c : Ctx G X W k) (h : Ctx G (X.blk s H scope env fp) NoW k → PGP G (X.blk s H scope env fp) ts e f) : PGP G (X.blk s H scope env fp) ts e f := h (c.blk s H scope env fp)
end
end Ev
set_option maxRecDepth 100000
set_option maxHeartbeats 2000000
namespace Ev
open PySem PySem.Spec PyProof.Rows L2
section
variable {P : Program} {w : World} {K : PySem.W.Frag} {mg mb : Str → Option Value} {G : Sg} {k : Nat} {fa a : Addr} {sem : List D → M D} {s₁ : Shared} {vs : List Value} {ns : List Int}
theorem end_core (H : Hp) (KX : K.In s₁.heap) (hns : s₁.heap.Ns mainGlobals mg) (hb : s₁.heap.Ns builtinsNs mb) (hbb : ∀ x : Str, x ≠ "__name__" → mb x = bootBuiltins x) (hlim : s₁.heap.NoLimit) (hg : s₁.gens = #[])
    (ha : s₁.heap.get? a = some { cls := .type "list", data := .seq vs.toArray }) (hr : Room k callerA) (cK : G.K = K)
    (F : ∀ base : Heap, K.In base → base.Ns mainGlobals mg → FnA P w K mg base G k fa sem) (hsem : ∃ S, sem [.scr (ns.map D.int)] [] = some (.ok (.bl true), S))
    (told : ∀ b u, H b = some u → b = a ∧ ∃ o xs, u = .frz o (.lst xs)) (unK : H a ≠ none → K.lookup a = none) (hok : HOk P w H s₁.heap) (hS : SqL K H a (ns.map V.int)) :
    codeAny (model P w) callerA (.call (.ref fa) ⟨[.ref a], []⟩) (fun r s' => r = .ok (.ret (.bool true)) ∧ OldK s₁.heap s'.heap ∧ s'.os = s₁.os ∧ AllBare s'.gens) s₁ := by
  have same : ∀ {b : Addr} {o : Obj}, s₁.heap.get? b = some o → b ≠ a → (hidT s₁.heap H).get? b = some o := fun {b o} e ne => by
    refine hidT_get e ?_
    rcases q : H b with _ | u
    · rfl
    · exact absurd (told b u q).1 ne
  have asNs : ∀ {b : Addr} {m : Str → Option Value}, s₁.heap.Ns b m → (hidT s₁.heap H).Ns b m := by
    rintro b m ⟨o, es, ep, e, d, r⟩
    refine ⟨o, es, ep, same e ?_, d, r⟩
    rintro rfl
    rw [ha] at e
    cases e
    exact Data.noConfusion d
  have inK : K.In (hidT s₁.heap H) := fun b o e => by
    have there := KX b o e
    rcases q : H b with _ | u
    · exact hidT_get there q
    · obtain ⟨rfl, _⟩ := told b u q
      rw [unK (by rw [q]; exact fun z => nomatch z)] at e
      cases e
  have md : Mod K mg (hidT s₁.heap H) := by
    obtain ⟨mc, l1, l2⟩ := hlim
    exact ⟨inK, asNs hns, ⟨mb, asNs hb, hbb⟩, ⟨mc, asNs l1, l2⟩⟩
  have e0 : Env0 P w K mg (hidT s₁.heap H) callerA [] s₁ H := ⟨rfl, md, fun b o e => of_hidT e, Nat.le_of_eq (hidT_size _ _), trivial, fun b z => absurd (show b ∈ ([] : List Addr) from z) (by simp), hok, .of_eq hg⟩
  obtain ⟨S, hsem⟩ := hsem
  have numsR : ∀ (wd : Wd) (l : List Int), RepVs G wd (l.map D.int) (l.map V.int) := fun wd l => by
    induction l with
    | nil => rfl
    | cons z l ih => exact ⟨_, _, rfl, rfl, ih⟩
  have start : spV G sem [.ref a] H (fun v _ => v = .bl true) fun _ _ _ => False := by
    refine ⟨⟨[], fun b => H b ≠ none, H, none⟩, [.scr (ns.map D.int)], [], rfl, ⟨rfl, List.nodup_nil, fun _ _ => by simp, fun _ z => z, fun n b o z => by simp at z⟩, ⟨.ref a, [], rfl, ⟨a, _, rfl, ?_, numsR _ ns⟩, rfl⟩, ?_⟩
    · rcases hS with z | z
      · refine .inl ⟨?_, z⟩
        show H a ≠ none
        rcases z with z | ⟨o, z⟩
        · rw [z]; exact fun q => nomatch q
        · rw [z]; exact fun q => nomatch q
      · rw [← cK] at z
        exact .inr z
    · rw [hsem]
      exact fun w' v _ _ rv => rv
  have vals : Vals [V.ref a] [Value.ref a] := .cons rfl .nil
  refine codeAny_mono ((F _ inK (asNs hns)).run callerA [] s₁ H [.ref a] [.ref a] _ _ ⟨hr, rfl⟩ e0 vals start) ?_
  rintro (er | fl) s' got
  · obtain ⟨_, _, _, _, _, _, _, _, _, _, _, _, z⟩ := got
    exact z.elim
  · cases fl with
    | next => exact got.elim
    | brk => exact got.elim
    | cont => exact got.elim
    | ret u =>
      obtain ⟨v, H', os, bare, un, hok', rv, rfl⟩ := got
      obtain rfl : u = Value.bool true := rv
      refine ⟨rfl, OldK.of_keep fun b o e => ?_, os, bare⟩
      rcases q : H b with _ | u
      · exact un.keep b o e q (fun z => absurd (show b ∈ ([] : List Addr) from z) (by simp)) (by simp)
      · obtain ⟨rfl, ob, xs, rfl⟩ := told b u q
        have kept := un.frzs b ob _ q
        obtain ⟨e1, _⟩ := hok b _ q
        obtain ⟨e2, _⟩ := hok' b _ kept
        rw [e] at e1
        cases e1
        exact e2
theorem end_call (KX : K.In s₁.heap) (hns : s₁.heap.Ns mainGlobals mg) (hb : s₁.heap.Ns builtinsNs mb) (hbb : ∀ x : Str, x ≠ "__name__" → mb x = bootBuiltins x) (hlim : s₁.heap.NoLimit) (hg : s₁.gens = #[])
    (ha : s₁.heap.get? a = some { cls := .type "list", data := .seq vs.toArray }) (hi : IntsAre vs ns) (hl : ns.length ≤ sizeLine) (hr : Room k callerA) (cK : G.K = K)
    (F : ∀ base : Heap, K.In base → base.Ns mainGlobals mg → FnA P w K mg base G k fa sem) (hsem : ∃ S, sem [.scr (ns.map D.int)] [] = some (.ok (.bl true), S)) :
    codeAny (model P w) callerA (.call (.ref fa) ⟨[.ref a], []⟩) (fun r s' => r = .ok (.ret (.bool true)) ∧ OldK s₁.heap s'.heap ∧ s'.os = s₁.os ∧ AllBare s'.gens) s₁ := by
  have rv := vals_ints hi
  have size : vs.length ≤ sizeLine := by rw [hi.length]; exact hl
  rcases hk : K.lookup a with _ | o
  · refine end_core (fun b => if b = a then some (.frz { cls := .type "list", data := .seq vs.toArray } (.lst (ns.map V.int))) else none) KX hns hb hbb hlim hg ha hr cK F hsem (fun b u z => ?_) (fun _ => hk) (fun b u z => ?_) (.inl (.inr ⟨_, if_pos rfl⟩))
    · by_cases e : b = a
      · exact ⟨e, _, _, (Option.some.inj ((if_pos e).symm.trans z)).symm⟩
      · cases (if_neg e).symm.trans z
    · by_cases e : b = a
      · cases (if_pos e).symm.trans z
        subst e
        exact ⟨ha, by rw [List.length_map]; exact hl, vs, _, rv, ha⟩
      · cases (if_neg e).symm.trans z
  · have there := KX a o hk
    rw [ha] at there
    cases there
    exact end_core (fun _ => none) KX hns hb hbb hlim hg ha hr cK F hsem (fun b u z => nomatch z) (fun z => absurd rfl z) (fun b u z => nomatch z) (.inr ⟨_, vs.toArray, _, hk, rfl, rfl, rfl, by rw [List.size_toArray]; exact size, by simpa using rv⟩)
end
theorem end_walk {l : PySem.W.OpenLaw} {n k : Nat} {q : Program} {loose : List Str} {XP : (Str → Option Value) → Heap → Prop} {YP : World → Heap → Prop} {d : DefRec} {K : Params → PySem.W.Frag} {sem : List D → M D}
    (hn : l.most = some n) (hn2 : n ≤ sizeLine) (hdf : d.params.defaults = []) (hr : Room k callerA) (hY : ∀ (w : World) (h : Heap), YP w h → (K w.params).In h)
    (F : ∀ (w : World) (mg : Str → Option Value) (fa : Addr) (h : Heap), (K w.params).In h → h.Ns mainGlobals mg → mg d.name = some (.ref fa) → ∃ G : Sg, G.K = K w.params ∧ ∀ base : Heap, (K w.params).In base → base.Ns mainGlobals mg → FnA l.prog w (K w.params) mg base G k fa sem)
    (hsem : ∀ ns : List Int, ns.length ≤ n → (∀ z ∈ ns, Builtin.Int.intBits z ≤ 1048576) → ∃ S, sem [.scr (ns.map D.int)] [] = some (.ok (.bl true), S)) :
    PySem.W.WalkO q loose XP YP l.row.toRowW d [] (fun f vs => PySem.call f vs) := by
  refine Att.attach_callB hn hdf fun w s₀ s₁ mg mb fa o pm cd doc a vs ns Gr Y ho hd hcd hmg hobj hints hlen hbits hg => ?_
  have KX := hY w _ Y
  obtain ⟨G, cK, hF⟩ := F w mg fa _ KX Gr.T.g hmg
  exact end_call KX Gr.T.g Gr.T.b Gr.T.builtins Gr.T.nolimit hg hobj hints (Nat.le_trans hlen hn2) hr cK hF (hsem ns hlen hbits)
theorem kit_cc {K : PySem.W.Frag} {t : Value} {C : Addr} {b : Bool} (h1 : PySem.W.isClsIn K C = true) (h2 : PySem.W.typeIn K (.ref C) = some (.type "type")) (h3 : PySem.W.subIn K t (.ref C) = some b) (h4 : PySem.W.subIn K (.ref C) (.ref C) = some true) : PySem.W.kitOne K t (.ref C) = some b := by
  unfold PySem.W.kitOne
  by_cases e : (t == Value.ref C) = true
  · rw [if_pos e]
    have e2 : t = Value.ref C := eq_of_beq e
    rw [e2, h4] at h3
    exact h3
  · rw [if_neg e]
    unfold PySem.W.kitCls
    have h1' : (PySem.W.clsIn K C).isSome = true := h1
    simp only [h1', h2, h3]
    rfl
theorem kit_ct {K : PySem.W.Frag} {C : Addr} {T : String} {b : Bool} (h1 : PySem.W.kitMeta T = true) (h3 : PySem.W.subIn K (.ref C) (.type T) = some b) : PySem.W.kitOne K (.ref C) (.type T) = some b := by
  unfold PySem.W.kitOne
  by_cases e : (Value.ref C == Value.type T) = true
  · cases eq_of_beq e
  rw [if_neg e]
  unfold PySem.W.kitCls
  simp only [h1, h3]
  rfl
end Ev
set_option maxRecDepth 100000
set_option maxHeartbeats 2000000
namespace Ev
open PySem L2
def Run {α : Type} (f : M α) (S : List Ob) (P : α → List Ob → Prop) : Prop := match f S with
  | some (.ok a, S') => P a S'
  | _ => False
def RunS (f : MS) (sd : List SV) (S : List Ob) (N : List SV → List Ob → Prop) (R : D → List Ob → Prop) (B C : List SV → List Ob → Prop) : Prop := match f sd S with
  | some (.next sd', S') => N sd' S'
  | some (.ret d, S') => R d S'
  | some (.brk sd', S') => B sd' S'
  | some (.cont sd', S') => C sd' S'
  | _ => False
section
variable {α β : Type} {f : M α} {S : List Ob} {P P' : α → List Ob → Prop}
theorem run_pure {a : α} : Run (M.pure a) S P ↔ P a S := Iff.rfl
theorem run_stuck : Run (M.stuck : M α) S P ↔ False := Iff.rfl
theorem run_bind {k : α → M β} {Q : β → List Ob → Prop} : Run (M.bind f k) S Q ↔ Run f S fun a S' => Run (k a) S' Q := by
  unfold Run M.bind
  rcases f S with _ | ⟨_ | a, S'⟩
  · exact Iff.rfl
  · exact Iff.rfl
  · exact Iff.rfl
theorem run_ite {c : Prop} [Decidable c] {g : M α} : Run (if c then f else g) S P ↔ if c then Run f S P else Run g S P := by split <;> exact Iff.rfl
theorem run_noErr : Run (noErr f) S P ↔ Run f S P := by
  unfold Run noErr
  rcases f S with _ | ⟨_ | a, S'⟩ <;> exact Iff.rfl
theorem Run.mono (h : Run f S P) (i : ∀ a S', P a S' → P' a S') : Run f S P' := by
  unfold Run at h ⊢
  rcases e : f S with _ | ⟨_ | a, S'⟩
  · rw [e] at h; exact h
  · rw [e] at h; exact h
  · rw [e] at h; exact i a S' h
theorem Run.ex (h : Run f S P) : ∃ a S', f S = some (.ok a, S') ∧ P a S' := by
  unfold Run at h
  rcases e : f S with _ | ⟨_ | a, S'⟩
  · rw [e] at h; exact h.elim
  · rw [e] at h; exact h.elim
  · rw [e] at h; exact ⟨a, S', rfl, h⟩
theorem pure_of {r : α} (h : ∀ S, Run f S fun d S' => d = r ∧ S' = S) : f = M.pure r := by
  funext S
  obtain ⟨a, S', e, rfl, rfl⟩ := (h S).ex
  rw [e]
  rfl
variable {sd : List SV} {N N' : List SV → List Ob → Prop} {R R' : D → List Ob → Prop} {B B' C C' : List SV → List Ob → Prop} {m1 m2 : MS}
theorem runS_next : RunS nextS sd S N R B C ↔ N sd S := Iff.rfl
theorem runS_stuck : RunS stuckS sd S N R B C ↔ False := Iff.rfl
theorem runS_seq : RunS (seqS m1 m2) sd S N R B C ↔ RunS m1 sd S (fun sd' S' => RunS m2 sd' S' N R B C) R B C := by
  unfold RunS seqS
  rcases m1 sd S with _ | ⟨_ | _ | _ | _ | _, S'⟩ <;> exact Iff.rfl
theorem runS_ex {g : List SV → M α} {k : α → MS} : RunS (exS g k) sd S N R B C ↔ Run (g sd) S fun d S' => RunS (k d) sd S' N R B C := by
  unfold RunS exS Run
  rcases g sd S with _ | ⟨_ | a, S'⟩ <;> exact Iff.rfl
theorem runS_ret {g : List SV → M D} : RunS (retS g) sd S N R B C ↔ Run (g sd) S R := by
  unfold retS
  rw [runS_ex]
  exact Iff.rfl
theorem runS_asg {g : List SV → M D} {i : Nat} : RunS (asgS g (setT i)) sd S N R B C ↔ Run (g sd) S fun d S' => N (sd.set i (.val d)) S' := by
  unfold asgS
  rw [runS_ex]
  exact Iff.rfl
theorem runS_par {g : List SV → M (List D)} {i j : Nat} : RunS (parS i j g) sd S N R B C ↔ Run (g sd) S fun ds S' => match ds with | [a, b] => N ((sd.set i (.val a)).set j (.val b)) S' | _ => False := by
  unfold parS
  rw [runS_ex]
  unfold Run
  rcases g sd S with _ | ⟨_ | ds, S'⟩
  · exact Iff.rfl
  · exact Iff.rfl
  · rcases ds with _ | ⟨a, _ | ⟨b, _ | ⟨c, ds⟩⟩⟩ <;> exact Iff.rfl
theorem runS_if {g : List SV → M Bool} : RunS (exS g fun k => if k = true then m1 else m2) sd S N R B C ↔ Run (g sd) S fun k S' => if k = true then RunS m1 sd S' N R B C else RunS m2 sd S' N R B C := by
  rw [runS_ex]
  have e : (fun (d : Bool) S' => RunS (if d = true then m1 else m2) sd S' N R B C) = fun k S' => if k = true then RunS m1 sd S' N R B C else RunS m2 sd S' N R B C := by
    funext d S'
    cases d <;> rfl
  rw [e]
theorem runS_own {g : List SV → M (List D)} {i : Nat} : RunS (ownS i g) sd S N R B C ↔ Run (g sd) S fun ds S' => N (sd.set i (.own (.lst ds))) S' := by
  unfold ownS
  rw [runS_ex]
  exact Iff.rfl
theorem runS_tgt {g : List SV → M D} {t : Tgt} : RunS (asgS g t) sd S N R B C ↔ Run (g sd) S fun d S' => match t d sd S' with | some (sd2, S2) => N sd2 S2 | none => False := by
  unfold asgS
  rw [runS_ex]
  unfold Run
  rcases g sd S with _ | ⟨_ | d, S'⟩
  · exact Iff.rfl
  · exact Iff.rfl
  · unfold RunS
    simp only
    rcases t d sd S' with _ | ⟨sd2, S2⟩
    · exact Iff.rfl
    · exact Iff.rfl
theorem RunS.mono (h : RunS m1 sd S N R B C) (hN : ∀ sd S, N sd S → N' sd S) (hR : ∀ d S, R d S → R' d S) (hB : ∀ sd S, B sd S → B' sd S) (hC : ∀ sd S, C sd S → C' sd S) : RunS m1 sd S N' R' B' C' := by
  unfold RunS at h ⊢
  rcases e : m1 sd S with _ | ⟨_ | _ | _ | _ | _, S'⟩
  · rw [e] at h; exact h
  · rw [e] at h; exact hN _ _ h
  · rw [e] at h; exact hR _ _ h
  · rw [e] at h; exact hB _ _ h
  · rw [e] at h; exact hC _ _ h
  · rw [e] at h; exact h
theorem loop_rule {t : Tgt} {body : MS} (J : List D → List SV → List Ob → Prop) (step : ∀ d ds sd S, J (d :: ds) sd S → ∃ sd1 S1, t d sd S = some (sd1, S1) ∧ RunS body sd1 S1 (fun sd2 S2 => J ds sd2 S2) R (fun sd2 S2 => N sd2 S2) (fun sd2 S2 => J ds sd2 S2))
    (fin : ∀ sd S, J [] sd S → N sd S) : ∀ ds sd S, J ds sd S → RunS (loopS t body ds) sd S N R B C
  | [], sd, S, h => fin sd S h
  | d :: ds, sd, S, h => by
    obtain ⟨sd1, S1, e, hb⟩ := step d ds sd S h
    have ih := loop_rule J step fin ds
    unfold RunS at hb ⊢
    unfold loopS
    rw [e]
    simp only
    rcases hm : body sd1 S1 with _ | ⟨_ | _ | _ | _ | _, S'⟩
    · rw [hm] at hb; exact hb
    · rw [hm] at hb; exact ih _ _ hb
    · rw [hm] at hb; exact hb
    · rw [hm] at hb; exact hb
    · rw [hm] at hb; exact ih _ _ hb
    · rw [hm] at hb; exact hb
theorem runS_for {g : List SV → M (List D)} {t : Tgt} {body : MS} : RunS (forS g t body) sd S N R B C ↔ Run (g sd) S fun ds S' => RunS (loopS t body ds) sd S' N R B C := by
  unfold forS
  rw [runS_ex]
theorem iter_rule {c : List SV → M Bool} {body : MS} (J : Nat → List SV → List Ob → Prop) (step : ∀ n sd S, J n sd S → Run (c sd) S fun b S1 => if b = true then RunS body sd S1 (fun sd2 S2 => ∃ n', n' < n ∧ J n' sd2 S2) R N (fun sd2 S2 => ∃ n', n' < n ∧ J n' sd2 S2) else N sd S1) :
    ∀ fuel n sd S, n < fuel → J n sd S → RunS (iterS c body fuel) sd S N R B C
  | 0, n, sd, S, l, _ => absurd l (Nat.not_lt_zero n)
  | fuel + 1, n, sd, S, l, h => by
    unfold iterS
    rw [runS_ex]
    refine (step n sd S h).mono fun b S1 hb => ?_
    cases b with
    | false => exact hb
    | true =>
      simp only [if_true] at hb ⊢
      unfold RunS at hb ⊢
      dsimp only at hb ⊢
      rcases hm : body sd S1 with _ | ⟨_ | _ | _ | _ | _, S'⟩
      · simp only [hm] at hb ⊢
      · simp only [hm] at hb ⊢
        obtain ⟨n', l', h'⟩ := hb
        exact iter_rule J step fuel n' _ _ (by omega) h'
      · simp only [hm] at hb ⊢; exact hb
      · simp only [hm] at hb ⊢; exact hb
      · simp only [hm] at hb ⊢
        obtain ⟨n', l', h'⟩ := hb
        exact iter_rule J step fuel n' _ _ (by omega) h'
      · simp only [hm] at hb ⊢
theorem run_fn {m n : Nat} {ms : MS} {ds : List D} {Q : D → List Ob → Prop} : Run (runFn m n ms ds) S Q ↔ ds.length = m ∧ RunS ms (slots n (ds.map .val)) S (fun _ S' => Q .non S') Q (fun _ _ => False) (fun _ _ => False) := by
  unfold Run runFn RunS
  by_cases h : ds.length = m
  · simp only [h, if_true, true_and]
    rcases ms (slots n (ds.map .val)) S with _ | ⟨_ | _ | _ | _ | _, S'⟩ <;> exact Iff.rfl
  · simp only [h, if_false, false_and]
end
theorem getv_val {i : Nat} {sd : List SV} {d : D} (h : sd[i]? = some (.val d)) : getv i sd = M.pure d := by
  unfold getv
  rw [h]
theorem toB_bl (b : Bool) : toB (.bl b) = M.pure b := rfl
theorem add_int (i j : Int) : dAdd (.int i) (.int j) = M.pure (.int (i + j)) := rfl
theorem sub_int (i j : Int) : dSub (.int i) (.int j) = M.pure (.int (i - j)) := rfl
theorem mul_int {i j : Int} (h : mulOk i j = true) : dMul (.int i) (.int j) = M.pure (.int (i * j)) := by
  show (if mulOk i j = true then M.pure (D.int (i * j)) else M.stuck) = _
  rw [if_pos h]
theorem mod_int {i j : Int} (h : 0 < j) : dMod (.int i) (.int j) = M.pure (.int (i % j)) := by
  show (if 0 < j then M.pure (D.int (i % j)) else M.stuck) = _
  rw [if_pos h]
theorem fdiv_int {i j : Int} (h : divOk j = true) : dFdiv (.int i) (.int j) = M.pure (.int (i / j)) := by
  show (if divOk j = true then M.pure (D.int (i / j)) else M.stuck) = _
  rw [if_pos h]
theorem cmp_int (p : Int → Int → Bool) (i j : Int) : dCmpI p (.int i) (.int j) = M.pure (.bl (p i j)) := rfl
theorem int_int (i : Int) : dInt (.int i) = M.pure (.int i) := rfl
theorem ix_tup {ds : List D} {i : Int} {d : D} (h : atI ds i = some d) : dIx (.tup ds) (.int i) = M.pure d := by
  funext S
  show (match atI ds i with | some x => (some (Except.ok x, S) : Option (Except Exn D × List Ob)) | none => none) = _
  rw [h]
  rfl
theorem ix_lst {ds : List D} {i : Int} {d : D} (h : atI ds i = some d) : dIx (.lst ds) (.int i) = M.pure d := by
  funext S
  show (match atI ds i with | some x => (some (Except.ok x, S) : Option (Except Exn D × List Ob)) | none => none) = _
  rw [h]
  rfl
end Ev
set_option maxRecDepth 100000
set_option maxHeartbeats 2000000
namespace PySem.W
open PySem PyProof.Rows
section
variable {prog : Program} {w : World} {A : Around} {E : Value → Shared → Prop} {s : Shared} {K : Frag} {x y C : Addr} {h₀ : Heap} {ox oy : Obj} {od : Option Obj} {f : Addr}
theorem evx_ifB {M : Model} {name : Str} {id : String} {args : List Value} {Q : Option Value → Shared → Prop} (X : K.In s.heap) (I : InstAt s.heap x ox C od) (hs : findIn K (.ref C) name = some (some (.builtin id)))
    (hb : ∀ self, bindSpecial (.builtin id) self = pure (.builtin id, [self])) (h : wpAny M A (call (.builtin id) (.ref x :: args)) (fun v => Q (some v)) E s) : wpAny M A (callSpecialIfBound? (.ref x) name args) Q E s := by
  simp only [callSpecialIfBound?, bindSpecialIfBound?]
  refine wpAny_holding (wpAny_bind (wpAny_bind (wpAny_bind (I.type.here ((looks_findIn X hs).here ?_)))))
  refine wpAny_bind (wpAny_askSetting (wpAny_ite ?_))
  have fin : wpAny M A (call (.builtin id) ([.ref x] ++ args) >>= fun v => pure (some v)) Q E s := wpAny_bind (wpAny_mono h (fun v s' h' => wpAny_pure h') fun _ _ h' => h')
  split
  · exact wpAny_bind ((Looks.of_pure (hb _)).here (wpAny_pure (by exact fin)))
  · exact wpAny_tryCatch (wpAny_bind ((Looks.of_pure (hb _)).here (wpAny_pure (by exact fin))))
theorem evx_eq {Q : Value → Shared → Prop} (hu : A.units < cLine) (X : K.In s.heap) (I : InstAt s.heap x ox C od) (hy : s.heap.get? y = some oy) (hyc : oy.cls = .ref C)
    (hs : findIn K (.ref C) "__eq__" = some (some (.ref f))) (hf : isFn K (.ref f) = true)
    (h : wpAny (model prog w) A (call (.ref f) [.ref x, .ref y]) (fun v s' => ∃ b, v = .bool b ∧ Q (.bool b) s') E s) : wpAny (model prog w) A (compareOp .Eq (.ref x) (.ref y)) Q E s := by
  refine cmp_ofEq ?_
  unfold richCompare
  simp only [oneThing_ref]
  refine wpAny_holding (wpAny_bind (wpAny_cRoomFor hu ?_))
  refine wpAny_bind (I.type.here (wpAny_bind (wpAny_typeOf_ref hy ?_)))
  rw [hyc]
  rw [show (Value.ref C != Value.ref C) = false from by simp]
  simp only [Bool.false_eq_true, if_false]
  refine wpAny_bind (wpAny_pure ?_)
  simp only [Bool.false_eq_true, if_false]
  unfold tryCompare
  refine wpAny_bind (wpAny_bind (ifBound_K X I hs hf (wpAny_mono h (fun v s' hv => ?_) fun _ _ e => e)))
  obtain ⟨b, rfl, hq⟩ := hv
  exact wpAny_pure (wpAny_pure hq)
open Builtin in
theorem evx_ne {Q : Value → Shared → Prop} (hu : A.units < cLine) (hu1 : A.in1.units < cLine) (X : K.In s.heap) (I : InstAt s.heap x ox C od) (hy : s.heap.get? y = some oy) (hyc : oy.cls = .ref C)
    (hs : findIn K (.ref C) "__eq__" = some (some (.ref f))) (hf : isFn K (.ref f) = true) (hn : findIn K (.ref C) "__ne__" = some (some (.builtin "object.__ne__"))) (hm : mroIn K C (.type "object") = some true)
    (h : wpAny (model prog w) A.in1 (call (.ref f) [.ref x, .ref y]) (fun v s' => ∃ b, v = .bool b ∧ Q (.bool (!b)) s') E s) : wpAny (model prog w) A (compareOp .NotEq (.ref x) (.ref y)) Q E s := by
  refine cmp_ofNotEq ?_
  unfold richCompare
  simp only [oneThing_ref]
  refine wpAny_holding (wpAny_bind (wpAny_cRoomFor hu ?_))
  rw [cmpInfo_NotEq]
  dsimp only
  refine wpAny_bind (I.type.here (wpAny_bind (wpAny_typeOf_ref hy ?_)))
  rw [hyc]
  rw [show (Value.ref C != Value.ref C) = false from by simp]
  simp only [Bool.false_eq_true, if_false]
  refine wpAny_bind (wpAny_pure ?_)
  simp only [Bool.false_eq_true, if_false]
  unfold tryCompare
  have body : wpAny (model prog w) A.in1 (Builtin.«object.__ne__» ⟨[.ref x, .ref y], []⟩) (fun r s' => ∃ b, r = .done (.ret (.bool (!b))) ∧ Q (.bool (!b)) s') E s := by
    unfold Builtin.«object.__ne__»
    repeat (first
      | with_reducible refine wpAny_cRoomFor hu1 ?_
      | (refine wpAny_bind (m := callSpecialIfBound? (.ref x) (Str.ofString "__eq__") [.ref y])
          (ifBound_K X I hs hf (wpAny_mono h (fun r s' hr => by
            obtain ⟨b, rfl, hq⟩ := hr
            have hq : ∃ b', Fin.done (Flow.ret (.bool (!b))) = .done (.ret (.bool (!b'))) ∧ Q (.bool (!b')) s' := ⟨b, rfl, hq⟩
            repeat (first | exact hq | exact wpAny_pure hq | exact wpAny_truthy_bool hq | (refine wpAny_bind (m := truthy (.bool _)) (wpAny_truthy_bool ?_)) | wp_step)) fun _ _ e => e)))
      | wp_step)
  refine wpAny_bind (wpAny_bind (evx_ifB X I hn F.slot_object_ne.bind (wpAny_call (codeAny_call_builtin F.slot_object_ne.plain F.entry_object_ne (check_slot (i := "object.__ne__") (owner := "object") (n := "__ne__") (by decide +kernel) (by decide +kernel) (I.type.andThen (looks_mroIn X hm)) (F.cmpArgs_ne _ _) ?_)))))
  refine wpAny_mono body (fun r s' hr => ?_) fun _ _ e => e
  obtain ⟨b, rfl, hq⟩ := hr
  exact wpAny_pure (wpAny_pure hq)
end
end PySem.W
namespace Ev
open PySem PySem.Spec PyProof.Rows L2
section
variable {G : Sg} {X : Cx} {W : WX} {k n m j : Nat} {f C : Addr} {sem : List D → M D} {x y mm : Str} {p pos apos kpos : Pos} {e o fe : Expr} {es : List Expr} {kws : List Keyword} {ks : List Str} {fa fk : List SV → M (List D)} {ff g : List SV → M D} {σ : L2.St}
theorem run_in1 {pins : List (Addr × Obj)} {H : Hp} {s : Shared} {Q : VK} {E' : Value → Shared → Prop} {us : List Value} {vs : List V} (hr : Rm (k + 1) X.A) (F : FnX X G k f sem) (I : Inv X pins σ H s) (r : Vals vs us)
    (h : spV G sem vs H Q (fun _ _ _ => False)) : wpAny (model X.prog X.w) X.A.in1 (call (.ref f) us) (EP X pins σ Q) E' s := by
  have body := F.run X.A.in1 X.stack s H us vs Q (fun _ _ _ => False) hr.in1 I.env0.in1 r h
  refine wpAny_call (codeAny_mono body ?_)
  intro res s' hq
  rcases res with er | fl
  · obtain ⟨_, _, _, _, _, _, _, _, _, _, _, _, z⟩ := hq
    exact z.elim
  · cases fl with
    | ret u => exact I.after hq
    | next => exact hq.elim
    | brk => exact hq.elim
    | cont => exact hq.elim
structure EqT (X : Cx) (G : Sg) (k : Nat) (tbl : Nat → Option (List D → M D)) : Prop where
  at_ : ∀ c g, tbl c = some g → ∃ f, PySem.W.findIn X.K (.ref (G.ca c)) "__eq__" = some (some (.ref f)) ∧ PySem.W.isFn X.K (.ref f) = true ∧ PySem.W.findIn X.K (.ref (G.ca c)) "__ne__" = some (some (.builtin "object.__ne__")) ∧
    PySem.W.mroIn X.K (G.ca c) (.type "object") = some true ∧ FnX X G k f g
def ownEq (neg : Bool) (tbl : Nat → Option (List D → M D)) (d e : D) : M D := M.bind (pick tbl d) fun g => M.bind (clsOf d) fun c => M.bind (clsOf e) fun c' => if c = c' then M.bind (noErr (g [d, e])) fun r => M.bind (toB r) fun b => M.pure (.bl (neg != b)) else M.stuck
theorem EP.mono {pins : List (Addr × Obj)} {Q Q' : VK} {v : Value} {s : Shared} (h : EP X pins σ Q v s) (i : ∀ z H, Q z H → Q' z H) : EP X pins σ Q' v s := by
  obtain ⟨z, H, I, r, q⟩ := h
  exact ⟨z, H, I, r, i z H q⟩
theorem eq_both {op : CmpOp} {neg : Bool} {tbl : Nat → Option (List D → M D)} {pins : List (Addr × Obj)} {s : Shared} {Q : VK} (c : Ctx G X W k) (T : EqT X G k tbl) (hop : (op = .Eq ∧ neg = false) ∨ (op = .NotEq ∧ neg = true)) {u v : Value} {d d2 : D} {v1 v2 : V} {w2 : Wd} {S2 : List Ob} {Wx : Value → Option Addr → Hp → Prop}
    (I2 : Inv X pins σ w2.H s) (rv : RelV v1 v) (ru : RelV v2 u) (s2' : RepS G w2 S2) (rd : RepV G w2 d v1) (rd2 : RepV G w2 d2 v2) (q2 : FinG G (RepV G) Wx w2 Q (ownEq neg tbl d d2 S2)) :
    wpAny (model X.prog X.w) X.A (compareOp op v u) (EP X pins σ Q) X.xe s := by
  unfold ownEq at q2
  obtain ⟨cc, g, tg, q3, hc1, a1, dx1, fs1, rfl, hb1⟩ := pick_fin s2' rd q2
  obtain ⟨c1, q4, hc2, a2, dx2, fs2, e2, hb2⟩ := clsOf_fin s2' rd q3
  cases e2
  obtain ⟨c2, q5, hc3, a3, dx3, fs3, rfl, hb3⟩ := clsOf_fin s2' rd2 q4
  obtain ⟨ec, q6⟩ := FinG.ite q5
  subst ec
  have e12 : c1 = cc := by
    rw [hc1] at hc2
    cases hc2
    rfl
  subst e12
  obtain ⟨f, fi, isf, fn, hm, F⟩ := T.at_ c1 g tg
  cases (show v = Value.ref a1 from rv)
  cases (show u = Value.ref a3 from ru)
  obtain ⟨m1, O1, _⟩ := ins_get I2.hok hb1
  obtain ⟨od1, J1, _⟩ := O1.look
  obtain ⟨m3, O3, _⟩ := ins_get I2.hok hb3
  obtain ⟨od3, J3, _⟩ := O3.look
  have want : spV G g [.ref a1, .ref a3] w2.H (fun z H' => ∃ b, z = .bl b ∧ Q (.bl (neg != b)) H') (fun _ _ _ => False) := by
    refine ⟨w2, [d, d2], S2, rfl, s2', ⟨_, _, rfl, rd, _, _, rfl, rd2, rfl⟩, ?_⟩
    unfold M.bind noErr at q6
    rcases hg : g [d, d2] S2 with _ | ⟨_ | r, S3⟩
    · rw [hg] at q6; exact q6.elim
    · rw [hg] at q6; exact q6.elim
    · rw [hg] at q6
      intro w' z e s3 rz
      cases r with
      | bl b =>
        cases (show z = .bl b from rz)
        exact ⟨b, rfl, q6 w' _ e s3 rfl⟩
      | _ => exact q6.elim
  have hu := c.rm.room.units0
  rcases hop with ⟨rfl, rfl⟩ | ⟨rfl, rfl⟩
  · refine PySem.W.evx_eq hu I2.kIn J1 J3.at_ J3.cls fi isf ?_
    have lift : Rm k X.A := c.rm0
    have body := F.run X.A X.stack s w2.H [.ref a1, .ref a3] [.ref a1, .ref a3] _ (fun _ _ _ => False) lift I2.env0 (.cons rfl (.cons rfl .nil)) want
    refine wpAny_call (codeAny_mono body ?_)
    intro res s' hq
    rcases res with er | fl
    · obtain ⟨_, _, _, _, _, _, _, _, _, _, _, _, z⟩ := hq
      exact z.elim
    · cases fl with
      | ret u =>
        obtain ⟨z, H', I3, rz, b, rfl, hQ⟩ := I2.after hq
        cases (show u = Value.bool b from rz)
        refine ⟨b, rfl, .bl b, H', I3, rfl, ?_⟩
        simpa using hQ
      | next => exact hq.elim
      | brk => exact hq.elim
      | cont => exact hq.elim
  · have hu1 : X.A.in1.units < cLine := (c.rm.in1).room.units0
    refine PySem.W.evx_ne hu hu1 I2.kIn J1 J3.at_ J3.cls fi isf fn hm (wpAny_mono (run_in1 (us := [.ref a1, .ref a3]) (vs := [.ref a1, .ref a3]) c.rm F I2 (.cons rfl (.cons rfl .nil)) want) (fun u s' z => ?_) fun _ _ z => z)
    obtain ⟨z', H', I3, rz, b, rfl, hQ⟩ := z
    cases (show u = Value.bool b from rz)
    refine ⟨b, rfl, .bl (!b), H', I3, rfl, ?_⟩
    simpa using hQ
theorem o_ownEq {op : CmpOp} {neg : Bool} {tbl : Nat → Option (List D → M D)} (c : Ctx G X W k) (T : EqT X G k tbl) (hop : (op = .Eq ∧ neg = false) ∨ (op = .NotEq ∧ neg = true)) : OpR X (compareOp op) (rD2 G (ownEq neg tbl)) := by
  intro pins s σ H v1 v2 v u Q I rv ru ⟨Wx, w2, S2, d, d2, eH, s2, rd, rd2, q⟩
  subst eH
  exact eq_both c T hop I rv ru s2 rd rd2 q
def eqX (neg : Bool) (tbl : Nat → Option (List D → M D)) (d e : D) : M D := if isObj d = true then ownEq neg tbl d e else dEq neg d e
theorem o_eqX {tbl : Nat → Option (List D → M D)} (c : Ctx G X W k) (T : EqT X G k tbl) : OpR X (compareOp .Eq) (rD2 G (eqX false tbl)) := by
  refine OpR.imp ((o_ownEq c T (.inl ⟨rfl, rfl⟩)).or (o_eq c.cK c.rm)) fun v u H Q q => ?_
  obtain ⟨Wx, w2, S2, d, d2, eH, s2, rd, rd2, q⟩ := q
  unfold eqX at q
  by_cases h : isObj d = true
  · rw [if_pos h] at q
    exact .inl ⟨Wx, w2, S2, d, d2, eH, s2, rd, rd2, q⟩
  · rw [if_neg h] at q
    exact .inr ⟨Wx, w2, S2, d, d2, eH, s2, rd, rd2, q⟩
theorem o_neX {tbl : Nat → Option (List D → M D)} (c : Ctx G X W k) (T : EqT X G k tbl) : OpR X (compareOp .NotEq) (rD2 G (eqX true tbl)) := by
  refine OpR.imp ((o_ownEq c T (.inr ⟨rfl, rfl⟩)).or (o_ne c.cK c.rm)) fun v u H Q q => ?_
  obtain ⟨Wx, w2, S2, d, d2, eH, s2, rd, rd2, q⟩ := q
  unfold eqX at q
  by_cases h : isObj d = true
  · rw [if_pos h] at q
    exact .inl ⟨Wx, w2, S2, d, d2, eH, s2, rd, rd2, q⟩
  · rw [if_neg h] at q
    exact .inr ⟨Wx, w2, S2, d, d2, eH, s2, rd, rd2, q⟩
end
end Ev
set_option maxRecDepth 100000
set_option maxHeartbeats 2000000
namespace Ev
open PySem PySem.Spec PyProof.Rows L2
structure ClK (P : Program) (w : World) (K : PySem.W.Frag) (mg : Str → Option Value) (base : Heap) (G : Sg) (k c m : Nat) (ks : List Str) (sem : List D → M D) : Prop where
  ex : ∃ f, Mk K (G.ca c) f ∧ ∀ (A : Around) (fr : List Env) (s : Shared) (H : Hp) (us ws : List Value) (vs zs : List V) (Q : VK) (E : XK), Rm k A → Env0 P w K mg base A fr s H → Vals vs us → Vals zs ws → vs.length = m + 1 → zs.length = ks.length →
    spN G c sem (vs ++ zs) H Q E → codeAny (model P w) A (.call (.ref f) ⟨us, ks.zip ws⟩) (CR (L2.CX P w) fr P w H s Q E) s
theorem ClK.mono {P : Program} {w : World} {K : PySem.W.Frag} {mg : Str → Option Value} {base : Heap} {G : Sg} {j k c m : Nat} {ks : List Str} {sem : List D → M D} (F : ClK P w K mg base G j c m ks sem) (h : j ≤ k) : ClK P w K mg base G k c m ks sem :=
  ⟨let ⟨f, M, g⟩ := F.ex; ⟨f, M, fun A fr s H us ws vs zs Q E hr => g A fr s H us ws vs zs Q E (hr.mono h)⟩⟩
section
variable {P : Program} {w : World} {K : PySem.W.Frag} {mg : Str → Option Value} {base : Heap} {G : Sg} {k c m : Nat} {f : Addr} {x qual : Str} {st : Stmt} {fd : FuncData} {N ps ks : List Str} {ms : MS} {ix : List Nat}
theorem perm_self {α : Type} (a : α) (l : List α) (ix : List Nat) : perm (0 :: ix.map (· + 1)) (a :: l) = a :: perm ix l := by
  unfold perm
  rw [List.filterMap_cons]
  simp only [List.getElem?_cons_zero, List.filterMap_map]
  congr 1
theorem clk_rule (F : Fun K x qual st f fd) (SC : FnScope N ps (defScope st)) (hb : KwBinds st x qual ps ks (m + 1) (0 :: ix.map (· + 1))) (cK : G.K = K) (B : Body P w K mg base G k f N qual st ms) (M : Mk K (G.ca c) f) {a n : Nat} (em : ps.length = a) (en : N.length = n) (hmn : a ≤ n) :
    ClK P w K mg base G (k + 2) c m ks (fun ds => mkFn c a n ms (perm ix ds)) := by
  refine ⟨f, M, fun A fr s H us ws vs zs Q E hr e0 r r2 l1 l2 h => fnk_run F SC hb cK B hr e0 r r2 l1 l2 ?_⟩
  obtain ⟨b, dx, vs', H, Q, e, rfl, ha, hdx, ne, rfl, wd, ds, S, eH, rs, rv, q⟩ := h
  subst em en eH
  rw [e, perm_self]
  obtain ⟨w1, e1, ex, s1, nF, nm⟩ := made (C := G.ca c) rs ha hdx ne
  have rp := reps_perm rv ix
  have q : FinG G (RepV G) E wd Q (mkFn c ps.length N.length ms (perm ix ds) S) := q
  unfold mkFn at q
  split at q
  · next el =>
    refine ⟨by rw [List.length_cons, ← rp.length]; exact el, ?_⟩
    rw [← e1]
    exact fin_mk ex s1 (RepVs.mono ex rs.dj _ _ rp) (by omega) (by rw [e1, upd_same]) nF nm ha q
  · exact q.elim
end
section
variable {G : Sg} {X : Cx} {W : WX} {k n m j c : Nat} {f C : Addr} {sem : List D → M D} {x y mm : Str} {p pos apos kpos : Pos} {e o fe : Expr} {es : List Expr} {kws : List Keyword} {ks : List Str} {fa fk : List SV → M (List D)} {ff g : List SV → M D} {σ : L2.St}
theorem ClK.call (cx : Ctx G X W k) (F : ClK X.prog X.w X.K X.mg X.base G k c m ks sem) : CallK G X W (G.ca c) m ks sem := by
  obtain ⟨f, M, g⟩ := F.ex
  refine ⟨M.kp, fun pins σ H s Q us ws vs zs I r r2 l1 l2 h => ?_⟩
  have J := Inv.made (C := G.ca c) I
  have body := g _ X.stack _ _ (Value.ref (s.heap.objs.size + 1) :: us) ws (V.ref (s.heap.objs.size + 1) :: vs) zs _ _ (cx.rm.make (G.ca c) us (ks.zip ws)) (J.env0.make (G.ca c) us (ks.zip ws)) (.cons rfl r) r2 (by rw [List.length_cons, l1]) l2
    ⟨_, _, vs ++ zs, H, Q, rfl, rfl, I.hok.fresh (Nat.le_succ _), I.hok.fresh (Nat.le_refl _), Nat.ne_of_lt (Nat.lt_succ_self s.heap.objs.size), rfl, h⟩
  refine wpAny_call (make_map (f := f) I.kIn M.makes M.init (beq_iff_eq.mp M.fn) (codeAny_mono body ?_))
  rintro (er | fl) s' got
  · exact cx.px σ pins _ _ er s' J got
  · cases fl with
    | ret u =>
      obtain ⟨v, H', J2, rv, rfl, q3⟩ := J.after got
      exact ⟨rv, V.ref (s.heap.objs.size + 1), H', J2, rfl, q3⟩
    | next => exact got.elim
    | brk => exact got.elim
    | cont => exact got.elim
structure MethKT (X : Cx) (G : Sg) (k : Nat) (mm : Str) (m : Nat) (ks : List Str) (tbl : Nat → Option (List D → M D)) : Prop where
  at_ : ∀ c g, tbl c = some g → ∃ f, Cls X.K (G.ca c) ∧ Meth X.K (G.ca c) mm f ∧ FnKX X G k f (m + 1) ks g ∧ mm ∉ G.fn c
theorem methk_tree {env : Env} {m : Str} {args : List Expr} (hb : plainBase o = true) (hs : args.all notStar = true) (hall : (backToKw pos (keywordEach kws env)).all (·.1.isSome) = true) (hl : args.length + kws.length + 1 < 30) (hp : (apos.endLine == pos.line) = true) :
    eval (.Call (.Attribute o m apos) args kws pos) env = (do
      let ov ← eval o env
      standAt apos.atName
      let (f, first) ← holding [ov] (getMethod ov m (do return (← importBound o env).getD true))
      callWith pos f first (backTo pos (starEach args env)) (backToKw pos (keywordEach kws env))) := by
  have e1 : eval (.Call (.Attribute o m apos) args kws pos) env = (do
      let ov ← attributeBase o m env (eval o env)
      standAt apos.atName
      methodCall o m apos pos env ov (args.length + kws.length) (backTo pos (starEach args env)) (backToKw pos (keywordEach kws env))) := rfl
  have few : methodCallForm (args.length + kws.length) (backTo pos (starEach args env)) (backToKw pos (keywordEach kws env)) = true := by
    unfold methodCallForm
    rw [star_form hs, hall]
    show (true && true && decide (args.length + kws.length + (if (backToKw pos (keywordEach kws env)).isEmpty then 0 else 1) < 30)) = true
    rw [decide_eq_true (by split <;> omega)]
    rfl
  rw [e1, attr_base hb]
  unfold methodCall
  rw [few]
  have mp : methodCallPos true o env apos pos = (pure pos : Sem Pos) := by
    unfold methodCallPos
    rw [hp]
    rfl
  rw [mp]
  rfl
theorem v_methK0 {tbl : Nat → Option (List D → M D)} {fo : List SV → M D} (c : Ctx G X W k) (T : MethKT X G k mm 0 ks tbl) (ho : PV G X W o fo) (hk : PKn G X W j kws fk) (hj : j = ks.length) (hb : plainBase o = true) (hl : kws.length + 1 < 30) (hp : (apos.endLine == pos.line) = true)
    (hall : (backToKw pos (keywordEach kws X.env)).all (·.1.isSome) = true) (hks : (backToKw pos (keywordEach kws X.env)).filterMap (·.1) = ks) :
    PV G X W (.Call (.Attribute o mm apos) [] kws pos) (fun sd => M.bind (fo sd) fun d => M.bind (pick tbl d) fun g => M.bind (fk sd) fun ds => g (d :: ds)) := by
  constructor
  intro pins s σ H Q I ⟨w0, w, sd, S, eH, r, q⟩
  refine PySem.W.methodCall_KW (thn (ho.run pins s σ H (fun v H1 => ∃ w1 S1 d c g a dx vs, w1.H = H1 ∧ R G w0 w1 sd S1 σ ∧ RepV G w1 d v ∧ tbl c = some g ∧ v = .ref a ∧ w1.H a = some (.ins (G.ca c) dx ((G.fn c).zip vs)) ∧
      FinG G (RepV G) (fun c x H => W c x σ H) w1 Q (M.bind (fk sd) (fun ds => g (d :: ds)) S1)) I ?_) ?_) (methk_tree hb rfl hall (by simpa using hl) hp)
  · refine ⟨w0, w, sd, S, eH, r, fin_step q fun w1 S1 d v e1 s1 rv q1 => ?_⟩
    obtain ⟨c', g, ht, q2, _, a, dx, vs, ev, hv⟩ := pick_fin s1 rv q1
    exact ⟨w1, S1, d, c', g, a, dx, vs, rfl, r.step e1 s1, rv, ht, ev, hv, q2⟩
  · rintro u s1 ⟨v, H1, I1, rv, w1, S1, d, c', g, a, dx, vs, eH1, r1, rd, ht, ev, hv, q1⟩
    subst eH1 ev
    obtain rfl : u = Value.ref a := rv
    obtain ⟨f, cl, hm, F, nf⟩ := T.at_ c' g ht
    refine getmeth_ok I1 hv cl hm (lookup_zip_none nf) ?_
    refine PySem.W.callWith_KW0 (first := [.ref a]) (h₀ := X.base) I.ok.mod.kin hm.kp hall (thn (hk.run pos pins s1 σ w1.H (fun zs H2 => zs.length = ks.length ∧ spV G g ([V.ref a] ++ zs) H2 Q (WE W σ)) I1 ?_) ?_) (by rw [kw_names hall]; rfl)
    · refine ⟨w0, w1, sd, S1, rfl, r1, fin_step q1 fun w2 S2 ds xs e2 s2 rx q2 => ?_⟩
      exact ⟨rx.2.trans hj, w2, d :: ds, S2, rfl, s2, ⟨_, _, rfl, RepV.mono e2 r1.st.dj _ _ rd, rx.1⟩, q2⟩
    · rintro ws s2 ⟨zs, H2, I2, rz, lz, q2⟩
      refine ⟨I2.kIn, ?_⟩
      rw [hks]
      exact after_call (a := ⟨[.ref a], ks.zip ws⟩) c I2 (F.run X.A X.stack s2 H2 [.ref a] ws [.ref a] zs Q (WE W σ) c.rm0 I2.env0 (.cons rfl .nil) rz rfl lz q2)
theorem v_methK {tbl : Nat → Option (List D → M D)} {fo : List SV → M D} (c : Ctx G X W k) (T : MethKT X G k mm n ks tbl) (ho : PV G X W o fo) (ha : PLn G X W n (e :: es) fa) (hk : PKn G X W j kws fk) (hj : j = ks.length) (hs : (e :: es).all notStar = true) (hb : plainBase o = true) (hl : (e :: es).length + kws.length + 1 < 30) (hp : (apos.endLine == pos.line) = true)
    (hall : (backToKw pos (keywordEach kws X.env)).all (·.1.isSome) = true) (hks : (backToKw pos (keywordEach kws X.env)).filterMap (·.1) = ks) :
    PV G X W (.Call (.Attribute o mm apos) (e :: es) kws pos) (fun sd => M.bind (fo sd) fun d => M.bind (pick tbl d) fun g => M.bind (both fa fk sd) fun ds => g (d :: ds)) := by
  constructor
  intro pins s σ H Q I ⟨w0, w, sd, S, eH, r, q⟩
  have hs2 : notStar e = true ∧ es.all notStar = true := by simpa using hs
  refine PySem.W.methodCall_KW (thn (ho.run pins s σ H (fun v H1 => ∃ w1 S1 d c g a dx vs, w1.H = H1 ∧ R G w0 w1 sd S1 σ ∧ RepV G w1 d v ∧ tbl c = some g ∧ v = .ref a ∧ w1.H a = some (.ins (G.ca c) dx ((G.fn c).zip vs)) ∧
      FinG G (RepV G) (fun c x H => W c x σ H) w1 Q (M.bind (M.bind (fa sd) fun ds => M.bind (fk sd) fun es => M.pure (ds ++ es)) (fun ds => g (d :: ds)) S1)) I ?_) ?_) (methk_tree hb hs hall hl hp)
  · refine ⟨w0, w, sd, S, eH, r, fin_step q fun w1 S1 d v e1 s1 rv q1 => ?_⟩
    obtain ⟨c', g, ht, q2, _, a, dx, vs, ev, hv⟩ := pick_fin s1 rv q1
    exact ⟨w1, S1, d, c', g, a, dx, vs, rfl, r.step e1 s1, rv, ht, ev, hv, q2⟩
  · rintro u s1 ⟨v, H1, I1, rv, w1, S1, d, c', g, a, dx, vs, eH1, r1, rd, ht, ev, hv, q1⟩
    subst eH1 ev
    rw [M.bind_assoc] at q1
    obtain rfl : u = Value.ref a := rv
    obtain ⟨f, cl, hm, F, nf⟩ := T.at_ c' g ht
    refine getmeth_ok I1 hv cl hm (lookup_zip_none nf) ?_
    refine PySem.W.callWith_KW (first := [.ref a]) (h₀ := X.base) I.ok.mod.kin hm.kp hall (thn (ha.run pos pins s1 σ w1.H (fun xs H2 => xs.length = n ∧ ∃ w2 S2 ds, w2.H = H2 ∧ R G w0 w2 sd S2 σ ∧ RepV G w2 d (.ref a) ∧ RepVs G w2 ds xs ∧
        FinG G (RepV G) (fun c x H => W c x σ H) w2 Q (M.bind (M.bind (fk sd) fun es => M.pure (ds ++ es)) (fun ds => g (d :: ds)) S2)) I1 ?_) ?_) (by rw [starEach_all hs pos, kw_names hall]; rfl) (starEach_cons hs2.1)
    · exact ⟨w0, w1, sd, S1, rfl, r1, fin_step q1 fun w2 S2 ds xs e2 s2 rx q2 => ⟨rx.2, w2, S2, ds, rfl, r1.step e2 s2, RepV.mono e2 r1.st.dj _ _ rd, rx.1, q2⟩⟩
    · rintro us s2 ⟨xs, H2, I2, rx, lx, w2, S2, ds, rfl, r2, rd2, rds, q2⟩
      rw [M.bind_assoc] at q2
      refine thn (hk.run pos pins s2 σ w2.H (fun zs H3 => zs.length = ks.length ∧ spV G g ((V.ref a :: xs) ++ zs) H3 Q (WE W σ)) I2 ?_) ?_
      · refine ⟨w0, w2, sd, S2, rfl, r2, fin_step q2 fun w3 S3 es zs e3 s3 rz q3 => ?_⟩
        exact ⟨rz.2.trans hj, w3, d :: (ds ++ es), S3, rfl, s3, ⟨_, _, rfl, RepV.mono e3 r2.st.dj _ _ rd2, RepVs.append (RepVs.mono e3 r2.st.dj _ _ rds) rz.1⟩, q3⟩
      · rintro ws s3 ⟨zs, H3, I3, rz, lz, q3⟩
        refine ⟨I3.kIn, ?_⟩
        rw [hks]
        exact after_call (a := ⟨.ref a :: us, ks.zip ws⟩) c I3 (F.run X.A X.stack s3 H3 (.ref a :: us) ws (.ref a :: xs) zs Q (WE W σ) c.rm0 I3.env0 (.cons rfl rx) rz (by rw [List.length_cons, lx]) lz q3)
end
end Ev
set_option maxRecDepth 100000
set_option maxHeartbeats 2000000
namespace Ev
open PySem PySem.Spec PyProof.Rows L2
section
variable {G : Sg} {X : Cx} {W : WX} {k j : Nat} {f : Addr} {sem : List D → M D} {σ : L2.St}
theorem run_text {A : Around} {pins : List (Addr × Obj)} {H : Hp} {s : Shared} {Q : VK} {E' : Value → Shared → Prop} {us : List Value} {vs : List V} (hr : Rm j A) (e0 : Env0 X.prog X.w X.K X.mg X.base A X.stack s H) (F : FnX X G j f sem) (I : Inv X pins σ H s) (r : Vals vs us)
    (h : spV G sem vs H (fun z H' => (∃ y, z = .str y) ∧ Q z H') (fun _ _ _ => False)) : wpAny (model X.prog X.w) A (call (.ref f) us) (PySem.W.StrBack (EP X pins σ Q)) E' s := by
  have body := F.run A X.stack s H us vs _ (fun _ _ _ => False) hr e0 r h
  refine wpAny_call (codeAny_mono body ?_)
  intro res s' hq
  rcases res with er | fl
  · obtain ⟨_, _, _, _, _, _, _, _, _, _, _, _, z⟩ := hq
    exact z.elim
  · cases fl with
    | ret u =>
      obtain ⟨z, H', I3, rz, ⟨y, rfl⟩, hQ⟩ := I.after hq
      obtain ⟨t, rfl⟩ := (show ∃ t, u = Value.str y t from rz)
      exact ⟨.str y, H', I3, ⟨t, rfl⟩, hQ⟩
    | next => exact hq.elim
    | brk => exact hq.elim
    | cont => exact hq.elim
structure TxT (X : Cx) (G : Sg) (j : Nat) (nm : Str) (tbl : Nat → Option (List D → M D)) : Prop where
  at_ : ∀ c g, tbl c = some g → ∃ f, PySem.W.findIn X.K (.ref (G.ca c)) nm = some (some (.ref f)) ∧ PySem.W.isFn X.K (.ref f) = true ∧ PySem.W.findIn X.K (.ref (G.ca c)) "__format__" = some (some (.builtin "object.__format__")) ∧
    PySem.W.mroIn X.K (G.ca c) (.type "object") = some true ∧ FnX X G j f g
def ownTx (tbl : Nat → Option (List D → M D)) (d : D) : M D := M.bind (pick tbl d) fun g => M.bind (noErr (g [d])) fun r => M.bind (isStr r) fun y => M.pure (.str y)
theorem ownTx_sp {nm : Str} {tbl : Nat → Option (List D → M D)} {w : Wd} {S : List Ob} {d : D} {v : V} {Q : VK} {Wx : Value → Option Addr → Hp → Prop} (T : TxT X G j nm tbl) (st : RepS G w S) (rd : RepV G w d v) (q : FinG G (RepV G) Wx w Q (ownTx tbl d S)) :
    ∃ c a dx fs f g, v = .ref a ∧ w.H a = some (.ins (G.ca c) dx fs) ∧ PySem.W.findIn X.K (.ref (G.ca c)) nm = some (some (.ref f)) ∧ PySem.W.isFn X.K (.ref f) = true ∧ PySem.W.findIn X.K (.ref (G.ca c)) "__format__" = some (some (.builtin "object.__format__")) ∧
      PySem.W.mroIn X.K (G.ca c) (.type "object") = some true ∧ FnX X G j f g ∧ spV G g [.ref a] w.H (fun z H' => (∃ y, z = .str y) ∧ Q z H') (fun _ _ _ => False) := by
  unfold ownTx at q
  obtain ⟨cc, g, tg, q3, hc1, a1, dx1, fs1, rfl, hb1⟩ := pick_fin st rd q
  obtain ⟨f, h1, h2, h3, h4, F⟩ := T.at_ cc g tg
  refine ⟨cc, a1, dx1, _, f, g, rfl, hb1, h1, h2, h3, h4, F, w, [d], S, rfl, st, ⟨_, _, rfl, rd, rfl⟩, ?_⟩
  unfold M.bind noErr at q3
  rcases hg : g [d] S with _ | ⟨_ | r, S3⟩
  · rw [hg] at q3; exact q3.elim
  · rw [hg] at q3; exact q3.elim
  · rw [hg] at q3
    intro w' z e s3 rz
    cases r with
    | str y =>
      cases (show z = .str y from rz)
      exact ⟨⟨y, rfl⟩, q3 w' _ e s3 rfl⟩
    | _ => exact q3.elim
def strX (tbl : Nat → Option (List D → M D)) (d : D) : M D := if isObj d = true then ownTx tbl d else dStr d
theorem c_strX {tbl : Nat → Option (List D → M D)} (c : Ctx G X W k) (hj : j + 1 ≤ k) (T : TxT X G j "__str__" tbl) : CallR X (.type "str") (rDs G (on1 (strX tbl))) := by
  intro pins s σ H xs us Q I rx h
  obtain ⟨Wx, w, S, d, v, rfl, st, rfl, r, q⟩ := on1_of h
  unfold strX at q
  by_cases ho : isObj d = true
  · rw [if_pos ho] at q
    obtain ⟨cc, a, dx, fs, f, g, rfl, ha, h1, h2, _, _, F, sp⟩ := ownTx_sp T st r q
    obtain ⟨u, rfl, ru⟩ := rx.one
    cases (show u = Value.ref a from ru)
    obtain ⟨m1, O1, _⟩ := ins_get I.hok ha
    obtain ⟨od1, J1, _⟩ := O1.look
    have r2 : Rm j X.A.in1.in1 := ((c.rm.mono (show j + 2 ≤ k + 1 by omega)).in1).in1
    exact PySem.W.kso_call r2.room.units0 I.kIn J1 h1 h2 (run_text (us := [.ref a]) (vs := [.ref a]) r2 I.env0.in1.in1 F I (.cons rfl .nil) sp)
  · rw [if_neg ho] at q
    exact c_str pins s σ w.H _ us Q I rx ⟨Wx, w, S, [d], rfl, st, ⟨_, _, rfl, r, rfl⟩, q⟩
def reprX (tbl : Nat → Option (List D → M D)) (d : D) : M D := if isObj d = true then ownTx tbl d else dRepr d
theorem c_reprX {tbl : Nat → Option (List D → M D)} (c : Ctx G X W k) (T : TxT X G k "__repr__" tbl) : CallR X (.builtin "repr") (rDs G (on1 (reprX tbl))) := by
  intro pins s σ H xs us Q I rx h
  obtain ⟨Wx, w, S, d, v, rfl, st, rfl, r, q⟩ := on1_of h
  unfold reprX at q
  by_cases ho : isObj d = true
  · rw [if_pos ho] at q
    obtain ⟨cc, a, dx, fs, f, g, rfl, ha, h1, h2, _, _, F, sp⟩ := ownTx_sp T st r q
    obtain ⟨u, rfl, ru⟩ := rx.one
    cases (show u = Value.ref a from ru)
    obtain ⟨m1, O1, _⟩ := ins_get I.hok ha
    obtain ⟨od1, J1, _⟩ := O1.look
    obtain ⟨m, hF⟩ := I.fr
    exact PySem.W.repr_K (c.rm.in1).room.units0 hF I.ok.mod.kin J1 h1 h2 (run_text (us := [.ref a]) (vs := [.ref a]) c.rm.in1 I.env0.in1 F I (.cons rfl .nil) sp)
  · rw [if_neg ho] at q
    exact c_repr c.cK c.rm pins s σ w.H _ us Q I rx ⟨Wx, w, S, [d], rfl, st, ⟨_, _, rfl, r, rfl⟩, q⟩
def fmtX (tbl : Nat → Option (List D → M D)) (d : D) : M D := if isObj d = true then ownTx tbl d else dFmt d
theorem v_fmtX {e : Expr} {fe : List SV → M D} {pos : Pos} {tbl : Nat → Option (List D → M D)} (c : Ctx G X W k) (T : TxT X G k "__str__" tbl) (he : PV G X W e fe) : PV G X W (.FormattedValue e (-1) none pos) (fun sd => M.bind (fe sd) (fmtX tbl)) := by
  constructor
  intro pins s σ H Q I ⟨w0, w, sd, S, eH, r, q⟩
  refine wpAny_FormattedValue_plain (thn (he.run pins s σ H (fun v H1 => ∃ w1 S1 d, w1.H = H1 ∧ RepS G w1 S1 ∧ RepV G w1 d v ∧ FinG G (RepV G) (fun c x H => W c x σ H) w1 Q (fmtX tbl d S1)) I ?_) ?_)
  · exact ⟨w0, w, sd, S, eH, r, fin_step q fun w1 S1 d v e1 s1 rv q1 => ⟨w1, S1, d, rfl, s1, rv, q1⟩⟩
  · rintro u s1 ⟨v, H1, I1, rv, w1, S1, d, rfl, st, rd, q1⟩
    unfold fmtX at q1
    by_cases ho : isObj d = true
    · rw [if_pos ho] at q1
      obtain ⟨cc, a, dx, fs, f, g, rfl, ha, h1, h2, h3, h4, F, sp⟩ := ownTx_sp T st rd q1
      cases (show u = Value.ref a from rv)
      obtain ⟨m1, O1, _⟩ := ins_get I1.hok ha
      obtain ⟨od1, J1, _⟩ := O1.look
      have I2 := I1.tok (s1.toks + 1)
      exact PySem.W.kfo_fieldS (c.rm.in1).room.units0 I1.kIn J1 h3 h4 h1 h2 (run_text (us := [.ref a]) (vs := [.ref a]) c.rm.in1 I2.env0.in1 F I2 (.cons rfl .nil) sp)
    · rw [if_neg ho] at q1
      cases d with
      | str x =>
        obtain ⟨cc, q2⟩ := FinG.ite q1
        cases (show v = .str x from rd)
        obtain ⟨t, rfl⟩ := (show ∃ t, u = Value.str x t from rv)
        have hQ : Q (.str x) w1.H := fin_pure q2 st rfl
        exact wpAny_formatField_str ⟨.str x, w1.H, I1, ⟨t, rfl⟩, hQ⟩ ⟨.str x, w1.H, I1.tok _, ⟨_, rfl⟩, hQ⟩ (by rw [← lim_eq]; exact cc)
      | int i =>
        obtain ⟨cc, q2⟩ := FinG.ite q1
        cases (show v = .int i from rd)
        obtain ⟨t, rfl⟩ := (show ∃ t, u = Value.int i t from rv)
        have hQ : Q (.str (toString i)) w1.H := fin_pure q2 st rfl
        exact wpAny_formatField_int (of_decide_eq_true cc) ⟨.str (toString i), w1.H, I1.tok _, ⟨_, rfl⟩, hQ⟩
      | _ => exact q1.elim
end
end Ev
set_option maxRecDepth 100000
set_option maxHeartbeats 2000000
namespace Ev
open PySem PySem.Spec PyProof.Rows L2 PySem.W NdefX
structure PSsA (X : Cx) (c : Code) (st : List Stmt) (t : TS) : Prop where
  run : ∀ (pins : List (Addr × Obj)) (s : Shared) (σ : L2.St) (H : Hp) (D : Ends), Inv X pins σ H s → t D σ H → _root_.PySem.wpAt (model X.prog X.w) X.A c (execs st X.env) (SP X pins D) X.xe s
structure PSA (X : Cx) (c : Code) (st : Stmt) (t : TS) : Prop where
  run : ∀ (pins : List (Addr × Obj)) (s : Shared) (σ : L2.St) (H : Hp) (D : Ends), Inv X pins σ H s → t D σ H → _root_.PySem.wpAt (model X.prog X.w) X.A c (exec st X.env) (SP X pins D) X.xe s
abbrev PSsAV (G : Sg) (X : Cx) (W : WX) (c : Code) (st : List Stmt) (f : MS) : Prop := PSsA X c st (tsV G W f)
abbrev PSAV (G : Sg) (X : Cx) (W : WX) (c : Code) (st : Stmt) (f : MS) : Prop := PSA X c st (tsV G W f)
section
variable {G : Sg} {X : Cx} {W : WX} {k : Nat} {c : Code} {st : Stmt} {rest sts : List Stmt} {f g : MS}
theorem sa_of (h : PSsV G X W sts f) : PSsAV G X W c sts f := ⟨fun pins s σ H D I q => wpAt_of_wpAny (h.run pins s σ H D I q)⟩
theorem sa_st (h : PSV G X W st f) : PSAV G X W c st f := ⟨fun pins s σ H D I q => wpAt_of_wpAny (h.run pins s σ H D I q)⟩
theorem sa_seq {t u : TS} (h1 : PSA X c st t) (h2 : PSsA X c rest u) : PSsA X c (st :: rest) (tSeq t u) := by
  refine ⟨fun pins s σ H D I h => ?_⟩
  refine ks_wpAt_execs_cons (ks_wpAt_mono (h1.run pins s σ H { D with nx := u D } I h) (fun fl s1 q => ?_) fun _ _ x => x)
  cases fl with
  | next =>
    obtain ⟨σ', H', I', q⟩ := q
    exact h2.run pins s1 σ' H' D I' q
  | ret v => exact q
  | brk => exact q
  | cont => exact q
theorem sa_cons (h1 : PSAV G X W c st f) (h2 : PSsAV G X W c rest g) : PSsAV G X W c (st :: rest) (seqS f g) := by
  refine ⟨fun pins s σ H D I h => (sa_seq h1 h2).run pins s σ H D I ?_⟩
  obtain ⟨w0, w, sd, S, e, r, q⟩ := h
  refine ⟨w0, w, sd, S, e, r, ?_⟩
  unfold seqS at q
  rcases hf : f sd S with _ | ⟨_ | _ | _ | _ | _, S1⟩
  · rw [hf] at q; exact q
  · rw [hf] at q
    exact fun w' σ' s r' => ⟨w0, w', _, S1, rfl, r', FinS.stay s q⟩
  · rw [hf] at q; exact q
  · rw [hf] at q; exact q
  · rw [hf] at q; exact q
  · rw [hf] at q; exact q
end
theorem FnS.mono {P : Program} {w : World} {K : Frag} {mg : Str → Option Value} {base : Heap} {j k : Nat} {f : Addr} {sp : Sp} (F : FnS P w K mg base j f sp) (h : j ≤ k) : FnS P w K mg base k f sp := fun A fr s H us vs Q E hr => F A fr s H us vs Q E (hr.mono h)
structure Sup (P : Program) (K : PySem.W.Frag) (name qual : Str) (st : Stmt) (f cc cda Dc C f2 : Addr) : Prop where
  fu : ∃ (oc : Value) (od : Option Addr) (kV doc pm : Value) (an : Option Addr) (ct : Value) (osl : Array (Option Value)), K.lookup f = some ⟨oc, od, .func (fnX name qual (defArgs st) (defBody st) (defScope st) [("__class__", cc)] .none kV doc pm an (.ref cda) ct), osl⟩
  cd : codeIn K (.ref cda) qual = true
  kp : keepIn K (.ref f) = true
  cell : ∃ (cl : Value) (cld : Option Addr) (csl : Array (Option Value)), K.lookup cc = some ⟨cl, cld, .cell (some (.ref Dc)), csl⟩
  code : ∃ (ccl : Value) (cdd : Option Addr) (vs : Array Value) (ccs : Array (Option Value)) (file : Str) (tf : Tok), K.lookup cda = some ⟨ccl, cdd, .fields vs, ccs⟩ ∧ vs[2]? = some (.str file tf) ∧ ((P.main.file : Str) == file) = true
  cls : ∃ cdD, clsIn K Dc = some cdD
  sub : mroIn K C (.ref Dc) = some true
  sup : ks_superIn K C Dc "__init__" = some (some (.ref f2))
  ty : typeIn K (.ref f2) = some (.type "function")
  fi : fnIn K f2 = true
  op : nsIn K cStatics "thirdparty.any" = some none
  top : (P.main.scope.names.lookup ("super" : Str)).isSome = false
def notOwn : SV → Bool
  | .own _ => false
  | _ => true
def supS (c0 m2 n2 : Nat) (ms2 : MS) (fa : List SV → M (List D)) : Ev.MS := fun (sd : List Ev.SV) (S : List Ev.Ob) => match (sd[0]? : Option Ev.SV) with
  | some (Ev.SV.own (Ev.Ob.ins c es)) => if c = c0 ∧ (sd.drop 1).all notOwn = true then exS fa (fun ds sd S => if ds.length + 1 = m2 then match ms2 (slots n2 (.own (.ins c es) :: ds.map .val)) S with
      | some (.next sd', S') => match (sd'[0]? : Option Ev.SV) with
        | some (Ev.SV.own o') => some (.next (sd.set 0 (.own o')), S')
        | _ => none
      | _ => none
    else none) sd S else none
  | _ => none
theorem no_own {sd : List Ev.SV} {i : Nat} {o : Ev.Ob} (h : (sd.drop 1).all notOwn = true) (hi : i ≠ 0) : sd[i]? ≠ some (Ev.SV.own o) := fun z => by
  obtain ⟨j, rfl⟩ : ∃ j, i = j + 1 := ⟨i - 1, by omega⟩
  have m : Ev.SV.own o ∈ sd.drop 1 := by
    refine List.mem_of_getElem? (i := j) ?_
    rw [List.getElem?_drop, Nat.add_comm]
    exact z
  have := List.all_eq_true.mp h _ m
  cases this
theorem R.enterO {G : Sg} {wd w1 : Wd} {N : List Str} {ds : List D} {vs : List V} {S : List Ob} {a : Addr} {o : Ob} (e : Ext wd w1) (s : RepS G w1 S) (r : RepVs G w1 ds vs) (h : ds.length + 1 ≤ N.length) (ha : RepO G w1 a o) (nF : ¬ w1.F a) (nm : a ∉ w1.m) (n0 : wd.H a = none) :
    R G { wd with x := some a } w1 (slots N.length (.own o :: ds.map .val)) S (L2.start N (V.ref a :: vs)) := by
  have hd : ∀ {i : Nat} {y : SV}, (slots N.length (SV.own o :: ds.map .val))[i]? = some y → (i = 0 ∧ y = .own o) ∨ (∃ j, i = j + 1 ∧ (slots (N.length - 1) (ds.map SV.val))[j]? = some y) := fun {i y} z => by
    cases i with
    | zero =>
      refine .inl ⟨rfl, ?_⟩
      unfold slots at z
      simp at z
      exact z.symm
    | succ j =>
      refine .inr ⟨j, rfl, ?_⟩
      unfold slots at z ⊢
      have e1 : N.length - (SV.own o :: ds.map SV.val).length = N.length - 1 - (ds.map SV.val).length := by
        rw [List.length_cons]
        omega
      rw [e1, List.cons_append, List.getElem?_cons_succ] at z
      exact z
  have s0 : (L2.start N (V.ref a :: vs))[0]? = some (some (V.ref a)) := start_get rfl
  refine ⟨⟨e.m, e.F, e.H, e.nm, e.nF, e.al⟩, s, ?_, fun i d z => ?_, fun i o z => ?_, fun i j o o' b z1 z2 _ _ => ?_, fun b o eb z => ?_⟩
  · have l : vs.length = ds.length := r.length.symm
    rw [start_len (by rw [List.length_cons, l]; exact h), slots_len (by rw [List.length_cons, List.length_map]; exact h)]
  · rcases hd z with ⟨_, e2⟩ | ⟨j, rfl, z2⟩
    · cases e2
    · obtain ⟨v, h1, h2⟩ := r.get (slots_val z2)
      exact ⟨v, start_get (by rw [List.getElem?_cons_succ]; exact h1), h2⟩
  · rcases hd z with ⟨rfl, e2⟩ | ⟨j, rfl, z2⟩
    · cases e2
      exact ⟨a, s0, ha, nF, nm, n0⟩
    · exact (slots_own z2).elim
  · rcases hd z1 with ⟨e1, _⟩ | ⟨j1, _, z1⟩
    · rcases hd z2 with ⟨e2, _⟩ | ⟨j2, _, z2⟩
      · rw [e1, e2]
      · exact (slots_own z2).elim
    · exact (slots_own z1).elim
  · cases eb
    exact s0
abbrev nfOf (name qual : Str) (st : Stmt) (cc cda : Addr) : NF := ⟨name, qual, defArgs st, defBody st, defScope st, [("__class__", cc)], cda⟩
section
variable {G : Sg} {X : Cx} {W : WX} {k n : Nat} {body : List Stmt} {name qual self : Str} {st : Stmt} {f cc cda Dc C f2 : Addr} {p0 p1 apos pos pos2 : Pos} {e : Expr} {es : List Expr} {fa : List SV → M (List D)}
theorem s_super {c0 m2 n2 : Nat} {N2 ps2 : List Str} {ms2 : MS} {L : Addr} {ar : Arg} {ars : List Arg} (c : Ctx G X W k) (U : Sup X.prog X.K name qual st f cc cda Dc (G.ca c0) f2) (he : X.env = envF (nfOf name qual st cc cda) f L)
    (B2 : FnS X.prog X.w X.K X.mg X.base k f2 (fun vs H Q E => vs.length = ps2.length ∧ spT G N2 ms2 vs H Q E)) (e2 : ps2.length = m2) (en : N2.length = n2) (hmn : m2 ≤ n2)
    (hm : X.mg "super" = none) (hks : (defScope st).names.lookup ("super" : Str) = some .globalImplicit) (hkc : (defScope st).names.lookup ("__class__" : Str) = some .free) (hp : (defArgs st).posonlyargs ++ (defArgs st).args = ar :: ars) (hka : (defScope st).names.lookup ar.arg = some .local) (h0 : X.N[0]? = some ar.arg)
    (ha : PLn G X W n (e :: es) fa) (hs : (e :: es).all notStar = true)
    (hi : interactive X.env = false) (hsw : swapsWith (.Call (.Attribute (.Call (.Name "super" p0) [] [] p1) "__init__" apos) (e :: es) [] pos) none pos2.line X.env = pure false)
    (htree : eval (.Call (.Attribute (.Call (.Name "super" p0) [] [] p1) "__init__" apos) (e :: es) [] pos) X.env = (do
      let ov ← attributeBase (.Call (.Name "super" p0) [] [] p1) "__init__" X.env (eval (.Call (.Name "super" p0) [] [] p1) X.env)
      standAt apos.atName
      let (f, first) ← holding [ov] (getMethod ov "__init__" (do return (← importBound (.Call (.Name "super" p0) [] [] p1) X.env).getD true))
      callWith pos f first (backTo pos (starEach (e :: es) X.env)) [])) :
    PSAV G X W (.func body X.env) (.Expr (.Call (.Attribute (.Call (.Name "super" p0) [] [] p1) "__init__" apos) (e :: es) [] pos) pos2) (supS c0 m2 n2 ms2 fa) := by
  have hs2 : notStar e = true ∧ es.all notStar = true := by simpa using hs
  obtain ⟨oc, od, kV, doc, pm, an, ct, osl, hf⟩ := U.fu
  obtain ⟨cl, cld, csl, hcell⟩ := U.cell
  obtain ⟨ccl, cdd, vsC, ccs, file, tf, hcode, hvs, hfile⟩ := U.code
  obtain ⟨cdD, hD⟩ := U.cls
  constructor
  intro pins s σ H En I ⟨w0, w, sd, S, eH, r, q⟩
  subst eH
  unfold supS at q
  rcases hsd : sd[0]? with _ | _ | _ | ⟨_ | _ | ⟨c', es'⟩⟩
  · rw [hsd] at q; exact q.elim
  · rw [hsd] at q; exact q.elim
  · rw [hsd] at q; exact q.elim
  · rw [hsd] at q; exact q.elim
  · rw [hsd] at q; exact q.elim
  rw [hsd] at q
  simp only at q
  split at q
  case isFalse => exact q.elim
  case isTrue hc =>
  obtain ⟨rfl, hno⟩ := hc
  obtain ⟨a, hσ, ho, nF, nm, n0⟩ := r.ow 0 _ hsd
  obtain ⟨dx, vs0, hb, _, _⟩ := id ho
  obtain ⟨m1, O1, _⟩ := ins_get I.hok hb
  obtain ⟨od1, J1, _⟩ := O1.look
  have X1 := I.kIn
  have hk := I.ok.kind
  have kof : ∀ x, X.env.kindOf x = (defScope st).names.lookup x := fun x => by rw [he]; rfl
  obtain ⟨oD, hD1, hD2⟩ : ∃ oD, s.heap.get? Dc = some oD ∧ oD.data = .cls cdD := by
    unfold clsIn at hD
    split at hD
    · rename_i c d cd' sl ho
      cases hD
      exact ⟨_, X1 _ _ ho, rfl⟩
    · cases hD
  refine ks_wpAt_Expr_any (ks_wpAt_MethodCall (pl := (do return (← importBound (.Call (.Name "super" p0) [] [] p1) X.env).getD true)) ?_ htree) hi hsw
  obtain ⟨hh, g, d, t, os⟩ := s
  refine ks_wpAt_super_base (env := X.env) ((kof _).trans hks) ((kof _).trans hkc) rfl (by rw [he]) (X1 _ _ hf) rfl (ar := ar) (by show ((defArgs st).posonlyargs ++ (defArgs st).args).head? = _; rw [hp]; rfl) (by rw [he]) (X1 _ _ hcode) rfl hvs hfile U.top ?_
  obtain ⟨mb, hb1, hb2⟩ := I.mod.blt
  refine ks_loadName_global hk ((kof _).trans hks) (Calls.loadGlobal_builtin (by rw [I.ok.glob]; exact I.mod.glob.keeps I.bk) hm (by rw [I.ok.blt]; exact hb1.keeps I.bk) ((hb2 "super" (by decide)).trans (show bootBuiltins "super" = some (.type "super") by decide +kernel)) ⟨rfl, ?_⟩)
  refine wpAny_loadName_free hk ((kof _).trans hkc) (by rw [he]; rfl) ⟨_, X1 _ _ hcell, rfl⟩ ?_
  obtain ⟨m, hns, hlook⟩ := I.loc
  obtain ⟨u0, ru0, lk0⟩ := hlook 0 ar.arg (.ref a) h0 hσ (.inl ((show X.env.scope.names.lookup ar.arg = (defScope st).names.lookup ar.arg by rw [he]).trans hka))
  cases (show u0 = Value.ref a from ru0)
  have hself : m ar.arg = some (.ref a) := by
    rcases lk0 with ⟨_, z⟩ | ⟨z, _⟩
    · exact z
    · have e1 : X.env.scope.names.lookup ar.arg = some .local := (show X.env.scope.names.lookup ar.arg = (defScope st).names.lookup ar.arg by rw [he]).trans hka
      rcases z with z | z <;> (rw [show X.env.kindOf ar.arg = X.env.scope.names.lookup ar.arg from rfl, e1] at z; cases z)
  refine wpAny_loadName_local hk ((kof _).trans hka) hns hself ?_
  refine ks_wpAny_isType_cls hD1 hD2 ⟨rfl, ?_⟩
  refine ks_wpAny_call_super hD1 hD2 J1.at_ J1.cls (fun c e => ?_) (looks_mroIn X1 U.sub) (fun h' eso k1 => ?_)
  · have := J1.no
    unfold notCls at this
    rw [e] at this
    exact Bool.noConfusion this
  have hsz : hh.objs.size < h'.objs.size := Heap.lt_size eso
  have nq : w.H h'.objs.size = none := I.hok.fresh (Nat.le_of_lt hsz)
  have X2 : X.K.In h' := fun b o z => k1 b o (X1 b o z)
  obtain ⟨cdC, hcC⟩ : ∃ cdC, clsIn X.K (G.ca c') = some cdC := by
    have z := U.sup
    unfold ks_superIn at z
    cases hz : clsIn X.K (G.ca c') with
    | none => rw [hz] at z; cases z
    | some cd => exact ⟨cd, rfl⟩
  have halong : alongIn X.K "__init__" ((cdC.mro.dropWhile (· != .ref Dc)).drop 1) = some (some (.ref f2)) := by
    have z := U.sup
    unfold ks_superIn at z
    rw [hcC] at z
    exact z
  obtain ⟨of, hof, hofc⟩ : ∃ of, h'.get? f2 = some of ∧ of.cls = .type "function" := by
    have ht' : (X.K.lookup f2).map (·.cls) = some (.type "function") := U.ty
    cases z : X.K.lookup f2 with
    | none => rw [z] at ht'; cases ht'
    | some of => rw [z] at ht'; exact ⟨of, X2 _ _ z, Option.some.inj ht'⟩
  refine ks_wpAny_getMethod_super eso (looks_opaque X2 U.op) (l₀ := cdC.mro) (fun A Q E s k q => wpAny_bind ((looks_clsIn X2 hcC) A _ E s k (wpAny_pure q))) rfl X2 halong hof hofc (ks_ne X1 J1 hcC) rfl ?_
  have I1 := I.laid (h' := h'.push (methodObj (.ref f2) (.ref a))) (t' := t + 1) (a := h'.objs.size) (o := .met f2 a) (fun b u z => Heap.get?_push_of_some _ (k1 b u z)) (Nat.le_of_lt hsz)
    (show (h'.push (methodObj (.ref f2) (.ref a))).get? h'.objs.size = some (methodObj (.ref f2) (.ref a)) from Heap.get?_push_size h' rfl)
  have eF := Ext.frz (w := w) (p := h'.objs.size) (o := .met f2 a) nq
  have r1 := r.step eF (r.st.frz nq)
  have hmet : (w.frz h'.objs.size (.met f2 a)).H h'.objs.size = some (.met f2 a) := upd_same
  have nmq : h'.objs.size ∉ (w.frz h'.objs.size (.met f2 a)).m := fun z => r.st.there z nq
  have q1 := FinS.stay (eF.stay r.st.dj) q
  have eargs : starEach (e :: es) X.env = (false, eval e X.env) :: starEach es X.env := starEach_cons hs2.1
  have run := ha.run pos pins _ σ (w.frz h'.objs.size (.met f2 a)).H (fun vs H2 => vs.length = n ∧ ∃ w2 S2 ds, w2.H = H2 ∧ R G w0 w2 sd S2 σ ∧ RepVs G w2 ds vs ∧ w2.H h'.objs.size = some (.met f2 a) ∧
      FinS G W w0 w2 En ((fun ds sd S => if ds.length + 1 = m2 then match ms2 (slots n2 (.own (.ins c' es') :: ds.map .val)) S with
      | some (.next sd', S') => match (sd'[0]? : Option Ev.SV) with
        | some (Ev.SV.own o') => some (.next (sd.set 0 (.own o')), S')
        | _ => none
      | _ => none
    else none : List D → Ev.MS) ds sd S2)) I1 ⟨w0, _, sd, S, rfl, r1, exS_step q1 r1 fun w2 S2 ds vs e2 r2 rv q2 => ⟨rv.2, w2, S2, ds, rfl, r2, rv.1, e2.H _ _ nmq hmet, q2⟩⟩
  rw [eargs] at run ⊢
  refine PySem.W.callWith_of (P := PySem.W.MethP X.K h'.objs.size f2 (.ref a)) (by show ((false || (backTo pos (starEach es X.env)).any (·.1)) || false) = false; rw [starEach_all hs2.2 pos]; rfl) (PySem.W.keeps_M U.fi) (Calls.evalArgs_plain (thn run fun us s2 => ?_))
  rintro ⟨vs, H2, I2, rv, lv, w2, S2, ds, rfl, r2, rds, hmet2, q2⟩
  refine ⟨met_P I2 hmet2, ?_⟩
  dsimp only at q2
  split at q2
  case isFalse => exact q2.elim
  case isTrue hl =>
  obtain ⟨a2, hσ2, ho2, nF2, nm2, _⟩ := r2.ow 0 _ hsd
  rw [hσ] at hσ2
  cases hσ2
  have hlen : ds.length + 1 ≤ N2.length := by rw [en, hl]; exact hmn
  have start := R.enterO (N := N2) r2.ex r2.st rds hlen ho2 nF2 nm2 n0
  rw [en] at start
  rcases hms : ms2 (slots n2 (.own (.ins c' es') :: ds.map .val)) S2 with _ | ⟨sd' | _ | _ | _ | _, S3⟩
  · rw [hms] at q2; exact q2.elim
  · rw [hms] at q2
    simp only at q2
    rcases hsd' : sd'[0]? with _ | _ | _ | o'
    · rw [hsd'] at q2; exact q2.elim
    · rw [hsd'] at q2; exact q2.elim
    · rw [hsd'] at q2; exact q2.elim
    rw [hsd'] at q2
    simp only at q2
    have want : (V.ref a :: vs).length = ps2.length ∧ spT G N2 ms2 (V.ref a :: vs) w2.H (fun v H3 => v = .non ∧ ∃ w3, w3.H = H3 ∧ Stay w2 w3 ∧ RepS G w3 S3 ∧ Ext w0 w3 ∧ RepO G w3 a o' ∧ ¬ w3.F a ∧ a ∉ w3.m) (WE W σ) := by
      refine ⟨by rw [List.length_cons, ← rds.length, hl, e2], { w0 with x := some a }, w2, _, S2, rfl, start, ?_⟩
      rw [hms]
      intro w' σ' st3 r3
      obtain ⟨b, hb', ho3, nF3, nm3, _⟩ := r3.ow 0 _ hsd'
      have hb2' := r3.sf a _ rfl hsd'
      rw [hb'] at hb2'
      cases hb2'
      exact ⟨rfl, w', rfl, st3, r3.st, ⟨r3.ex.m, r3.ex.F, r3.ex.H, r3.ex.nm, r3.ex.nF, r3.ex.al⟩, ho3, nF3, nm3⟩
    have bd := B2 X.A X.stack s2 w2.H (.ref a :: us) (V.ref a :: vs) _ _ c.rm0 I2.env0 (.cons rfl rv) want
    refine wpAny_call (PySem.W.method_call (met_P I2 hmet2).1 (codeAny_mono bd ?_))
    rintro (er | fl) s' got
    · exact c.px σ pins _ _ er s' I2 got
    · cases fl with
      | ret u =>
        obtain ⟨v, H', I3, rv3, rfl, w3, rfl, st3, rs3, ex3, ho3, nF3, nm3⟩ := I2.after got
        refine ⟨σ, w3.H, I3, q2 w3 σ st3 ⟨ex3, rs3, by rw [List.length_set]; exact r2.ln, fun i d z => ?_, fun i o z => ?_, fun i j o o2 b z1 z2 _ _ => ?_, fun b o eb z => ?_⟩⟩
        · by_cases hi0 : i = 0
          · subst hi0
            rw [List.getElem?_set_self (List.getElem?_eq_some_iff.mp hsd).1] at z
            cases z
          · rw [List.getElem?_set_ne (fun z => hi0 z.symm)] at z
            obtain ⟨v, z1, z2⟩ := r2.vl i d z
            exact ⟨v, z1, RepV.stay st3 d v z2⟩
        · by_cases hi0 : i = 0
          · subst hi0
            rw [List.getElem?_set_self (List.getElem?_eq_some_iff.mp hsd).1] at z
            cases z
            exact ⟨a, hσ, ho3, nF3, nm3, n0⟩
          · rw [List.getElem?_set_ne (fun z => hi0 z.symm)] at z
            exact absurd z (no_own hno hi0)
        · have e1 : i = 0 := by
            by_cases hi0 : i = 0
            · exact hi0
            · rw [List.getElem?_set_ne (fun z => hi0 z.symm)] at z1
              exact absurd z1 (no_own hno hi0)
          have e2 : j = 0 := by
            by_cases hi0 : j = 0
            · exact hi0
            · rw [List.getElem?_set_ne (fun z => hi0 z.symm)] at z2
              exact absurd z2 (no_own hno hi0)
          rw [e1, e2]
        · exact r2.sf b _ eb hsd
      | next => exact got.elim
      | brk => exact got.elim
      | cont => exact got.elim
  · rw [hms] at q2; exact q2.elim
  · rw [hms] at q2; exact q2.elim
  · rw [hms] at q2; exact q2.elim
  · rw [hms] at q2; exact q2.elim
end
abbrev XS (P : Program) (w : World) (K : PySem.W.Frag) (mg : Str → Option Value) (base : Heap) (N : List Str) (name qual : Str) (st : Stmt) (cc cda f : Addr) (A : Around) (fr : List Env) (s : Shared) (H : Hp) (E : XK) : Cx :=
  ncx (L2.CX P w) P w K mg base N (nfOf name qual st cc cda) f A fr s H E
def BodyS (P : Program) (w : World) (K : PySem.W.Frag) (mg : Str → Option Value) (base : Heap) (G : Sg) (k : Nat) (f cc cda : Addr) (N : List Str) (name qual : Str) (st : Stmt) (ms : Ev.MS) : Prop :=
  ∀ (A : Around) (fr : List Env) (s : Shared) (H : Hp) (E : XK), Ctx G (XS P w K mg base N name qual st cc cda f A fr s H E) (WF E) k →
    PSsAV G (XS P w K mg base N name qual st cc cda f A fr s H E) (WF E) (.func (defBody st) (XS P w K mg base N name qual st cc cda f A fr s H E).env) (defBody st) ms
section
variable {P : Program} {w : World} {K : PySem.W.Frag} {mg : Str → Option Value} {base : Heap} {G : Sg} {k : Nat} {f cc cda Dc C f2 : Addr} {name qual : Str} {st : Stmt} {N ps : List Str} {ms : Ev.MS}
theorem ctxS (cK : G.K = K) (SC : NScope N ps ["__class__"] (defScope st)) {A : Around} {fr : List Env} {s : Shared} {H : Hp} {E : XK} (hr : Rm (k + 1) (A.deeper (envF (nfOf name qual st cc cda) f s.heap.objs.size))) :
    Ctx G (XS P w K mg base N name qual st cc cda f A fr s H E) (WF E) k := ⟨cK, rfl, hr, SC.nd, fun σ => L2.passAt (L2.takes_of rfl rfl rfl rfl) σ, L2.passes_of rfl⟩
theorem startF_eq {vs : List V} (h : vs.length + 1 ≤ N.length) : startF N vs [none] = L2.start N vs := by
  unfold startF L2.start
  congr 1
  have e : N.length - vs.length = (N.length - vs.length - 1) + 1 := by omega
  rw [e, List.replicate_succ]
  rfl
theorem fns_super (U : Sup P K name qual st f cc cda Dc C f2) (SC : NScope N ps ["__class__"] (defScope st)) (cK : G.K = K) (B : BodyS P w K mg base G k f cc cda N name qual st ms)
    {A : Around} {fr : List Env} {s : Shared} {H : Hp} {args : Args} {us : List Value} {vs : List V} {Q : VK} {E : XK}
    (hb : ∀ (kV doc pm : Value) (an : Option Addr) (ct : Value), bindArgs (fnX name qual (defArgs st) (defBody st) (defScope st) [("__class__", cc)] .none kV doc pm an (.ref cda) ct) args = pure (ps.zip us))
    (hr : Rm (k + 2) A) (e0 : Env0 P w K mg base A fr s H) (r : Vals vs us) (h : vs.length = ps.length ∧ spT G N ms vs H Q E) : codeAny (model P w) A (.call (.ref f) args) (CR (L2.CX P w) fr P w H s Q E) s := by
  obtain ⟨oc, od, kV, doc, pm, an, ct, osl, hf⟩ := U.fu
  obtain ⟨cl, cld, csl, hcell⟩ := U.cell
  obtain ⟨hl, hsp⟩ := h
  have inK : K.In s.heap := e0.mod.kin.keeps fun b o e => (e0.bs b o e).1
  have lim : s.heap.NoLimit := e0.mod.nolimit.keeps fun b o e => (e0.bs b o e).1
  have hnl : ps.length + 1 ≤ N.length := by
    have q := congrArg List.length SC.pre
    rw [List.length_take, List.length_append] at q
    have : (["__class__"] : List Str).length = 1 := rfl
    omega
  have Cc : CellsAt [(("__class__" : Str), cc)] ["__class__"] [none] s.heap H := by
    refine ⟨rfl, fun y c z => ?_, fun x y c z1 z2 => ?_, fun i y z => ?_⟩
    · have : c = cc := by
        simp only [List.lookup] at z
        split at z
        · cases z; rfl
        · cases z
      subst this
      exact ⟨(e0.bs _ _ (e0.mod.kin _ _ hcell)).2, _, _, inK _ _ hcell, rfl⟩
    · have one : ∀ {x : Str} {c : Addr}, ([(("__class__" : Str), cc)] : List (Str × Addr)).lookup x = some c → x = "__class__" := fun {x c} z => by
        simp only [List.lookup] at z
        split at z
        · next h => exact beq_iff_eq.mp h
        · cases z
      rw [one z1, one z2]
    · refine ⟨cc, ?_, fun v z2 => ?_⟩
      · cases i with
        | zero => simp at z; subst z; rfl
        | succ i => simp at z
      · cases i with
        | zero => simp at z2
        | succ i => simp at z2
  refine ks_codeAny_call_defAt (fd := fnX name qual (defArgs st) (defBody st) (defScope st) [("__class__", cc)] .none kV doc pm an (.ref cda) ct) (body := defBody st) (binds := ps.zip us) hr.room.depth (inK _ _ hf) rfl lim (codeRec_of inK U.cd) rfl (.of_eq (hb kV doc pm an ct)) SC.nocell
    (fun ⟨n, _⟩ hy => SC.par n (List.of_mem_zip hy).1) (fun h₁ hns kp => ?_) SC.co SC.gen SC.kind
  have I : Inv (XS P w K mg base N name qual st cc cda f A fr s H E) [] (startF N vs [none]) H { s with heap := h₁, toks := s.toks + (ps.zip us).length } := inv_startN SC hr.room.hd e0 hl r Cc hns kp
  rw [startF_eq (by omega)] at I
  have run := (B A fr s H E (ctxS cK SC (hr.deeper _))).run [] _ (L2.start N vs) H { nx := fun _ H' => Q .non H', rt := Q } I hsp
  refine ks_wpAt_mono run (fun fl s' hs => ?_) fun e s' hs => hs
  have fin : ∀ {σ' : L2.St} {H' : Hp} {v : V} {u : Value}, Inv (XS P w K mg base N name qual st cc cda f A fr s H E) [] σ' H' s' → L2.RelV v u → Q v H' → CE fr P w H s Q u s' :=
    fun {σ' H' v u} J rv q => ⟨v, H', J.os, J.bare, J.base, J.hok, rv, q⟩
  cases fl with
  | ret u =>
    obtain ⟨v, σ', H', J, rv, q⟩ := hs
    exact fin J rv q
  | next =>
    obtain ⟨σ', H', J, q⟩ := hs
    exact fin (v := V.non) (u := Value.none) J rfl q
  | brk =>
    obtain ⟨_, _, _, q⟩ := hs
    exact False.elim q
  | cont =>
    obtain ⟨_, _, _, q⟩ := hs
    exact False.elim q
theorem cla_super {c : Nat} (U : Sup P K name qual st f cc cda Dc (G.ca c) f2) (SC : NScope N ps ["__class__"] (defScope st)) (cK : G.K = K) (B : BodyS P w K mg base G k f cc cda N name qual st ms)
    (hb : ∀ (kV doc pm : Value) (an : Option Addr) (ct : Value) (us : List Value), us.length = ps.length → bindArgs (fnX name qual (defArgs st) (defBody st) (defScope st) [("__class__", cc)] .none kV doc pm an (.ref cda) ct) ⟨us, []⟩ = pure (ps.zip us))
    (M : Mk K (G.ca c) f) {m n : Nat} (em : ps.length = m) (en : N.length = n) (hmn : m ≤ n) : ClA P w K mg base G (k + 2) c (mkFn c m n ms) := by
  refine ⟨f, M, fun A fr s H us vs Q E hr e0 r h => ?_⟩
  obtain ⟨a, dx, vs, H, Q, rfl, rfl, ha, hdx, ne, rfl, wd, ds, S, eH, rs, rv, q⟩ := h
  subst em en eH
  obtain ⟨w1, e1, ex, s1, nF, nm⟩ := made (C := G.ca c) rs ha hdx ne
  unfold mkFn at q
  split at q
  · next e =>
    have hl : (V.ref a :: vs).length = ps.length := by rw [List.length_cons, ← rv.length]; exact e
    refine fns_super U SC cK B (us := us) (fun kV doc pm an ct => hb kV doc pm an ct us (r.length.symm.trans hl)) hr e0 r ⟨hl, ?_⟩
    rw [← e1]
    exact fin_mk ex s1 (RepVs.mono ex rs.dj _ _ rv) (by omega) (by rw [e1, upd_same]) nF nm ha q
  · exact q.elim
theorem clk_super {c m : Nat} {ks : List Str} {ix : List Nat} (U : Sup P K name qual st f cc cda Dc (G.ca c) f2) (SC : NScope N ps ["__class__"] (defScope st)) (cK : G.K = K) (B : BodyS P w K mg base G k f cc cda N name qual st ms)
    (hb : ∀ (kV doc pm : Value) (an : Option Addr) (ct : Value) (us ws : List Value), us.length = m + 1 → ws.length = ks.length → bindArgs (fnX name qual (defArgs st) (defBody st) (defScope st) [("__class__", cc)] .none kV doc pm an (.ref cda) ct) ⟨us, ks.zip ws⟩ = pure (ps.zip (perm (0 :: ix.map (· + 1)) (us ++ ws))))
    (M : Mk K (G.ca c) f) {a n : Nat} (em : ps.length = a) (en : N.length = n) (hmn : a ≤ n) : ClK P w K mg base G (k + 2) c m ks (fun ds => mkFn c a n ms (perm ix ds)) := by
  refine ⟨f, M, fun A fr s H us ws vs zs Q E hr e0 r r2 l1 l2 h => ?_⟩
  obtain ⟨b, dx, vs', H, Q, e, rfl, ha, hdx, ne, rfl, wd, ds, S, eH, rs, rv, q⟩ := h
  subst em en eH
  have key : perm (0 :: ix.map (· + 1)) (vs ++ zs) = V.ref b :: perm ix vs' := by rw [e, perm_self]
  obtain ⟨w1, e1, ex, s1, nF, nm⟩ := made (C := G.ca c) rs ha hdx ne
  have rp := reps_perm rv ix
  have q : FinG G (RepV G) E wd Q (mkFn c ps.length N.length ms (perm ix ds) S) := q
  unfold mkFn at q
  split at q
  · next el =>
    refine fns_super U SC cK B (us := perm (0 :: ix.map (· + 1)) (us ++ ws)) (fun kV doc pm an ct => hb kV doc pm an ct us ws (r.length.symm.trans l1) (r2.length.symm.trans l2)) hr e0 (vals_perm (r.append r2) _) ⟨?_, ?_⟩
    · rw [key, List.length_cons, ← rp.length]
      exact el
    · rw [key, ← e1]
      exact fin_mk ex s1 (RepVs.mono ex rs.dj _ _ rp) (by omega) (by rw [e1, upd_same]) nF nm ha q
  · exact q.elim
end
end Ev
set_option maxRecDepth 100000
set_option maxHeartbeats 2000000
namespace Ev
open PySem L2
@[irreducible] def Bd (k : Nat) (x : Int) : Prop := x.natAbs < 2 ^ k
theorem Bd.nat {k : Nat} {x : Int} (h : Bd k x) : x.natAbs < 2 ^ k := by
  unfold Bd at h
  exact h
theorem Bd.mk {k : Nat} {x : Int} (h : x.natAbs < 2 ^ k) : Bd k x := by
  unfold Bd
  exact h
theorem Bd.mono {j k : Nat} {x : Int} (h : Bd j x) (l : j ≤ k) : Bd k x := .mk (Nat.lt_of_lt_of_le h.nat (Nat.pow_le_pow_right (by decide) l))
theorem Bd.mul {j k : Nat} {x y : Int} (h : Bd j x) (l : Bd k y) : Bd (j + k) (x * y) := by
  unfold Bd at *
  rw [Int.natAbs_mul, Nat.pow_add]
  have p : 0 < 2 ^ k := Nat.pow_pos (by decide)
  calc x.natAbs * y.natAbs ≤ x.natAbs * 2 ^ k := Nat.mul_le_mul_left _ (Nat.le_of_lt l)
    _ < 2 ^ j * 2 ^ k := Nat.mul_lt_mul_of_pos_right h p
theorem Bd.add {j k : Nat} {x y : Int} (h : Bd j x) (l : Bd k y) : Bd (j + k + 1) (x + y) := by
  have a := Bd.mono h (show j ≤ j + k by omega)
  have b := Bd.mono l (show k ≤ j + k by omega)
  unfold Bd at *
  rw [Nat.pow_succ]
  omega
theorem Bd.sub {j k : Nat} {x y : Int} (h : Bd j x) (l : Bd k y) : Bd (j + k + 1) (x - y) := by
  have a := Bd.mono h (show j ≤ j + k by omega)
  have b := Bd.mono l (show k ≤ j + k by omega)
  unfold Bd at *
  rw [Nat.pow_succ]
  omega
theorem Bd.neg {j : Nat} {x : Int} (h : Bd j x) : Bd j (-x) := by
  unfold Bd at *
  omega
theorem Bd.of64 {x : Int} (h : -18446744073709551616 < x) (l : x < 18446744073709551616) : Bd 64 x := by
  unfold Bd
  omega
theorem Bd.of128 {x : Int} (h : -340282366920938463463374607431768211456 < x) (l : x < 340282366920938463463374607431768211456) : Bd 128 x := by
  unfold Bd
  omega
theorem Bd.ediv {j : Nat} {x y : Int} (h : Bd j x) : Bd j (x / y) := by
  unfold Bd at *
  have := Int.natAbs_ediv_le_natAbs x y
  omega
theorem Bd.emod {j : Nat} {x y : Int} (h : Bd j y) (p : 0 < y) : Bd j (x % y) := by
  unfold Bd at *
  have a := Int.emod_nonneg x (show y ≠ 0 by omega)
  have b := Int.emod_lt_of_pos x p
  omega
theorem Bd.of_le {j : Nat} {x y : Int} (h : Bd j y) (p : 0 ≤ x) (l : x ≤ y) : Bd j x := by
  unfold Bd at *
  omega
theorem Bd.abs {j : Nat} {x : Int} (h : Bd j x) : Bd j (x.natAbs : Int) := by
  unfold Bd at *
  omega
theorem bd_bits {k : Nat} {x : Int} (h : PySem.Builtin.Int.intBits x ≤ k) : Bd k x := by
  unfold Bd
  unfold PySem.Builtin.Int.intBits at h
  by_cases z : x = 0
  · subst z
    exact Nat.pow_pos (by decide)
  · have e : (x == 0) = false := by simpa using z
    rw [e] at h
    simp only [Bool.false_eq_true, if_false] at h
    exact (Nat.log2_lt (by omega)).mp (by omega)
theorem mulOk_bd {j k : Nat} {x y : Int} (h : Bd j x) (l : Bd k y) (c : j + k ≤ 134217728) : mulOk x y = true := mulOk_by h.nat l.nat c
theorem divOk_bd {j : Nat} {x : Int} (p : 0 < x) (h : Bd j x) (c : j ≤ 9000) : divOk x = true := by
  unfold divOk
  rw [Bool.and_eq_true]
  refine ⟨decide_eq_true p, decide_eq_true ?_⟩
  have := (Nat.log2_lt (by omega)).mpr h.nat
  omega
@[irreducible] def Wp {α : Type} (f : M α) (S : List Ob) (P : α → List Ob → Prop) : Prop := Run f S P
@[irreducible] def Ws (f : MS) (sd : List SV) (S : List Ob) (N : List SV → List Ob → Prop) (R : D → List Ob → Prop) (B C : List SV → List Ob → Prop) : Prop := RunS f sd S N R B C
theorem wp_run {α : Type} {f : M α} {S : List Ob} {P : α → List Ob → Prop} : Wp f S P ↔ Run f S P := by unfold Wp; exact Iff.rfl
theorem ws_run {f : MS} {sd : List SV} {S : List Ob} {N : List SV → List Ob → Prop} {R : D → List Ob → Prop} {B C : List SV → List Ob → Prop} : Ws f sd S N R B C ↔ RunS f sd S N R B C := by unfold Ws; exact Iff.rfl
theorem Wp.run {α : Type} {f : M α} {S : List Ob} {P : α → List Ob → Prop} (h : Wp f S P) : Run f S P := wp_run.mp h
theorem Run.wp {α : Type} {f : M α} {S : List Ob} {P : α → List Ob → Prop} (h : Run f S P) : Wp f S P := wp_run.mpr h
theorem Ws.run {f : MS} {sd : List SV} {S : List Ob} {N : List SV → List Ob → Prop} {R : D → List Ob → Prop} {B C : List SV → List Ob → Prop} (h : Ws f sd S N R B C) : RunS f sd S N R B C := ws_run.mp h
theorem RunS.ws {f : MS} {sd : List SV} {S : List Ob} {N : List SV → List Ob → Prop} {R : D → List Ob → Prop} {B C : List SV → List Ob → Prop} (h : RunS f sd S N R B C) : Ws f sd S N R B C := ws_run.mpr h
theorem Wp.mono {α : Type} {f : M α} {S : List Ob} {P P' : α → List Ob → Prop} (h : Wp f S P) (i : ∀ a S', P a S' → P' a S') : Wp f S P' := (h.run.mono i).wp
theorem Ws.mono {m : MS} {sd : List SV} {S : List Ob} {N N' : List SV → List Ob → Prop} {R R' : D → List Ob → Prop} {B B' C C' : List SV → List Ob → Prop} (h : Ws m sd S N R B C) (hN : ∀ sd S, N sd S → N' sd S) (hR : ∀ d S, R d S → R' d S) (hB : ∀ sd S, B sd S → B' sd S) (hC : ∀ sd S, C sd S → C' sd S) : Ws m sd S N' R' B' C' := (h.run.mono hN hR hB hC).ws
theorem Wp.ex {α : Type} {f : M α} {S : List Ob} {P : α → List Ob → Prop} (h : Wp f S P) : ∃ a S', f S = some (.ok a, S') ∧ P a S' := h.run.ex
theorem pure_wp {α : Type} {f : M α} {r : α} (h : ∀ S, Wp f S fun d S' => d = r ∧ S' = S) : f = M.pure r := pure_of fun S => (h S).run
section
variable {α β : Type} {f : M α} {S : List Ob} {P : α → List Ob → Prop} {PD : D → List Ob → Prop} {sd : List SV} {N : List SV → List Ob → Prop} {R : D → List Ob → Prop} {B C : List SV → List Ob → Prop} {m1 m2 : MS}
theorem go_bind {k : α → M β} {Q : β → List Ob → Prop} (h : Wp f S fun a S' => Wp (k a) S' Q) : Wp (M.bind f k) S Q := wp_run.mpr (run_bind.mpr (h.run.mono fun _ _ h => h.run))
theorem go_pure {a : α} (h : P a S) : Wp (M.pure a) S P := wp_run.mpr h
theorem go_get {i : Nat} {d : D} (e : sd[i]? = some (.val d)) (h : PD d S) : Wp (getv i sd) S PD := by rw [getv_val e]; exact wp_run.mpr h
theorem go_ite {c : Prop} [Decidable c] {g : M α} (h : if c then Wp f S P else Wp g S P) : Wp (if c then f else g) S P := by split <;> rename_i c' <;> simpa only [c', if_true, if_false] using h
theorem go_noErr (h : Wp f S P) : Wp (noErr f) S P := wp_run.mpr (run_noErr.mpr h.run)
theorem go_eq {g : M α} (e : f = g) (h : Wp g S P) : Wp f S P := e ▸ h
theorem go_val {r : α} (e : f = M.pure r) (h : P r S) : Wp f S P := by subst e; exact wp_run.mpr h
theorem go_use {P' : α → List Ob → Prop} (h : Wp f S P') (i : ∀ a S', P' a S' → P a S') : Wp f S P := h.mono i
theorem gs_next (h : N sd S) : Ws nextS sd S N R B C := ws_run.mpr h
theorem gs_seq (h : Ws m1 sd S (fun sd' S' => Ws m2 sd' S' N R B C) R B C) : Ws (seqS m1 m2) sd S N R B C := ws_run.mpr (runS_seq.mpr (h.run.mono (fun _ _ h => h.run) (fun _ _ h => h) (fun _ _ h => h) (fun _ _ h => h)))
theorem gs_ret {g : List SV → M D} (h : Wp (g sd) S R) : Ws (retS g) sd S N R B C := ws_run.mpr (runS_ret.mpr h.run)
theorem gs_retN (h : R .non S) : Ws (fun _ S => some (.ret .non, S)) sd S N R B C := ws_run.mpr h
theorem gs_brk (h : B sd S) : Ws (fun sd S => some (.brk sd, S)) sd S N R B C := ws_run.mpr h
theorem gs_cont (h : C sd S) : Ws (fun sd S => some (.cont sd, S)) sd S N R B C := ws_run.mpr h
theorem gs_asg {g : List SV → M D} {i : Nat} (h : Wp (g sd) S fun d S' => N (sd.set i (.val d)) S') : Ws (asgS g (setT i)) sd S N R B C := ws_run.mpr (runS_asg.mpr h.run)
theorem gs_tgt {g : List SV → M D} {t : Tgt} (h : Wp (g sd) S fun d S' => match t d sd S' with | some (sd2, S2) => N sd2 S2 | none => False) : Ws (asgS g t) sd S N R B C := ws_run.mpr (runS_tgt.mpr h.run)
theorem gs_par {g : List SV → M (List D)} {i j : Nat} (h : Wp (g sd) S fun ds S' => match ds with | [a, b] => N ((sd.set i (.val a)).set j (.val b)) S' | _ => False) : Ws (parS i j g) sd S N R B C := ws_run.mpr (runS_par.mpr h.run)
theorem gs_if {g : List SV → M Bool} (h : Wp (g sd) S fun k S' => if k = true then Ws m1 sd S' N R B C else Ws m2 sd S' N R B C) : Ws (exS g fun k => if k = true then m1 else m2) sd S N R B C := ws_run.mpr (runS_if.mpr (h.run.mono fun k _ h => by cases k <;> exact Ws.run h))
theorem gs_own {g : List SV → M (List D)} {i : Nat} (h : Wp (g sd) S fun ds S' => N (sd.set i (.own (.lst ds))) S') : Ws (ownS i g) sd S N R B C := ws_run.mpr (runS_own.mpr h.run)
theorem gs_for {g : List SV → M (List D)} {t : Tgt} {body : MS} (h : Wp (g sd) S fun ds S' => Ws (loopS t body ds) sd S' N R B C) : Ws (forS g t body) sd S N R B C := ws_run.mpr (runS_for.mpr (h.run.mono fun _ _ h => h.run))
theorem gs_expr {g : List SV → M α} (h : Wp (g sd) S fun _ S' => N sd S') : Ws (exS g fun _ => nextS) sd S N R B C := by
  refine ws_run.mpr ?_
  rw [runS_ex]
  exact h.run
theorem gs_app {g : List SV → M D} {i : Nat} {ds : List D} (e : sd[i]? = some (.own (.lst ds))) (l : ds.length < lim) (h : Wp (g sd) S fun d S' => N (sd.set i (.own (.lst (ds ++ [d])))) S') : Ws (appS i g) sd S N R B C := by
  have z : appS i g sd S = exS g (fun d sd S => some (.next (sd.set i (.own (.lst (ds ++ [d])))), S)) sd S := by
    unfold appS
    rw [e]
    simp only [l, if_true]
  refine ws_run.mpr ?_
  unfold RunS
  rw [z]
  exact (runS_ex (k := fun d sd S => some (.next (sd.set i (.own (.lst (ds ++ [d])))), S))).mpr h.run
theorem gs_frz {i : Nat} {o : Ob} (e : sd[i]? = some (.own o)) (h : N (sd.set i (.val (frzO o))) S) : Ws (frzS i) sd S N R B C := by
  refine ws_run.mpr ?_
  unfold RunS frzS
  rw [e]
  exact h
theorem go_fn {m n : Nat} {ms : MS} {ds : List D} (l : ds.length = m) (h : Ws ms (slots n (ds.map .val)) S (fun _ S' => PD .non S') PD (fun _ _ => False) (fun _ _ => False)) : Wp (runFn m n ms ds) S PD := wp_run.mpr (run_fn.mpr ⟨l, h.run⟩)
theorem gs_loop {t : Tgt} {body : MS} (J : List D → List SV → List Ob → Prop) (step : ∀ d ds sd S, J (d :: ds) sd S → ∃ sd1 S1, t d sd S = some (sd1, S1) ∧ Ws body sd1 S1 (fun sd2 S2 => J ds sd2 S2) R (fun sd2 S2 => N sd2 S2) (fun sd2 S2 => J ds sd2 S2))
    (fin : ∀ sd S, J [] sd S → N sd S) (ds : List D) (sd : List SV) (S : List Ob) (h : J ds sd S) : Ws (loopS t body ds) sd S N R B C :=
  ws_run.mpr (loop_rule J (fun d ds sd S h => let ⟨a, b, c, e⟩ := step d ds sd S h; ⟨a, b, c, e.run⟩) fin ds sd S h)
theorem gs_iter {c : List SV → M Bool} {body : MS} (J : Nat → List SV → List Ob → Prop) (step : ∀ n sd S, J n sd S → Wp (c sd) S fun b S1 => if b = true then Ws body sd S1 (fun sd2 S2 => ∃ n', n' < n ∧ J n' sd2 S2) R N (fun sd2 S2 => ∃ n', n' < n ∧ J n' sd2 S2) else N sd S1)
    (n : Nat) (sd : List SV) (S : List Ob) (l : n < bigW) (h : J n sd S) : Ws (whileS c body) sd S N R B C :=
  ws_run.mpr (iter_rule J (fun n sd S h => (step n sd S h).run.mono fun b _ h => by cases b <;> first | exact h | exact Ws.run h) bigW n sd S l h)
theorem ite_d {p : Prop} [Decidable p] {X Y : Prop} (h : p → X) (l : ¬p → Y) : if decide p = true then X else Y := by
  by_cases c : p
  · rw [if_pos (decide_eq_true c)]; exact h c
  · rw [if_neg (by simpa using c)]; exact l c
theorem ite_dt {p : Prop} [Decidable p] {X Y : Prop} (c : p) (h : X) : if decide p = true then X else Y := by
  rw [if_pos (decide_eq_true c)]; exact h
theorem ite_df {p : Prop} [Decidable p] {X Y : Prop} (c : ¬p) (h : Y) : if decide p = true then X else Y := by
  rw [if_neg (by simpa using c)]; exact h
theorem ite_b {b : Bool} {X Y : Prop} (h : b = true → X) (l : b = false → Y) : if b = true then X else Y := by
  cases b with
  | true => exact h rfl
  | false => exact l rfl
theorem ite_t {X Y : Prop} (h : X) : if true = true then X else Y := h
theorem ite_f {X Y : Prop} (h : Y) : if false = true then X else Y := h
theorem ite_n {b : Bool} {X Y : Prop} (h : if b = true then Y else X) : if (!b) = true then X else Y := by
  cases b <;> exact h
theorem p_toB {b : Bool} {P : Bool → List Ob → Prop} (h : P b S) : Wp (toB (.bl b)) S P := wp_run.mpr h
theorem p_toI {i : Int} {P : Option Int → List Ob → Prop} (h : P (some i) S) : Wp (toI (.int i)) S P := wp_run.mpr h
theorem p_on1 {g : D → M D} {d : D} (h : Wp (g d) S PD) : Wp (on1 g [d]) S PD := h
theorem p_on2 {g : D → D → M D} {d e : D} (h : Wp (g d e) S PD) : Wp (on2 g [d, e]) S PD := h
theorem p_add {i j : Int} (h : PD (.int (i + j)) S) : Wp (dAdd (.int i) (.int j)) S PD := wp_run.mpr h
theorem p_sub {i j : Int} (h : PD (.int (i - j)) S) : Wp (dSub (.int i) (.int j)) S PD := wp_run.mpr h
theorem p_neg {i : Int} (h : PD (.int (-i)) S) : Wp (dNeg (.int i)) S PD := wp_run.mpr h
theorem p_abs {i : Int} (h : PD (.int (i.natAbs : Int)) S) : Wp (dAbs (.int i)) S PD := by
  have e : (if i < 0 then -i else i) = (i.natAbs : Int) := by split <;> omega
  refine wp_run.mpr ?_
  show PD (.int (if i < 0 then -i else i)) S
  rw [e]
  exact h
theorem p_mul {j k : Nat} {x y : Int} (hx : Bd j x) (hy : Bd k y) (c : j + k ≤ 134217728) (h : PD (.int (x * y)) S) : Wp (dMul (.int x) (.int y)) S PD := by
  rw [mul_int (mulOk_bd hx hy c)]
  exact wp_run.mpr h
theorem p_div {k : Nat} {x y : Int} (p : 0 < y) (hy : Bd k y) (c : k ≤ 9000) (h : PD (.int (x / y)) S) : Wp (dFdiv (.int x) (.int y)) S PD := by
  rw [fdiv_int (divOk_bd p hy c)]
  exact wp_run.mpr h
theorem p_mod {x y : Int} (p : 0 < y) (h : PD (.int (x % y)) S) : Wp (dMod (.int x) (.int y)) S PD := by
  rw [mod_int p]
  exact wp_run.mpr h
theorem p_cmp {p : Int → Int → Bool} {i j : Int} (h : PD (.bl (p i j)) S) : Wp (dCmpI p (.int i) (.int j)) S PD := wp_run.mpr h
theorem p_int {i : Int} (h : PD (.int i) S) : Wp (dInt (.int i)) S PD := wp_run.mpr h
theorem p_bool {b : Bool} (h : PD (.bl b) S) : Wp (M.pure (.bl b)) S PD := wp_run.mpr h
theorem p_ixT {ds : List D} {i : Int} {d : D} (e : L2.atI ds i = some d) (h : PD d S) : Wp (dIx (.tup ds) (.int i)) S PD := by
  rw [ix_tup e]
  exact wp_run.mpr h
theorem p_ixL {ds : List D} {i : Int} {d : D} (e : L2.atI ds i = some d) (h : PD d S) : Wp (dIx (.lst ds) (.int i)) S PD := by
  rw [ix_lst e]
  exact wp_run.mpr h
theorem p_lenT {ds : List D} (h : PD (.int ds.length) S) : Wp (dLen (.tup ds)) S PD := wp_run.mpr h
theorem p_lenL {ds : List D} (h : PD (.int ds.length) S) : Wp (dLen (.lst ds)) S PD := wp_run.mpr h
theorem p_lenS {ds : List D} (h : PD (.int ds.length) S) : Wp (dLen (.scr ds)) S PD := wp_run.mpr h
theorem p_isN (h : PD (.bl true) S) : Wp (dIs false .non .non) S PD := wp_run.mpr h
theorem p_isntN (h : PD (.bl false) S) : Wp (dIs true .non .non) S PD := wp_run.mpr h
theorem p_eqI {i j : Int} (h : PD (.bl (decide (i = j))) S) : Wp (dEq false (.int i) (.int j)) S PD := wp_run.mpr h
theorem p_neI {i j : Int} (h : PD (.bl (!decide (i = j))) S) : Wp (dEq true (.int i) (.int j)) S PD := wp_run.mpr h
theorem p_eqS {x y : Str} (h : PD (.bl (decide (x = y))) S) : Wp (dEq false (.str x) (.str y)) S PD := wp_run.mpr h
theorem p_neS {x y : Str} (h : PD (.bl (!decide (x = y))) S) : Wp (dEq true (.str x) (.str y)) S PD := wp_run.mpr h
theorem p_seqT {ds : List D} {P : List D → List Ob → Prop} (h : P ds S) : Wp (seqOf (.tup ds)) S P := wp_run.mpr h
theorem p_seqL {ds : List D} {P : List D → List Ob → Prop} (h : P ds S) : Wp (seqOf (.lst ds)) S P := wp_run.mpr h
theorem p_ref {o : Ob} (h : PD (.ref S.length) (S ++ [o])) : Wp (newRef o) S PD := wp_run.mpr h
end
section
variable {S : List Ob} {PD : D → List Ob → Prop} {PL : List D → List Ob → Prop}
theorem p_min {i j : Int} (h : PD (.int (if j < i then j else i)) S) : Wp (dMin (.int i) (.int j)) S PD := wp_run.mpr h
theorem p_max {i j : Int} (h : PD (.int (if j > i then j else i)) S) : Wp (dMax (.int i) (.int j)) S PD := wp_run.mpr h
theorem p_rng1 {i : Int} (l : -4611686018427387904 ≤ i) (u : i < 4611686018427387904) (h : PL (rngD 0 i.toNat) S) : Wp (rng1 [.int i]) S PL := by
  refine wp_run.mpr ?_
  show Run (if -(2 ^ 62) ≤ i ∧ i < 2 ^ 62 then M.pure (rngD 0 i.toNat) else M.stuck) S PL
  rw [if_pos ⟨by omega, by omega⟩]
  exact h
theorem p_rng2 {i j : Int} (l : -4611686018427387904 ≤ i) (u : i < 4611686018427387904) (l2 : -4611686018427387904 ≤ j) (u2 : j < 4611686018427387904) (h : PL (rngD i (j - i).toNat) S) : Wp (rng2 [.int i, .int j]) S PL := by
  refine wp_run.mpr ?_
  show Run (if (-(2 ^ 62) ≤ i ∧ i < 2 ^ 62) ∧ -(2 ^ 62) ≤ j ∧ j < 2 ^ 62 then M.pure (rngD i (j - i).toNat) else M.stuck) S PL
  rw [if_pos ⟨⟨by omega, by omega⟩, by omega, by omega⟩]
  exact h
theorem rng_mem {lo : Int} {n : Nat} {d : D} (h : d ∈ rngD lo n) : ∃ i : Int, d = .int i ∧ lo ≤ i ∧ i < lo + n := by
  obtain ⟨m, hm, rfl⟩ := List.mem_map.mp h
  have := List.mem_range.mp hm
  exact ⟨_, rfl, by omega, by omega⟩
theorem rng_len {lo : Int} {n : Nat} : (rngD lo n).length = n := by
  unfold rngD
  rw [List.length_map, List.length_range]
theorem rng_cons {lo : Int} {n : Nat} : rngD lo (n + 1) = .int lo :: rngD (lo + 1) n := by
  unfold rngD
  rw [List.range_succ_eq_map, List.map_cons, List.map_map]
  congr 1
  · simp
  · refine List.map_congr_left fun i _ => ?_
    show D.int (lo + ((i + 1 : Nat) : Int)) = _
    congr 1
    omega
end
theorem go_lc {fi : List SV → M (List D)} {vs : List Nat} {t : TgP} {tt : List SV → M Bool} {fe : List SV → M D} {sd : List SV} {S : List Ob} {P : D → List Ob → Prop}
    (h : Wp (fi sd) S fun ds S' => Wp (compS t tt fe (wipeD sd vs) ds []) S' fun acc S2 => P (.lst acc) S2) : Wp (lcS fi vs t tt fe sd) S P :=
  go_bind (h.mono fun _ _ h => go_bind (h.mono fun _ _ h => go_pure h))
theorem go_comp {t : TgP} {tt : List SV → M Bool} {fe : List SV → M D} {sdw : List SV} {P : List D → List Ob → Prop} (J : List D → List D → List Ob → Prop)
    (step : ∀ d ds acc S, J (d :: ds) acc S → ∃ sd1, t d sdw = some sd1 ∧ acc.length < lim ∧ Wp (tt sd1) S fun b S1 => if b = true then Wp (fe sd1) S1 fun y S2 => J ds (acc ++ [y]) S2 else J ds acc S1)
    (fin : ∀ acc S, J [] acc S → P acc S) : ∀ ds acc S, J ds acc S → Wp (compS t tt fe sdw ds acc) S P
  | [], acc, S, h => go_pure (fin acc S h)
  | d :: ds, acc, S, h => by
    obtain ⟨sd1, e, l, hb⟩ := step d ds acc S h
    unfold compS
    rw [e]
    refine go_bind (go_noErr (hb.mono fun b S1 hc => ?_))
    cases b with
    | false => exact go_comp J step fin ds acc S1 hc
    | true =>
      refine go_bind (go_noErr (Wp.mono hc fun y S2 hy => ?_))
      rw [if_pos l]
      exact go_comp J step fin ds _ S2 hy
theorem all_true {acc : List D} (h : ∀ a ∈ acc, a = .bl true) : dAll (.lst acc) = M.pure (.bl true) := by
  have : ∀ acc : List D, (∀ a ∈ acc, a = .bl true) → ∃ bs, bls acc = some bs ∧ bs.all id = true := by
    intro acc
    induction acc with
    | nil => exact fun _ => ⟨[], rfl, rfl⟩
    | cons a acc ih =>
      intro h
      obtain ⟨bs, e1, e2⟩ := ih fun x hx => h x (List.mem_cons_of_mem _ hx)
      have ea := h a List.mem_cons_self
      subst ea
      refine ⟨true :: bs, ?_, ?_⟩
      · unfold bls
        rw [e1]
        rfl
      · rw [List.all_cons, e2]
        rfl
  obtain ⟨bs, e1, e2⟩ := this acc h
  unfold dAll
  simp only [e1, e2]
theorem all_spots {t : TgP} {fe : List SV → M D} {sdw : List SV} {n : Nat} (hn : n ≤ 100) (S : List Ob)
    (step : ∀ i : Int, 0 ≤ i → i < 100 → ∀ S, ∃ sd1, t (.int i) sdw = some sd1 ∧ Wp (fe sd1) S fun y _ => y = .bl true) :
    Wp (compS t (fun _ => M.pure true) fe sdw (rngD 0 n) []) S fun acc _ => dAll (.lst acc) = M.pure (.bl true) := by
  refine go_comp (J := fun ds acc _ => (∀ d ∈ ds, ∃ i : Int, d = .int i ∧ 0 ≤ i ∧ i < 100) ∧ (∀ a ∈ acc, a = .bl true) ∧ acc.length + ds.length ≤ 100) ?_ ?_ _ _ _ ?_
  · rintro d ds acc S ⟨hd, ha, hl⟩
    obtain ⟨i, rfl, h0, h1⟩ := hd d List.mem_cons_self
    obtain ⟨sd1, e, hw⟩ := step i h0 h1 S
    rw [List.length_cons] at hl
    refine ⟨sd1, e, by unfold lim; omega, go_pure (ite_t (hw.mono fun y S2 hy => ⟨fun d hd' => hd d (List.mem_cons_of_mem _ hd'), fun a ha' => ?_, ?_⟩))⟩
    · rcases List.mem_append.mp ha' with h | h
      · exact ha a h
      · rw [List.mem_singleton.mp h, hy]
    · rw [List.length_append, List.length_singleton]; omega
  · rintro acc S ⟨_, ha, _⟩
    exact all_true ha
  · refine ⟨fun d hd => ?_, fun a ha => absurd ha List.not_mem_nil, ?_⟩
    · obtain ⟨i, e, h0, h1⟩ := rng_mem hd
      exact ⟨i, e, h0, by omega⟩
    · rw [rng_len, List.length_nil]; omega
end Ev
local macro_rules | `(tactic| regstrif_fact) => `(tactic| first
  | assumption
  | ((with_reducible show Ev.Bd _ (_ * _)); refine Ev.Bd.mul (by regstrif_fact) (by regstrif_fact))
  | ((with_reducible show Ev.Bd _ (_ + _)); refine Ev.Bd.add (by regstrif_fact) (by regstrif_fact))
  | ((with_reducible show Ev.Bd _ (_ - _)); refine Ev.Bd.sub (by regstrif_fact) (by regstrif_fact))
  | ((with_reducible show Ev.Bd _ (-_)); refine Ev.Bd.neg (by regstrif_fact))
  | ((with_reducible show Ev.Bd _ (Int.natAbs _ : Int)); refine Ev.Bd.abs (by regstrif_fact))
  | ((with_reducible show Ev.Bd _ (_ % _)); refine Ev.Bd.emod (by regstrif_fact) (by first | assumption | omega))
  | ((with_reducible show Ev.Bd _ (_ / _)); refine Ev.Bd.ediv (by regstrif_fact))
  | exact Ev.Bd.of64 (by omega) (by omega)
  | exact Ev.Bd.of128 (by omega) (by omega))
local macro_rules | `(tactic| regstrif_gather) => `(tactic| first
  | with_reducible refine Ev.go_bind ?_
  | with_reducible refine Ev.go_pure ?_
  | ((with_reducible show Ev.Wp (Ev.getv _ _) _ _); refine Ev.go_get (by exact rfl) ?_)
  | with_reducible (first
    | refine Ev.gs_seq ?_ | refine Ev.gs_next ?_ | refine Ev.gs_asg ?_ | refine Ev.gs_if ?_ | refine Ev.gs_ret ?_ | refine Ev.gs_for ?_ | refine Ev.gs_par ?_ | refine Ev.gs_own ?_ | refine Ev.gs_expr ?_
    | refine Ev.p_toB ?_ | refine Ev.p_on1 ?_ | refine Ev.p_on2 ?_ | refine Ev.p_cmp ?_ | refine Ev.p_add ?_ | refine Ev.p_sub ?_
    | refine Ev.go_lc ?_ | refine Ev.go_ite ?_ | refine Ev.go_noErr ?_ | refine Ev.ite_t ?_ | refine Ev.ite_f ?_ | refine Ev.ite_n ?_
    | refine Ev.p_eqI ?_ | refine Ev.p_neI ?_ | refine Ev.p_eqS ?_ | refine Ev.p_neS ?_
    | refine Ev.p_neg ?_ | refine Ev.p_abs ?_ | refine Ev.p_int ?_ | refine Ev.p_toI ?_
    | refine Ev.p_lenT ?_ | refine Ev.p_lenL ?_ | refine Ev.p_lenS ?_ | refine Ev.p_isN ?_ | refine Ev.p_isntN ?_ | refine Ev.p_seqT ?_ | refine Ev.p_seqL ?_
    | refine Ev.p_min ?_ | refine Ev.p_max ?_ | refine Ev.p_ref ?_ | refine Ev.gs_retN ?_ | refine Ev.gs_brk ?_ | refine Ev.gs_cont ?_)
  | ((with_reducible refine Ev.p_mod ?_ ?_); (· first | assumption | omega))
  | ((with_reducible show Ev.Wp (Ev.dMul (.int _) (.int _)) _ _); refine Ev.p_mul (by regstrif_fact) (by regstrif_fact) (by first | decide | omega) ?_)
  | ((with_reducible show Ev.Wp (Ev.dFdiv (.int _) (.int _)) _ _); refine Ev.p_div (by first | assumption | omega) (by regstrif_fact) (by first | decide | omega) ?_)
  | ((with_reducible show Ev.Wp (Ev.dIx (.tup _) (.int _)) _ _); refine Ev.p_ixT (by exact rfl) ?_)
  | ((with_reducible show Ev.Wp (Ev.dIx (.lst _) (.int _)) _ _); refine Ev.p_ixL (by exact rfl) ?_)
  | ((with_reducible show Ev.Ws (Ev.appS _ _) _ _ _ _ _ _); refine Ev.gs_app (by exact rfl) (by first | decide | omega) ?_)
  | ((with_reducible show Ev.Ws (Ev.frzS _) _ _ _ _ _ _); refine Ev.gs_frz (by exact rfl) ?_)
  | ((with_reducible refine Ev.p_rng1 ?_ ?_ ?_); (· omega); (· omega))
  | ((with_reducible refine Ev.p_rng2 ?_ ?_ ?_ ?_ ?_); (· omega); (· omega); (· omega); (· omega))
  | ((with_reducible refine Ev.ite_dt ?_ ?_); (· first | assumption | omega))
  | ((with_reducible refine Ev.ite_df ?_ ?_); (· first | assumption | omega))
  | regstrif_slice
  | with_reducible refine Ev.gs_tgt ?_)
local macro_rules | `(tactic| regstrif_slice) => `(tactic| fail "no step is ev_known")
set_option maxRecDepth 100000
set_option maxHeartbeats 2000000
namespace Ev
open PySem L2
@[irreducible] def Shw (k n : Nat) (d : D) : Prop := ∃ p, toP d = some p ∧ p.showable = true ∧ p.canLay0 = true ∧ p.depth ≤ k ∧ p.shown.length ≤ n
@[irreducible] def ShwL (k n : Nat) (ds : List D) : Prop := ∃ ps, toPs ds = some ps ∧ PyData.showableAll ps = true ∧ PyData.canLayAll0 ps = true ∧ PyData.depthAll ps ≤ k ∧ ((PyData.shownAll ps).map (·.length)).sum + 2 * ps.length ≤ n
theorem Shw.mono {k n k' n' : Nat} {d : D} (h : Shw k n d) (hk : k ≤ k') (hn : n ≤ n') : Shw k' n' d := by
  unfold Shw at *
  obtain ⟨p, a, b, c, e, f⟩ := h
  exact ⟨p, a, b, c, by omega, by omega⟩
theorem shw_non : Shw 0 5 .non := by
  unfold Shw
  exact ⟨_, rfl, rfl, rfl, Nat.le_refl _, by decide⟩
theorem shw_bl (b : Bool) : Shw 0 5 (.bl b) := by
  unfold Shw
  exact ⟨_, rfl, rfl, rfl, Nat.le_refl _, by cases b <;> decide⟩
theorem shw_int {j : Nat} {i : Int} (h : Bd j i) (l : j ≤ 1920) : Shw 0 1921 (.int i) := by
  have a := (h.mono l).nat
  have b : i.natAbs.log2 < 1920 := by
    by_cases z : i.natAbs = 0
    · rw [z]
      decide +kernel
    · exact (Nat.log2_lt z).mpr a
  have c := PyProof.Rows.int_text_len_1921 b
  unfold Shw
  refine ⟨_, rfl, decide_eq_true b, rfl, Nat.le_refl _, ?_⟩
  show (Str.ofString (toString i)).length ≤ 1921
  omega
theorem shl_nil : ShwL 0 0 [] := by
  unfold ShwL
  exact ⟨[], rfl, rfl, rfl, Nat.le_refl _, Nat.le_refl _⟩
theorem shl_cons {k n k' n' : Nat} {d : D} {ds : List D} (h : Shw k n d) (l : ShwL k' n' ds) : ShwL (k + k') (n + 2 + n') (d :: ds) := by
  unfold Shw at h
  unfold ShwL at *
  obtain ⟨p, a, b, c, e, f⟩ := h
  obtain ⟨ps, a', b', c', e', f'⟩ := l
  refine ⟨p :: ps, ?_, ?_, ?_, ?_, ?_⟩
  · unfold toPs
    rw [a, a']
  · unfold PyData.showableAll
    rw [b, b']
    rfl
  · unfold PyData.canLayAll0
    rw [c, c']
    rfl
  · unfold PyData.depthAll
    omega
  · unfold PyData.shownAll
    simp only [List.map_cons, List.sum_cons, List.length_cons]
    omega
theorem shl_all {k n : Nat} : ∀ {ds : List D}, (∀ d ∈ ds, Shw k n d) → ShwL k (ds.length * (n + 2)) ds
  | [], _ => by
    have h := shl_nil
    unfold ShwL at *
    obtain ⟨ps, a', b', c', e', f'⟩ := h
    exact ⟨ps, a', b', c', by omega, by omega⟩
  | d :: ds, h => by
    have h1 := h d List.mem_cons_self
    have h2 := shl_all fun x hx => h x (List.mem_cons_of_mem _ hx)
    unfold Shw at h1
    unfold ShwL at *
    obtain ⟨p, a, b, c, e, f⟩ := h1
    obtain ⟨ps, a', b', c', e', f'⟩ := h2
    refine ⟨p :: ps, ?_, ?_, ?_, ?_, ?_⟩
    · unfold toPs
      rw [a, a']
    · unfold PyData.showableAll
      rw [b, b']
      rfl
    · unfold PyData.canLayAll0
      rw [c, c']
      rfl
    · unfold PyData.depthAll
      omega
    · unfold PyData.shownAll
      simp only [List.map_cons, List.sum_cons, List.length_cons, Nat.succ_mul]
      omega
theorem len_shownAll : ∀ ps : List PyData, (PyData.shownAll ps).length = ps.length
  | [] => rfl
  | p :: ps => by
    unfold PyData.shownAll
    rw [List.length_cons, List.length_cons, len_shownAll ps]
theorem shw_tup {k n : Nat} {ds : List D} (h : ShwL k n ds) : Shw (k + 1) (n + 3) (.tup ds) := by
  unfold ShwL at h
  unfold Shw
  obtain ⟨ps, a, b, c, e, f⟩ := h
  refine ⟨.tuple ps, by unfold toP; rw [a]; rfl, by unfold PyData.showable; exact b, by unfold PyData.canLay0; exact c, by unfold PyData.depth; omega, ?_⟩
  have := tupleText_len_le (PyData.shownAll ps)
  rw [len_shownAll] at this
  show (tupleText (PyData.shownAll ps)).length ≤ _
  omega
theorem shw_lst {k n : Nat} {ds : List D} (h : ShwL k n ds) : Shw (k + 1) (n + 3) (.lst ds) := by
  unfold ShwL at h
  unfold Shw
  obtain ⟨ps, a, b, c, e, f⟩ := h
  refine ⟨.list ps, by unfold toP; rw [a]; rfl, by unfold PyData.showable; exact b, by unfold PyData.canLay0; exact c, by unfold PyData.depth; omega, ?_⟩
  have := listText_len_le (PyData.shownAll ps)
  rw [len_shownAll] at this
  show (listText (PyData.shownAll ps)).length ≤ _
  omega
@[irreducible] def txtD (d : D) : Str := match toP d with
  | some p => p.shown
  | none => ""
theorem repr_get {k n : Nat} {d : D} (h : Shw k n d) (hk : k ≤ 60) (hn : n ≤ lim) : dRepr d = M.pure (.str (txtD d)) := by
  unfold Shw at h
  obtain ⟨p, a, b, c, e, f⟩ := h
  unfold dRepr txtD
  rw [a]
  have g : reprOk p = true := by
    unfold reprOk
    rw [b, PyData.hasDict_of_canLay p c]
    simp only [Bool.not_false, Bool.and_true, Bool.true_and, Bool.and_eq_true, decide_eq_true_eq]
    omega
  simp only [g, if_true]
section
variable {S : List Ob} {PD : D → List Ob → Prop}
theorem p_repr {k n : Nat} {d : D} (h : Shw k n d) (hk : k ≤ 60) (hn : n ≤ lim) (q : PD (.str (txtD d)) S) : Wp (dRepr d) S PD := by
  rw [repr_get h hk hn]
  exact go_pure q
theorem p_eqSS {x : Str} (h : PD (.bl true) S) : Wp (dEq false (.str x) (.str x)) S PD := by
  refine p_eqS ?_
  rw [decide_eq_true rfl]
  exact h
theorem p_neSS {x : Str} (h : PD (.bl false) S) : Wp (dEq true (.str x) (.str x)) S PD := by
  refine p_neS ?_
  rw [decide_eq_true rfl]
  exact h
theorem p_eqB {x y : Bool} (h : PD (.bl (decide (x = y))) S) : Wp (dEq false (.bl x) (.bl y)) S PD := wp_run.mpr h
theorem p_neB {x y : Bool} (h : PD (.bl (!decide (x = y))) S) : Wp (dEq true (.bl x) (.bl y)) S PD := wp_run.mpr h
end
mutual
def noB : PyData → Bool
  | .none | .int _ | .str _ => true
  | .bool _ | .dict _ => false
  | .list xs | .tuple xs => noBs xs
def noBs : List PyData → Bool
  | [] => true
  | x :: xs => noB x && noBs xs
end
mutual
theorem eqv_iff : ∀ p q : PyData, noB p = true → noB q = true → PyData.eqv p q = true → p = q
  | .none, q, _, h, e => by cases q <;> first | rfl | simp [PyData.eqv] at e
  | .int i, q, _, h, e => by cases q <;> simp [PyData.eqv, noB] at e h; rw [e]
  | .str x, q, _, h, e => by cases q <;> simp [PyData.eqv, noB] at e h; rw [e]
  | .list xs, .list ys, g, h, e => by
    unfold noB at g h
    unfold PyData.eqv at e
    rw [eqvAll_iff xs ys g h e]
  | .tuple xs, .tuple ys, g, h, e => by
    unfold noB at g h
    unfold PyData.eqv at e
    rw [eqvAll_iff xs ys g h e]
  | .list xs, .none, _, _, e | .list xs, .int _, _, _, e | .list xs, .str _, _, _, e | .list xs, .tuple _, _, _, e | .list xs, .bool _, _, _, e | .list xs, .dict _, _, _, e => by simp [PyData.eqv] at e
  | .tuple xs, .none, _, _, e | .tuple xs, .int _, _, _, e | .tuple xs, .str _, _, _, e | .tuple xs, .list _, _, _, e | .tuple xs, .bool _, _, _, e | .tuple xs, .dict _, _, _, e => by simp [PyData.eqv] at e
  | .bool _, _, g, _, _ => by simp [noB] at g
  | .dict _, _, g, _, _ => by simp [noB] at g
theorem eqvAll_iff : ∀ ps qs : List PyData, noBs ps = true → noBs qs = true → PyData.eqvAll ps qs = true → ps = qs
  | [], [], _, _, _ => rfl
  | [], _ :: _, _, _, e => by simp [PyData.eqvAll] at e
  | _ :: _, [], _, _, e => by simp [PyData.eqvAll] at e
  | p :: ps, q :: qs, g, h, e => by
    unfold noBs at g h
    unfold PyData.eqvAll at e
    rw [Bool.and_eq_true] at g h e
    rw [eqv_iff p q g.1 h.1 e.1, eqvAll_iff ps qs g.2 h.2 e.2]
end
@[irreducible] def Pln (k : Nat) (d : D) (p : PyData) : Prop := toP d = some p ∧ noB p = true ∧ p.canLay0 = true ∧ p.depth ≤ k
@[irreducible] def PlnL (k : Nat) (ds : List D) (ps : List PyData) : Prop := toPs ds = some ps ∧ noBs ps = true ∧ PyData.canLayAll0 ps = true ∧ PyData.depthAll ps ≤ k
theorem pln_non : Pln 0 .non .none := by unfold Pln; exact ⟨rfl, rfl, rfl, Nat.le_refl _⟩
theorem pln_int {i : Int} : Pln 0 (.int i) (.int i) := by unfold Pln; exact ⟨rfl, rfl, rfl, Nat.le_refl _⟩
theorem pll_nil : PlnL 0 [] [] := by unfold PlnL; exact ⟨rfl, rfl, rfl, Nat.le_refl _⟩
theorem pll_cons {j k : Nat} {d : D} {p : PyData} {ds : List D} {ps : List PyData} (h : Pln j d p) (l : PlnL k ds ps) : PlnL (j + k) (d :: ds) (p :: ps) := by
  unfold Pln at h
  unfold PlnL at *
  obtain ⟨a, b, c, e⟩ := h
  obtain ⟨a', b', c', e'⟩ := l
  refine ⟨?_, ?_, ?_, ?_⟩
  · unfold toPs
    rw [a, a']
  · unfold noBs
    rw [b, b']
    rfl
  · unfold PyData.canLayAll0
    rw [c, c']
    rfl
  · unfold PyData.depthAll
    omega
theorem pll_map {α : Type} {k : Nat} {f : α → D} {g : α → PyData} : ∀ {xs : List α}, (∀ x ∈ xs, Pln k (f x) (g x)) → PlnL k (xs.map f) (xs.map g)
  | [], _ => by unfold PlnL; exact ⟨rfl, rfl, rfl, Nat.zero_le _⟩
  | x :: xs, h => by
    have h1 := h x List.mem_cons_self
    have h2 := pll_map (xs := xs) fun y hy => h y (List.mem_cons_of_mem _ hy)
    unfold Pln at h1
    unfold PlnL at *
    obtain ⟨a, b, c, e⟩ := h1
    obtain ⟨a', b', c', e'⟩ := h2
    refine ⟨?_, ?_, ?_, ?_⟩
    · rw [List.map_cons, List.map_cons]
      unfold toPs
      rw [a, a']
    · rw [List.map_cons]
      unfold noBs
      rw [b, b']
      rfl
    · rw [List.map_cons]
      unfold PyData.canLayAll0
      rw [c, c']
      rfl
    · rw [List.map_cons]
      unfold PyData.depthAll
      omega
theorem pln_tup {k : Nat} {ds : List D} {ps : List PyData} (h : PlnL k ds ps) : Pln (k + 1) (.tup ds) (.tuple ps) := by
  unfold PlnL at h
  unfold Pln
  obtain ⟨a, b, c, e⟩ := h
  exact ⟨by unfold toP; rw [a]; rfl, by unfold noB; exact b, by unfold PyData.canLay0; exact c, by unfold PyData.depth; omega⟩
theorem pln_lst {k : Nat} {ds : List D} {ps : List PyData} (h : PlnL k ds ps) : Pln (k + 1) (.lst ds) (.list ps) := by
  unfold PlnL at h
  unfold Pln
  obtain ⟨a, b, c, e⟩ := h
  exact ⟨by unfold toP; rw [a]; rfl, by unfold noB; exact b, by unfold PyData.canLay0; exact c, by unfold PyData.depth; omega⟩
theorem eqv_dec {p q : PyData} (g : noB p = true) (h : noB q = true) (c : p.canLay0 = true) {P : Prop} [Decidable P] (i : p = q ↔ P) : PyData.eqv p q = decide P := by
  by_cases z : P
  · rw [decide_eq_true z]
    have e := i.mpr z
    subst e
    exact SeqAt.eqv_refl p c
  · rw [decide_eq_false z]
    cases e : PyData.eqv p q with
    | false => rfl
    | true => exact absurd (i.mp (eqv_iff p q g h e)) z
theorem eq_pln {j k : Nat} {d e : D} {p q : PyData} (neg : Bool) (h : Pln j d p) (l : Pln k e q) (hj : j ≤ 64) (hk : k ≤ 64) {P : Prop} [Decidable P] (i : p = q ↔ P)
    (z : dEq neg d e = match toP d, toP e with
      | some p, some q => if SeqAt.shaped p = true ∧ SeqAt.shaped q = true then M.pure (.bl (if neg then !PyData.eqv p q else PyData.eqv p q)) else M.stuck
      | _, _ => M.stuck) : dEq neg d e = M.pure (.bl (if neg then !decide P else decide P)) := by
  unfold Pln at h l
  obtain ⟨a, b, c, f⟩ := h
  obtain ⟨a', b', c', f'⟩ := l
  rw [z, a, a']
  simp only
  rw [eqv_dec b b' c i]
  refine if_pos ⟨?_, ?_⟩
  · unfold SeqAt.shaped
    rw [c, decide_eq_true (by omega)]
    rfl
  · unfold SeqAt.shaped
    rw [c', decide_eq_true (by omega)]
    rfl
theorem eq_self {k n : Nat} {d : D} (neg : Bool) (h : Shw k n d) (hk : k ≤ 64) : dEq neg d d = M.pure (.bl (!neg)) := by
  unfold Shw at h
  obtain ⟨p, a, b, c, e, f⟩ := h
  have g : SeqAt.shaped p = true := by
    unfold SeqAt.shaped
    rw [c, decide_eq_true (by omega)]
    rfl
  have z : ∀ d', d' = d → (match toP d, toP d' with
      | some p, some q => if SeqAt.shaped p = true ∧ SeqAt.shaped q = true then M.pure (.bl (if neg then !PyData.eqv p q else PyData.eqv p q)) else M.stuck
      | _, _ => M.stuck) = (M.pure (.bl (!neg)) : M D) := by
    rintro d' rfl
    rw [a]
    simp only [g, and_self, if_true, SeqAt.eqv_refl p c]
    cases neg <;> rfl
  cases d <;> first
    | exact z _ rfl
    | (show M.pure (D.bl (if neg then !decide (_ = _) else decide (_ = _))) = _; rw [decide_eq_true rfl]; cases neg <;> rfl)
theorem cut_take {α : Type} {xs : List α} {j : Int} (h0 : 0 ≤ j) : cutD xs none (some j) = xs.take j.toNat := by
  unfold cutD HT.sIx
  simp only [show ¬(j < 0) by omega, if_false, List.drop_zero, Nat.sub_zero]
  show List.take (min j.toNat xs.length) xs = _
  rw [List.take_eq_take_iff]
  omega
theorem cut_drop {α : Type} {xs : List α} {j : Int} (h0 : 0 ≤ j) : cutD xs (some j) none = xs.drop j.toNat := by
  unfold cutD HT.sIx
  simp only [show ¬(j < 0) by omega, if_false]
  show List.take (xs.length - min j.toNat xs.length) (xs.drop (min j.toNat xs.length)) = _
  by_cases l : j.toNat ≤ xs.length
  · rw [Nat.min_eq_left l]
    exact List.take_of_length_le (by rw [List.length_drop]; omega)
  · rw [Nat.min_eq_right (by omega), List.drop_of_length_le (Nat.le_refl _), List.drop_of_length_le (by omega)]
    simp
section
variable {S : List Ob} {PD : D → List Ob → Prop}
theorem p_take {ds : List D} {j : Int} (h0 : 0 ≤ j) (h : PD (.lst (ds.take j.toNat)) S) : Wp (dSl (.lst ds) none (some j)) S PD := by
  show Wp (M.pure (D.lst (cutD ds none (some j)))) S PD
  rw [cut_take h0]
  exact go_pure h
theorem p_drop {ds : List D} {j : Int} (h0 : 0 ≤ j) (h : PD (.lst (ds.drop j.toNat)) S) : Wp (dSl (.lst ds) (some j) none) S PD := by
  show Wp (M.pure (D.lst (cutD ds (some j) none))) S PD
  rw [cut_drop h0]
  exact go_pure h
theorem p_takeT {ds : List D} {j : Int} (h0 : 0 ≤ j) (h : PD (.tup (ds.take j.toNat)) S) : Wp (dSl (.tup ds) none (some j)) S PD := by
  show Wp (M.pure (D.tup (cutD ds none (some j)))) S PD
  rw [cut_take h0]
  exact go_pure h
theorem p_dropT {ds : List D} {j : Int} (h0 : 0 ≤ j) (h : PD (.tup (ds.drop j.toNat)) S) : Wp (dSl (.tup ds) (some j) none) S PD := by
  show Wp (M.pure (D.tup (cutD ds (some j) none))) S PD
  rw [cut_drop h0]
  exact go_pure h
theorem p_revL {ds : List D} (h : PD (.lst ds.reverse) S) : Wp (dRev (.lst ds)) S PD := wp_run.mpr h
theorem p_addL {as bs : List D} (l : as.length + bs.length ≤ lim) (h : PD (.lst (as ++ bs)) S) : Wp (dAdd (.lst as) (.lst bs)) S PD := by
  show Wp (if as.length + bs.length ≤ lim then M.pure (D.lst (as ++ bs)) else M.stuck) S PD
  rw [if_pos l]
  exact go_pure h
theorem p_addT {as bs : List D} (l : as.length + bs.length ≤ lim) (h : PD (.tup (as ++ bs)) S) : Wp (dAdd (.tup as) (.tup bs)) S PD := by
  show Wp (if as.length + bs.length ≤ lim then M.pure (D.tup (as ++ bs)) else M.stuck) S PD
  rw [if_pos l]
  exact go_pure h
theorem p_mulL {as : List D} {n : Nat} (l : as.length * n ≤ lim) (l2 : n < 2 ^ 63) (h : PD (.lst (List.replicate n as).flatten) S) : Wp (dMul (.lst as) (.int n)) S PD := by
  show Wp (if as.length * (n : Int).toNat ≤ lim ∧ -(2 ^ 63) ≤ (n : Int) ∧ (n : Int) < 2 ^ 63 then M.pure (D.lst (List.replicate (n : Int).toNat as).flatten) else M.stuck) S PD
  rw [Int.toNat_natCast, if_pos ⟨l, by omega, by omega⟩]
  exact go_pure h
theorem p_isT {ds : List D} {neg : Bool} (h : PD (.bl neg) S) : Wp (dIs neg (.tup ds) .non) S PD := by
  cases neg <;> exact wp_run.mpr h
theorem p_isO {c : Nat} {ds : List D} {neg : Bool} (h : PD (.bl neg) S) : Wp (dIs neg (.ins c ds) .non) S PD := by
  cases neg <;> exact wp_run.mpr h
theorem p_isI {i : Int} {neg : Bool} (h : PD (.bl neg) S) : Wp (dIs neg (.int i) .non) S PD := by
  cases neg <;> exact wp_run.mpr h
end
end Ev
local macro_rules | `(tactic| nest_fact) => `(tactic| first
  | assumption
  | exact Ev.shw_non
  | exact Ev.shw_bl _
  | exact Ev.shw_int (by regstrif_fact) (by first | decide | omega)
  | ((with_reducible apply Ev.shw_tup); nest_fact)
  | ((with_reducible apply Ev.shw_lst); nest_fact)
  | with_reducible exact Ev.shl_nil
  | ((with_reducible apply Ev.shl_cons); (· nest_fact); (· nest_fact)))
local macro_rules | `(tactic| regstrif_gather) => `(tactic| first
  | with_reducible refine Ev.p_eqSS ?_
  | with_reducible refine Ev.p_neSS ?_
  | with_reducible refine Ev.p_eqB ?_
  | with_reducible refine Ev.p_neB ?_
  | with_reducible refine Ev.p_isT ?_
  | with_reducible refine Ev.p_isO ?_
  | with_reducible refine Ev.p_isI ?_
  | with_reducible refine Ev.p_revL ?_
  | ((with_reducible show Ev.Wp (Ev.dRepr _) _ _); refine Ev.p_repr (by nest_fact) (by first | decide | omega) (by first | decide | omega) ?_)
  | ((with_reducible refine Ev.p_take ?_ ?_); (· omega))
  | ((with_reducible refine Ev.p_drop ?_ ?_); (· omega))
  | ((with_reducible refine Ev.p_takeT ?_ ?_); (· omega))
  | ((with_reducible refine Ev.p_dropT ?_ ?_); (· omega)))
set_option maxRecDepth 100000
set_option maxHeartbeats 2000000
namespace Ev
open PySem L2
@[irreducible] def Tg (t : Tgt) (d : D) (sd : List SV) (S : List Ob) (N : List SV → List Ob → Prop) : Prop := ∃ sd2 S2, t d sd S = some (sd2, S2) ∧ N sd2 S2
@[irreducible] def TgL (t : Tgts) (ds : List D) (sd : List SV) (S : List Ob) (N : List SV → List Ob → Prop) : Prop := ∃ sd2 S2, t ds sd S = some (sd2, S2) ∧ N sd2 S2
section
variable {S : List Ob} {sd : List SV} {N : List SV → List Ob → Prop} {R : D → List Ob → Prop} {B C : List SV → List Ob → Prop} {d : D} {ds : List D}
theorem gs_tg {g : List SV → M D} {t : Tgt} (h : Wp (g sd) S fun d S' => Tg t d sd S' N) : Ws (asgS g t) sd S N R B C := by
  refine gs_tgt (h.mono fun d S' q => ?_)
  unfold Tg at q
  obtain ⟨sd2, S2, e, q⟩ := q
  rw [e]
  exact q
theorem tg_set {i : Nat} (h : N (sd.set i (.val d)) S) : Tg (setT i) d sd S N := by
  unfold Tg
  exact ⟨_, _, rfl, h⟩
theorem tg_tup {k : Nat} {t : Tgts} (l : ds.length = k) (h : TgL t ds sd S N) : Tg (tupT k t) (.tup ds) sd S N := by
  unfold TgL at h
  unfold Tg
  obtain ⟨sd2, S2, e, q⟩ := h
  refine ⟨sd2, S2, ?_, q⟩
  show (if ds.length = k then t ds sd S else none) = _
  rw [if_pos l]
  exact e
theorem tg_lst {k : Nat} {t : Tgts} (l : ds.length = k) (h : TgL t ds sd S N) : Tg (tupT k t) (.lst ds) sd S N := by
  unfold TgL at h
  unfold Tg
  obtain ⟨sd2, S2, e, q⟩ := h
  refine ⟨sd2, S2, ?_, q⟩
  show (if ds.length = k then t ds sd S else none) = _
  rw [if_pos l]
  exact e
theorem tl_cons {t : Tgt} {ts : Tgts} (h : Tg t d sd S fun sd2 S2 => TgL ts ds sd2 S2 N) : TgL (consT t ts) (d :: ds) sd S N := by
  unfold Tg at h
  obtain ⟨sd1, S1, e, q⟩ := h
  unfold TgL at q ⊢
  obtain ⟨sd2, S2, e2, q⟩ := q
  refine ⟨sd2, S2, ?_, q⟩
  show (match t d sd S with | none => none | some (sd1, S1) => ts ds sd1 S1) = _
  rw [e]
  exact e2
theorem tl_nil (h : N sd S) : TgL (fun _ sd S => some (sd, S)) [] sd S N := by
  unfold TgL
  exact ⟨_, _, rfl, h⟩
theorem Tg.ex {t : Tgt} (h : Tg t d sd S N) : ∃ sd2 S2, t d sd S = some (sd2, S2) ∧ N sd2 S2 := by
  unfold Tg at h
  exact h
theorem gs_each {α : Type} {f : α → D} {t : Tgt} {body : MS} (J : List α → List SV → List Ob → Prop)
    (step : ∀ x xs sd S, J (x :: xs) sd S → Tg t (f x) sd S fun sd1 S1 => Ws body sd1 S1 (fun sd2 S2 => J xs sd2 S2) R (fun sd2 S2 => N sd2 S2) (fun sd2 S2 => J xs sd2 S2))
    (fin : ∀ sd S, J [] sd S → N sd S) (xs : List α) (sd : List SV) (S : List Ob) (h : J xs sd S) : Ws (loopS t body (xs.map f)) sd S N R B C := by
  refine gs_loop (J := fun ds sd S => ∃ xs : List α, ds = xs.map f ∧ J xs sd S) ?_ ?_ _ _ _ ⟨xs, rfl, h⟩
  · rintro d ds sd S ⟨xs, e, hj⟩
    rcases xs with _ | ⟨x, xs⟩
    · cases e
    rw [List.map_cons] at e
    cases e
    obtain ⟨sd1, S1, e1, q⟩ := (step x xs sd S hj).ex
    exact ⟨sd1, S1, e1, q.mono (fun sd S h => ⟨xs, rfl, h⟩) (fun _ _ h => h) (fun _ _ h => h) (fun sd S h => ⟨xs, rfl, h⟩)⟩
  · rintro sd S ⟨xs, e, hj⟩
    rcases xs with _ | ⟨x, xs⟩
    · exact fin sd S hj
    · cases e
theorem gs_times {t : Tgt} {body : MS} {n : Nat} {lo : Int} (J : List SV → List Ob → Prop)
    (step : ∀ i sd S, lo ≤ i → i < lo + n → J sd S → Tg t (.int i) sd S fun sd1 S1 => Ws body sd1 S1 J R N J)
    (fin : ∀ sd S, J sd S → N sd S) (h : J sd S) : Ws (loopS t body (rngD lo n)) sd S N R B C := by
  refine gs_loop (J := fun ds sd S => (∀ d ∈ ds, d ∈ rngD lo n) ∧ J sd S) ?_ ?_ _ _ _ ⟨fun _ h => h, h⟩
  · rintro d ds sd S ⟨hd, hj⟩
    obtain ⟨i, rfl, h0, h1⟩ := rng_mem (hd d List.mem_cons_self)
    obtain ⟨sd1, S1, e1, q⟩ := (step i sd S h0 h1 hj).ex
    have hd2 : ∀ d ∈ ds, d ∈ rngD lo n := fun d h => hd d (List.mem_cons_of_mem _ h)
    exact ⟨sd1, S1, e1, q.mono (fun sd S h => ⟨hd2, h⟩) (fun _ _ h => h) (fun _ _ h => h) (fun sd S h => ⟨hd2, h⟩)⟩
  · rintro sd S ⟨_, hj⟩
    exact fin sd S hj
theorem gs_frzL {i : Nat} (e : sd[i]? = some (.own (.lst ds))) (h : N (sd.set i (.val (.lst ds))) S) : Ws (frzS i) sd S N R B C := gs_frz e h
theorem ws_sd {m : MS} {sd' : List SV} (e : sd = sd') (h : Ws m sd' S N R B C) : Ws m sd S N R B C := e ▸ h
theorem tl_sd {t : Tgts} {sd' : List SV} (e : sd = sd') (h : TgL t ds sd' S N) : TgL t ds sd S N := e ▸ h
end
end Ev
local macro_rules | `(tactic| regstrif_gather) => `(tactic| first
  | ((with_reducible show Ev.Ws _ (List.set _ _ _) _ _ _ _ _); apply Ev.ws_sd; (· first | (simp only [List.set_cons_zero, List.set_cons_succ]; done) | (simp only [List.set_cons_zero, List.set_cons_succ]; exact rfl)))
  | ((with_reducible show Ev.TgL _ _ (List.set _ _ _) _ _); apply Ev.tl_sd; (· first | (simp only [List.set_cons_zero, List.set_cons_succ]; done) | (simp only [List.set_cons_zero, List.set_cons_succ]; exact rfl)))
  | with_reducible refine Ev.gs_seq ?_
  | with_reducible refine Ev.gs_asg ?_
  | with_reducible refine Ev.tg_set ?_
  | ((with_reducible refine Ev.tg_tup ?_ ?_); (· exact rfl))
  | with_reducible refine Ev.tl_cons ?_
  | with_reducible refine Ev.tl_nil ?_
  | ((with_reducible refine Ev.tg_lst ?_ ?_); (· exact rfl))
  | ((with_reducible show Ev.Ws (Ev.asgS _ (Ev.tupT _ _)) _ _ _ _ _ _); refine Ev.gs_tg ?_)
  | ((with_reducible show Ev.Ws (Ev.appS _ _) _ _ _ _ _ _); refine Ev.gs_app (by exact rfl) (by simp only [List.length_append, List.length_cons, List.length_nil, List.length_map, Nat.zero_add, Nat.add_zero]; first | decide | (unfold Ev.lim; omega)) ?_)
  | ((with_reducible refine Ev.p_addL ?_ ?_); (· simp only [List.length_append, List.length_cons, List.length_nil, List.length_map, List.length_take, List.length_drop, List.length_reverse]; unfold Ev.lim; omega))
  | ((with_reducible refine Ev.p_addT ?_ ?_); (· simp only [List.length_append, List.length_cons, List.length_nil, List.length_map, List.length_take, List.length_drop, List.length_reverse]; unfold Ev.lim; omega))
  | ((with_reducible refine Ev.ite_dt ?_ ?_); (· first | with_reducible rfl | decide))
  | ((with_reducible refine Ev.ite_df ?_ ?_); (· decide))
  | ((with_reducible show Ev.Ws (Ev.frzS _) _ _ _ _ _ _); refine Ev.gs_frzL (by exact rfl) ?_))
set_option maxRecDepth 100000
set_option maxHeartbeats 2000000
namespace Ev
open PySem L2
theorem step_rev {α : Type} (xs : List α) : Ev.stepL (-1) xs = xs.reverse := by
  have n : stepNo xs.length (-1) = xs.length := by
    unfold stepNo stepLo Builtin.Slice.slicePlaces
    simp only [show (-1 : Int) < 0 by decide, if_true]
    simp
    omega
  unfold Ev.stepL
  rw [n]
  have lo : stepLo xs.length (-1) = (xs.length : Int) - 1 := by unfold stepLo; simp
  rw [lo]
  have : ∀ k, k ≤ xs.length → ((List.range k).filterMap fun (m : Nat) => xs[((xs.length : Int) - 1 + (m : Int) * (-1)).toNat]?) = (xs.drop (xs.length - k)).reverse := by
    intro k
    induction k with
    | zero => intro _; simp
    | succ k ih =>
      intro h
      have hk : xs.length - (k + 1) < xs.length := by omega
      have e : ((xs.length : Int) - 1 + (k : Int) * (-1)).toNat = xs.length - (k + 1) := by omega
      rw [List.range_succ, List.filterMap_append, ih (by omega), List.drop_eq_getElem_cons hk, List.reverse_cons]
      have e2 : xs.length - (k + 1) + 1 = xs.length - k := by omega
      rw [e2]
      congr 1
      simp only [List.filterMap_cons, List.filterMap_nil, e, List.getElem?_eq_getElem hk]
  have := this xs.length (Nat.le_refl _)
  simpa using this
theorem dStep_rev (ds : List D) : dStep (-1) (.tup ds) = M.pure (.tup ds.reverse) := by
  show M.pure (D.tup (Ev.stepL (-1) ds)) = _
  rw [step_rev]
section
variable {S : List Ob} {PD : D → List Ob → Prop}
theorem p_lenT0 (h : PD (.int 0) S) : Wp (dLen (.tup [])) S PD := wp_run.mpr h
theorem p_lenT1 {x0 : D} (h : PD (.int 1) S) : Wp (dLen (.tup [x0])) S PD := wp_run.mpr h
theorem p_lenT2 {x0 x1 : D} (h : PD (.int 2) S) : Wp (dLen (.tup [x0, x1])) S PD := wp_run.mpr h
theorem p_lenT3 {x0 x1 x2 : D} (h : PD (.int 3) S) : Wp (dLen (.tup [x0, x1, x2])) S PD := wp_run.mpr h
theorem p_lenT4 {x0 x1 x2 x3 : D} (h : PD (.int 4) S) : Wp (dLen (.tup [x0, x1, x2, x3])) S PD := wp_run.mpr h
theorem p_lenT5 {x0 x1 x2 x3 x4 : D} (h : PD (.int 5) S) : Wp (dLen (.tup [x0, x1, x2, x3, x4])) S PD := wp_run.mpr h
theorem p_lenL0 (h : PD (.int 0) S) : Wp (dLen (.lst [])) S PD := wp_run.mpr h
theorem p_lenL1 {x0 : D} (h : PD (.int 1) S) : Wp (dLen (.lst [x0])) S PD := wp_run.mpr h
theorem p_lenL2 {x0 x1 : D} (h : PD (.int 2) S) : Wp (dLen (.lst [x0, x1])) S PD := wp_run.mpr h
theorem p_lenL3 {x0 x1 x2 : D} (h : PD (.int 3) S) : Wp (dLen (.lst [x0, x1, x2])) S PD := wp_run.mpr h
theorem p_lenL4 {x0 x1 x2 x3 : D} (h : PD (.int 4) S) : Wp (dLen (.lst [x0, x1, x2, x3])) S PD := wp_run.mpr h
theorem p_lenL5 {x0 x1 x2 x3 x4 : D} (h : PD (.int 5) S) : Wp (dLen (.lst [x0, x1, x2, x3, x4])) S PD := wp_run.mpr h
theorem p_revT {ds : List D} (h : PD (.tup ds.reverse) S) : Wp (dStep (-1) (.tup ds)) S PD := by
  rw [dStep_rev]
  exact go_pure h
theorem go_star0 {n : Nat} {ms : MS} {ds : List D} (l : ds.length < lim) (h : Ws ms (slots n [.val (.tup ds)]) S (fun _ S' => PD .non S') PD (fun _ _ => False) (fun _ _ => False)) : Wp (starFn 0 n ms ds) S PD := by
  unfold starFn
  rw [if_pos ⟨Nat.zero_le _, by omega⟩]
  exact go_fn rfl h
end
theorem pll_strs : ∀ {xs : List Str}, (∀ x ∈ xs, (PyData.str x).canLay0 = true) → PlnL 0 (xs.map D.str) (xs.map PyData.str)
  | [], _ => by unfold PlnL; exact ⟨rfl, rfl, rfl, Nat.zero_le _⟩
  | x :: xs, h => by
    have h1 := h x List.mem_cons_self
    have h2 := pll_strs (xs := xs) fun y hy => h y (List.mem_cons_of_mem _ hy)
    unfold PlnL at *
    obtain ⟨a, b, c, e⟩ := h2
    refine ⟨?_, ?_, ?_, ?_⟩
    · rw [List.map_cons, List.map_cons]
      unfold toPs
      rw [a]
      rfl
    · rw [List.map_cons]
      unfold noBs
      rw [b]
      rfl
    · rw [List.map_cons]
      unfold PyData.canLayAll0
      rw [c, h1]
      rfl
    · rw [List.map_cons]
      unfold PyData.depthAll PyData.depth
      omega
theorem in_pln {j k : Nat} {d : D} {p : PyData} {es : List D} {ps : List PyData} (neg : Bool) (h : Pln j d p) (l : PlnL k es ps) (hj : j ≤ 60) (hk : k ≤ 60) {P : Prop} [Decidable P] (i : p ∈ ps ↔ P) : dIn neg d (.lst es) = M.pure (.bl (if neg then !decide P else decide P)) := by
  unfold Pln at h
  unfold PlnL at l
  obtain ⟨a, b, c, f⟩ := h
  obtain ⟨a', b', c', f'⟩ := l
  have any : ∀ qs : List PyData, noBs qs = true → PyData.canLayAll0 qs = true → ((qs.any fun z => PyData.eqv z p) = true ↔ p ∈ qs) := by
    intro qs
    induction qs with
    | nil => intro _ _; simp
    | cons q qs ih =>
      intro nb cl
      unfold noBs at nb
      unfold PyData.canLayAll0 at cl
      rw [Bool.and_eq_true] at nb cl
      rw [List.any_cons, Bool.or_eq_true, ih nb.2 cl.2, List.mem_cons]
      constructor
      · rintro (h | h)
        · exact .inl (eqv_iff q p nb.1 b h).symm
        · exact .inr h
      · rintro (h | h)
        · subst h
          exact .inl (SeqAt.eqv_refl p c)
        · exact .inr h
  have e : (ps.any fun z => PyData.eqv z p) = decide P := by
    by_cases z : P
    · rw [decide_eq_true z]
      exact (any ps b' c').mpr (i.mpr z)
    · rw [decide_eq_false z]
      cases e : ps.any fun z => PyData.eqv z p with
      | false => rfl
      | true => exact absurd (i.mp ((any ps b' c').mp e)) z
  show (match toP d, toPs es with
    | some p, some ps => if SeqAt.shaped p = true ∧ SeqAt.shaped (.list ps) = true then M.pure (D.bl (if neg then !(ps.any fun z => PyData.eqv z p) else ps.any fun z => PyData.eqv z p)) else M.stuck
    | _, _ => M.stuck) = _
  rw [a, a']
  simp only
  rw [e]
  refine if_pos ⟨?_, ?_⟩
  · unfold SeqAt.shaped
    rw [c, decide_eq_true (by omega)]
    rfl
  · unfold SeqAt.shaped PyData.canLay0 PyData.depth
    rw [c', decide_eq_true (by omega)]
    rfl
end Ev
local macro_rules | `(tactic| regstrif_gather) => `(tactic| first
  | with_reducible refine Ev.p_lenT0 ?_
  | with_reducible refine Ev.p_lenT1 ?_
  | with_reducible refine Ev.p_lenT2 ?_
  | with_reducible refine Ev.p_lenT3 ?_
  | with_reducible refine Ev.p_lenT4 ?_
  | with_reducible refine Ev.p_lenT5 ?_
  | with_reducible refine Ev.p_lenL0 ?_
  | with_reducible refine Ev.p_lenL1 ?_
  | with_reducible refine Ev.p_lenL2 ?_
  | with_reducible refine Ev.p_lenL3 ?_
  | with_reducible refine Ev.p_lenL4 ?_
  | with_reducible refine Ev.p_lenL5 ?_
  | with_reducible refine Ev.p_revT ?_)
set_option maxRecDepth 100000
set_option maxHeartbeats 2000000
namespace Ev
open PySem L2
section
variable {S : List Ob} {sd : List SV} {N : List SV → List Ob → Prop} {R : D → List Ob → Prop} {B C : List SV → List Ob → Prop} {Q : D → List Ob → Prop} {c m n : Nat} {ms : MS} {ds : List D}
theorem go_mk (l : ds.length + 1 = m) (h : Ws ms (slots n (.own (.ins c []) :: ds.map .val)) S (fun sd S' => ∃ es, sd[0]? = some (.own (.ins c es)) ∧ Q (.ins c es) S') (fun _ _ => False) (fun _ _ => False) (fun _ _ => False)) : Wp (mkFn c m n ms ds) S Q := by
  have h := h.run
  refine wp_run.mpr ?_
  unfold Run mkFn
  unfold RunS at h
  rw [if_pos l]
  rcases e : ms (slots n (.own (.ins c []) :: ds.map .val)) S with _ | ⟨sd | _ | _ | _ | _, S'⟩
  · rw [e] at h; exact h
  · rw [e] at h
    obtain ⟨es, e0, q⟩ := h
    unfold mkR
    simp only
    rw [e0]
    simp only [if_true]
    exact q
  · rw [e] at h; exact h
  · rw [e] at h; exact h
  · rw [e] at h; exact h
  · rw [e] at h; exact h
theorem gs_setF {i : Nat} {tbl : Nat → Option Nat} {g : List SV → M D} {j : Nat} (e : sd[i]? = some (.own (.ins c ds))) (t : tbl c = some j) (h : Wp (g sd) S fun d S' => ∃ es, putL ds j d = some es ∧ N (sd.set i (.own (.ins c es))) S') : Ws (setFS i tbl g) sd S N R B C := by
  have h := h.run
  refine ws_run.mpr ?_
  unfold RunS setFS exS
  unfold Run at h
  rcases e2 : g sd S with _ | ⟨_ | d, S'⟩
  · rw [e2] at h; exact h
  · rw [e2] at h; exact h
  · rw [e2] at h
    obtain ⟨es, e3, q⟩ := h
    simp only [e, t, e3]
    exact q
end
structure IsRt (n s : Int) : Prop where
  nn : 0 ≤ s
  le : s * s ≤ n
  lt : n < (s + 1) * (s + 1)
theorem IsRt.uniq {n s t : Int} (h : IsRt n s) (l : IsRt n t) : s = t := by
  have a := h.nn
  have b := l.nn
  rcases Int.lt_trichotomy s t with c | c | c
  · have x : (s + 1) * (s + 1) ≤ t * t := Int.mul_le_mul (by omega) (by omega) (by omega) (by omega)
    have := h.lt
    have := l.le
    omega
  · exact c
  · have x : (t + 1) * (t + 1) ≤ s * s := Int.mul_le_mul (by omega) (by omega) (by omega) (by omega)
    have := l.lt
    have := h.le
    omega
theorem rt_ex : ∀ n : Nat, ∃ s : Int, IsRt n s
  | 0 => ⟨0, by decide, by decide, by decide⟩
  | n + 1 => by
    obtain ⟨s, h⟩ := rt_ex n
    have a := h.nn
    have b := h.le
    have c := h.lt
    by_cases z : (s + 1) * (s + 1) ≤ ((n + 1 : Nat) : Int)
    · refine ⟨s + 1, by omega, z, ?_⟩
      have : (s + 1 + 1) * (s + 1 + 1) = (s + 1) * (s + 1) + 2 * s + 3 := by grind
      omega
    · exact ⟨s, a, by omega, by omega⟩
theorem rt_of {n : Int} (h : 0 ≤ n) : ∃ s, IsRt n s := by
  obtain ⟨s, h⟩ := rt_ex n.toNat
  have e : (n.toNat : Int) = n := by omega
  rw [e] at h
  exact ⟨s, h⟩
theorem newton {n s g : Int} (h : IsRt n s) (g1 : 1 ≤ g) (gs : s ≤ g) : s ≤ (g + n / g) / 2 ∧ (s < g → 2 * ((g + n / g) / 2 - s) ≤ g - s) := by
  have a := h.nn
  have b := h.le
  have c := h.lt
  constructor
  · have k : 2 * s - g ≤ n / g := by
      refine Int.le_ediv_of_mul_le (by omega) ?_
      have e : s * s - (2 * s - g) * g = (s - g) * (s - g) := by grind
      have z : 0 ≤ (s - g) * (s - g) := by
        have : (s - g) * (s - g) = (g - s) * (g - s) := by grind
        rw [this]
        exact Int.mul_nonneg (by omega) (by omega)
      omega
    omega
  · intro l
    have k : n / g ≤ s := by
      refine Int.lt_add_one_iff.mp (Int.ediv_lt_of_lt_mul (by omega) ?_)
      have : (s + 1) * (s + 1) ≤ (s + 1) * g := Int.mul_le_mul_of_nonneg_left (by omega) (by omega)
      omega
    omega
theorem rt_lt {n s : Int} {k : Nat} (h : IsRt n s) (l : n < 2 ^ (2 * k)) : s < 2 ^ k := by
  rcases Int.lt_or_le s (2 ^ k) with z | z
  · exact z
  · have p : (0 : Int) < 2 ^ k := Int.pow_pos (by decide)
    have x : (2 : Int) ^ k * 2 ^ k ≤ s * s := Int.mul_le_mul z z (by omega) h.nn
    have e : (2 : Int) ^ (2 * k) = 2 ^ k * 2 ^ k := by rw [Nat.two_mul, Int.pow_add]
    have := h.le
    omega
end Ev
set_option maxRecDepth 100000
set_option maxHeartbeats 2000000
namespace Ev
open PySem L2
theorem gs_sup {S : List Ob} {sd : List SV} {N : List SV → List Ob → Prop} {R : D → List Ob → Prop} {B C : List SV → List Ob → Prop} {c m2 n2 : Nat} {ms2 : MS} {fa : List SV → M (List D)} {es : List D}
    (e : sd[0]? = some (.own (.ins c es))) (no : (sd.drop 1).all notOwn = true)
    (h : Wp (fa sd) S fun ds S1 => ds.length + 1 = m2 ∧ Ws ms2 (slots n2 (.own (.ins c es) :: ds.map .val)) S1 (fun sd' S2 => ∃ o, sd'[0]? = some (.own o) ∧ N (sd.set 0 (.own o)) S2) (fun _ _ => False) (fun _ _ => False) (fun _ _ => False)) :
    Ws (supS c m2 n2 ms2 fa) sd S N R B C := by
  have h := h.run
  refine ws_run.mpr ?_
  unfold Run at h
  unfold RunS supS
  rw [e]
  simp only
  rw [if_pos ⟨trivial, no⟩]
  unfold exS
  rcases e2 : fa sd S with _ | ⟨_ | ds, S1⟩
  · rw [e2] at h; exact h
  · rw [e2] at h; exact h
  · rw [e2] at h
    obtain ⟨l, q⟩ := h
    have q := q.run
    unfold RunS at q
    simp only
    rw [if_pos l]
    rcases e3 : ms2 (slots n2 (.own (.ins c es) :: ds.map .val)) S1 with _ | ⟨sd' | _ | _ | _ | _, S2⟩
    · rw [e3] at q; exact q
    · rw [e3] at q
      obtain ⟨o, e4, q⟩ := q
      simp only [e4]
      exact q
    · rw [e3] at q; exact q
    · rw [e3] at q; exact q
    · rw [e3] at q; exact q
    · rw [e3] at q; exact q
end Ev
set_option maxRecDepth 100000
set_option maxHeartbeats 2000000
namespace Ev
open PySem PySem.Spec PyProof.Rows L2
section
variable {G : Sg} {X : Cx} {W : WX} {k : Nat}
def par3S (i j l : Nat) (f : List SV → M (List D)) : MS := exS f fun ds sd S => match ds with
  | [a, b, c] => some (.next (((sd.set i (.val a)).set j (.val b)).set l (.val c)), S)
  | _ => none
theorem s_par3 {n i j l : Nat} {x y z : Str} {a b e : Expr} {f : List SV → M (List D)} {px py pz pt pos : Pos} {kt k2 : Nat} {pt2 : Pos} (c : Ctx G X W k) (hi : X.N[i]? = some x) (hj : X.N[j]? = some y) (hl : X.N[l]? = some z) (hij : i ≠ j) (hil : i ≠ l) (hjl : j ≠ l)
    (hx : X.env.scope.names.lookup x = some .local) (hy : X.env.scope.names.lookup y = some .local) (hz : X.env.scope.names.lookup z = some .local) (ha : PLn G X W n [a, b, e] f)
    (hw : swappedStores [.Tuple [.Name x px, .Name y py, .Name z pz] kt pt] (.Tuple [a, b, e] k2 pt2) X.env = pure (some [x, y, z])) :
    PSV G X W (.Assign [.Tuple [.Name x px, .Name y py, .Name z pz] kt pt] (.Tuple [a, b, e] k2 pt2) pos) (par3S i j l f) := by
  refine PS.imp (ps_par3 c.calm c.nd hi hj hl hij hil hjl hx hy hz ha hw rfl) fun D σ H q => ?_
  obtain ⟨w0, w, sd, S, e, r, q⟩ := q
  refine ⟨w0, w, sd, S, e, r, exS_step q r fun w1 S1 ds vs e1 r1 rv q1 => ?_⟩
  rcases ds with _ | ⟨d1, _ | ⟨d2, _ | ⟨d3, _ | ⟨d4, ds⟩⟩⟩⟩
  · exact q1.elim
  · exact q1.elim
  · exact q1.elim
  · obtain ⟨⟨v1, t1, e1, h1, v2, t2, e2, h2, v3, t3, e3, h3, e4⟩, _⟩ := rv
    subst e1 e2 e3
    cases (show t3 = [] from e4)
    exact ⟨v1, v2, v3, rfl, q1 w1 _ (Stay.refl w1) (((r1.setv h1 i).setv h2 j).setv h3 l)⟩
  · exact q1.elim
end
section
variable {S : List Ob} {sd : List SV} {N : List SV → List Ob → Prop} {R : D → List Ob → Prop} {B C : List SV → List Ob → Prop}
theorem gs_par3 {g : List SV → M (List D)} {i j l : Nat} (h : Wp (g sd) S fun ds S' => ∃ a b c, ds = [a, b, c] ∧ N (((sd.set i (.val a)).set j (.val b)).set l (.val c)) S') : Ws (par3S i j l g) sd S N R B C := by
  refine ws_run.mpr ?_
  unfold par3S
  refine runS_ex.mpr (h.run.mono fun ds S' q => ?_)
  obtain ⟨a, b, c, rfl, q⟩ := q
  exact q
end
end Ev
set_option maxRecDepth 100000
set_option maxHeartbeats 2000000
namespace Ev
open PySem PySem.Spec PyProof.Rows L2
section
variable {G : Sg} {X : Cx} {W : WX} {k : Nat}
def addI : D → D → M D
  | .int i, .int j => M.pure (.int (i + j))
  | _, _ => M.stuck
def augS (i : Nat) (f : List SV → M D) : MS := fun sd S => match sd[i]? with
  | some (SV.val (.int a)) => exS f (fun b sd S => match b with
    | .int j => some (.next (sd.set i (.val (.int (a + j)))), S)
    | _ => none) sd S
  | _ => none
theorem s_aug {i : Nat} {x : Str} {e : Expr} {f : List SV → M D} {pos pos' : Pos} (c : Ctx G X W k) (hi : X.N[i]? = some x) (hx : Loc X.env.scope x) (he : PV G X W e f) (hf : X.fn x = true ∨ X.env.scope.names.lookup x = some .local) :
    PSV G X W (.AugAssign (.Name x pos') .Add e pos) (augS i f) := by
  refine PS.imp (ps_aug c.nd hi hx he ip_add hf) fun D σ H q => ?_
  obtain ⟨w0, w, sd, S, e, r, q⟩ := q
  unfold augS at q
  rcases hs : sd[i]? with _ | _ | d | o
  · rw [hs] at q; exact q.elim
  · rw [hs] at q; exact q.elim
  · rw [hs] at q
    cases d with
    | int a =>
      obtain ⟨v, h1, h2⟩ := r.vl i _ hs
      cases (show v = .int a from h2)
      refine ⟨.int a, h1, w0, w, sd, S, e, r, exS_step q r fun w1 S1 b u e1 r1 rv q1 => ?_⟩
      cases b with
      | int j =>
        cases (show u = .int j from rv)
        exact ⟨a, j, rfl, rfl, q1 w1 _ (Stay.refl w1) (r1.setv (d := .int (a + j)) rfl i)⟩
      | _ => exact q1.elim
    | _ => exact q.elim
  · rw [hs] at q; exact q.elim
end
theorem gs_aug {S : List Ob} {sd : List SV} {N : List SV → List Ob → Prop} {R : D → List Ob → Prop} {B C : List SV → List Ob → Prop} {f : List SV → M D} {i : Nat} {a : Int} (e : sd[i]? = some (.val (.int a)))
    (h : Wp (f sd) S fun d S' => ∃ j, d = .int j ∧ N (sd.set i (.val (.int (a + j)))) S') : Ws (augS i f) sd S N R B C := by
  refine ws_run.mpr ?_
  unfold RunS augS
  rw [e]
  refine (runS_ex (k := fun b sd S => match b with
    | .int j => some (.next (sd.set i (.val (.int (a + j)))), S)
    | _ => none)).mpr (h.run.mono fun d S' q => ?_)
  obtain ⟨j, rfl, q⟩ := q
  exact q
end Ev
set_option maxRecDepth 100000
set_option maxHeartbeats 2000000
namespace Ev
open PySem PySem.Spec PyProof.Rows L2
def maxI (x : Int) (xs : List Int) : Int := xs.foldl (fun a y => if a < y then y else a) x
def intsD : List D → Option (List Int)
  | [] => some []
  | .int i :: ds => (intsD ds).map (i :: ·)
  | _ :: _ => none
def dMaxT : D → M D
  | .tup (.int x :: ds) => match intsD ds with
    | some xs => M.pure (.int (maxI x xs))
    | none => M.stuck
  | _ => M.stuck
def dMax3 : List D → M D
  | [.int i, .int j, .int k] => M.pure (.int (maxI i [j, k]))
  | _ => M.stuck
section
variable {G : Sg} {X : Cx} {k : Nat}
theorem ints_rep : ∀ {ds : List D} {ns : List Int} {w : Wd} {vs : List V}, intsD ds = some ns → RepVs G w ds vs → vs = ns.map V.int
  | [], ns, w, vs, h, r => by unfold intsD at h; cases h; exact r
  | .int b :: ds, ns, w, vs, h, r => by
    unfold intsD at h
    obtain ⟨cs, h1, h2⟩ := Option.map_eq_some_iff.mp h
    subst h2
    obtain ⟨v, t, e, h3, h4⟩ := r
    rw [e, ints_rep h1 h4]
    cases (show v = .int b from h3)
    rfl
  | .bl _ :: _, _, _, _, h, _ => by cases h
  | .non :: _, _, _, _, h, _ => by cases h
  | .str _ :: _, _, _, _, h, _ => by cases h
  | .tup _ :: _, _, _, _, h, _ => by cases h
  | .lst _ :: _, _, _, _, h, _ => by cases h
  | .scr _ :: _, _, _, _, h, _ => by cases h
  | .dct _ _ :: _, _, _, _, h, _ => by cases h
  | .ins _ _ :: _, _, _, _, h, _ => by cases h
  | .ref _ :: _, _, _, _, h, _ => by cases h
  | .ty _ :: _, _, _, _, h, _ => by cases h
  | .cls _ :: _, _, _, _, h, _ => by cases h
def rMaxT (K : PySem.W.Frag) : List V → Hp → VK → Prop := fun vs H Q => ∃ (a : Addr) (x : Int) (xs : List Int), vs = [V.ref a] ∧ SqT K H a ((x :: xs).map V.int) ∧ Q (.int (maxI x xs)) H
theorem maxOf_int (x : Int) (xs : List Int) : PySem.W.maxOf x xs = maxI x xs := by
  unfold PySem.W.maxOf maxI
  congr 1
  funext a y
  show (if decide (a < y) = true then y else a) = _
  by_cases h : a < y <;> simp [h]
theorem cr_maxT (hc : X.calm = true) (hr : Rm k X.A) : CallR X (.builtin "max") (rMaxT X.K) := by
  intro pins s σ H vs us Q I r h
  obtain ⟨a, x, xs, rfl, hs, q⟩ := h
  obtain ⟨its, rv, hl, _⟩ := I.tuple hs
  rw [Vals.ref1 r]
  have hu : X.A.units + 1 + PySem.W.Datum.depth Int < cLine := by
    have := hr.room.units
    show X.A.units + 1 + 0 < cLine
    omega
  refine PySem.W.max_tuple_datum (α := Int) (I.ok.hd hc) (show s.heap.IsTuple a its.toArray from hl) (x := x) (xs := xs) (by simpa using PySem.W.HoldAll.of_ints rv.ints) hu fun i v h' tk hi hv hk => ?_
  obtain ⟨t, e⟩ : ∃ t, v = Value.int (PySem.W.maxOf x xs) t := by
    obtain ⟨as, rd⟩ := hv
    cases rd
    exact ⟨_, rfl⟩
  subst e
  rw [maxOf_int]
  exact ⟨.int _, H, I.kept hk, ⟨_, rfl⟩, q⟩
theorem c_maxT (hc : X.calm = true) (cK : G.K = X.K) (hr : Rm k X.A) : CallR X (.builtin "max") (rDs G (on1 dMaxT)) := by
  refine CallR.imp (cr_maxT hc hr) fun vs H Q h => ?_
  obtain ⟨W, w, S, d, v, rfl, s, rfl, r, q⟩ := on1_of h
  cases d with
  | tup ds =>
    cases ds with
    | nil => exact q.elim
    | cons d ds =>
      cases d with
      | int x =>
        unfold dMaxT at q
        rcases hb : intsD ds with _ | xs
        · simp only [hb] at q; exact q.elim
        · simp only [hb] at q
          obtain ⟨a, vs, e, hh, rs⟩ := r
          have hvs := ints_rep (ds := .int x :: ds) (ns := x :: xs) (by unfold intsD; rw [hb]; rfl) rs
          subst e hvs
          exact ⟨a, x, xs, rfl, sqT_of cK hh, fin_pure q s rfl⟩
      | _ => exact q.elim
  | _ => exact q.elim
theorem c_max3 (hc : X.calm = true) : CallR X (.builtin "max") (rDs G dMax3) := by
  refine CallR.imp (call_max3Nu hc) fun vs H Q h => ?_
  obtain ⟨W, w, S, ds, rfl, s, r, q⟩ := h
  unfold dMax3 at q
  split at q
  · rename_i i j l
    obtain ⟨v1, t1, e1, h1, r⟩ := r
    obtain ⟨v2, t2, e2, h2, r⟩ := r
    obtain ⟨v3, t3, e3, h3, r⟩ := r
    cases (show t3 = [] from r)
    cases (show v1 = .int i from h1)
    cases (show v2 = .int j from h2)
    cases (show v3 = .int l from h3)
    subst e1 e2 e3
    refine ⟨_, _, _, .int (maxI i [j, l]), rfl, ?_, fin_pure q s rfl⟩
    show (nuMax2 (.int i) (.int j)).bind (fun m => nuMax2 m (.int l)) = _
    have two : ∀ a b : Int, nuMax2 (.int a) (.int b) = some (.int (if a < b then b else a)) := fun a b => by
      show some (if decide (a < b) = true then V.int b else V.int a) = _
      by_cases h : a < b <;> simp [h]
    rw [two]
    exact two _ _
  · exact q.elim
end
theorem p_maxT {S : List Ob} {P : D → List Ob → Prop} {x : Int} {ds : List D} {xs : List Int} (e : intsD ds = some xs) (h : P (.int (maxI x xs)) S) : Wp (dMaxT (.tup (.int x :: ds))) S P := by
  unfold dMaxT
  simp only [e]
  exact go_pure h
theorem p_max3 {S : List Ob} {P : D → List Ob → Prop} {i j l : Int} (h : P (.int (maxI i [j, l])) S) : Wp (dMax3 [.int i, .int j, .int l]) S P := go_pure h
theorem maxI_two (x y : Int) : maxI x [y] = if x < y then y else x := rfl
end Ev
set_option maxRecDepth 100000
set_option maxHeartbeats 2000000
namespace Ev
open PySem PySem.Spec PyProof.Rows L2
def Txt (n : Nat) (m : M D) : Prop := ∃ y : Str, m = M.pure (.str y) ∧ y.length ≤ n
theorem txt_lit {n : Nat} {y : Str} (h : y.length ≤ n) : Txt n (M.pure (.str y)) := ⟨y, rfl, h⟩
theorem str_app_len (x y : Str) : (x ++ y).length = x.length + y.length := by
  show (x.cps ++ y.cps).size = _
  rw [Array.size_append]
  rfl
theorem joinFs_ex {n : Nat} : ∀ (fs : List (List SV → M D)) (acc : Str) (sd : List SV), (∀ f ∈ fs, Txt n (f sd)) → acc.length + n * fs.length ≤ lim → ∃ x, joinFs fs acc sd = M.pure (.str x)
  | [], acc, sd, _, _ => ⟨acc, rfl⟩
  | f :: fs, acc, sd, h, l => by
    obtain ⟨y, e, ly⟩ := h f List.mem_cons_self
    rw [List.length_cons, Nat.mul_succ] at l
    have la := str_app_len acc y
    obtain ⟨x, ex⟩ := joinFs_ex fs (acc ++ y) sd (fun g hg => h g (List.mem_cons_of_mem _ hg)) (by omega)
    refine ⟨x, ?_⟩
    unfold joinFs
    rw [e]
    show (if (acc ++ y).length ≤ lim then joinFs fs (acc ++ y) sd else M.stuck) = _
    rw [if_pos (by omega), ex]
theorem fmt_int {k : Nat} {i : Int} (h : Bd k i) (l : k ≤ 1900) : Txt 2000 (dFmt (.int i)) := by
  have a := (h.mono (show k ≤ 1920 by omega)).nat
  have b : i.natAbs.log2 < 1920 := by
    by_cases z : i.natAbs = 0
    · rw [z]
      decide +kernel
    · exact (Nat.log2_lt z).mpr a
  have c := PyProof.Rows.int_text_len_1921 b
  refine ⟨(toString i : String), ?_, ?_⟩
  · show (if strOk i = true then M.pure (D.str (toString i : String)) else M.stuck) = _
    rw [if_pos (show strOk i = true from decide_eq_true b)]
  · show (Str.ofString (toString i)).length ≤ 2000
    omega
end Ev
set_option maxRecDepth 100000
set_option maxHeartbeats 2000000
namespace Ev
open PySem PySem.Spec PyProof.Rows L2
section
variable {G : Sg} {X : Cx} {W : WX} {k : Nat}
def ownIteS (i : Nat) (fc : List SV → M Bool) (fa : List SV → M (List D)) : MS := exS fc fun b => if b = true then ownS i fa else fun sd S => match sd[i]? with
  | some (.own _) => nextS sd S
  | _ => none
theorem s_ownIte {i : Nat} {x : Str} {c a : Expr} {fc : List SV → M Bool} {fa : List SV → M (List D)} {pos pos' p ip : Pos} (cx : Ctx G X W k) (hi : X.N[i]? = some x) (hx : Loc X.env.scope x) (hc : PB G X W c fc) (ha : PO_ G X W a fa)
    (hv : Vis X.env.scope x) (hd : (x == ("__debug__" : Str)) = false) (hcd : (x == ("__classdict__" : Str)) = false) (hs : swapFree (.IfExp c a (.Name x p) ip) = true) (hf : X.fn x = true ∨ X.env.scope.names.lookup x = some .local) (i0 : i ≠ 0) :
    PSV G X W (.Assign [.Name x pos'] (.IfExp c a (.Name x p) ip) pos) (ownIteS i fc fa) := by
  refine PS.imp (ps_set cx.nd hi hx (pe_ifExp hc ha (pe_var (X := X) (pos := p) hi hv hd hcd)) (swap_free hs) hf) fun En σ H q => ?_
  obtain ⟨w0, w, sd, S, e, r, q⟩ := q
  refine ⟨w0, w, sd, S, e, r, exS_step q r fun w1 S1 d v _ r1 rv q1 => ?_⟩
  cases (show v = d from rv)
  cases d with
  | true =>
    have q1 : FinS G W w0 w1 En (ownS i fa sd S1) := q1
    refine ⟨w0, w1, sd, S1, rfl, r1, ?_⟩
    unfold ownS exS at q1
    rcases hf : fa sd S1 with _ | ⟨_ | ds, S2⟩
    · rw [hf] at q1; exact q1
    · rw [hf] at q1
      exact fun w' cls x e s rx => q1 w' σ cls x (e.stay r1.st.dj) (r1.step e s) rx
    · rw [hf] at q1
      intro w' p vs e1 s1 h1 h2 h3 h4 h5
      have r2 := r1.step e1 s1
      refine q1 w' (σ.set i (some (.ref p))) (e1.stay r1.st.dj) (r2.setown ⟨vs, h1, h2⟩ h3 h4 (r1.ex.al _ h5) (fun j o' ho hj => ?_) i0)
      obtain ⟨a, e2, hr, _⟩ := r1.ow j o' ho
      rw [hj] at e2
      cases e2
      exact hr.there h5
  | false =>
    have q1 : FinS G W w0 w1 En (match sd[i]? with
      | some (.own _) => nextS sd S1
      | _ => none) := q1
    rcases hi2 : sd[i]? with _ | _ | d0 | o
    · rw [hi2] at q1; exact q1.elim
    · rw [hi2] at q1; exact q1.elim
    · rw [hi2] at q1; exact q1.elim
    · rw [hi2] at q1
      obtain ⟨a1, ea, _⟩ := r1.ow i o hi2
      have es : σ.set i (some (.ref a1)) = σ := by
        refine List.ext_getElem? fun j => ?_
        by_cases h : i = j
        · subst h
          rw [ea]
          have l : i < σ.length := (List.getElem?_eq_some_iff.mp ea).1
          rw [List.getElem?_set_self l]
        · rw [List.getElem?_set_ne h]
      refine ⟨.ref a1, ea, ?_⟩
      show En.nx (σ.set i (some (.ref a1))) w1.H
      rw [es]
      exact q1 w1 σ (Stay.refl w1) r1
end
theorem gs_ownIte {S : List Ob} {sd : List SV} {N : List SV → List Ob → Prop} {R : D → List Ob → Prop} {B C : List SV → List Ob → Prop} {i : Nat} {fc : List SV → M Bool} {fa : List SV → M (List D)} {o : Ob} (e : sd[i]? = some (.own o))
    (h : Wp (fc sd) S fun b S' => if b = true then Ws (ownS i fa) sd S' N R B C else N sd S') : Ws (ownIteS i fc fa) sd S N R B C := by
  refine gs_if (go_use h fun b S' h => ?_)
  cases b with
  | true => exact h
  | false =>
    have h : N sd S' := h
    refine ws_run.mpr ?_
    have g := ws_run.mp (gs_next (R := R) (B := B) (C := C) h)
    unfold RunS at *
    dsimp only
    rw [e]
    exact g
end Ev
set_option maxRecDepth 100000
set_option maxHeartbeats 2000000
namespace Ev
open PySem PySem.Spec PyProof.Rows L2
section
variable {G : Sg} {X : Cx} {W : WX} {k : Nat}
def catOwn (i : Nat) (fb : List SV → M D) : List SV → M (List D) := fun sd => match sd[i]? with
  | some (.own (.lst ds)) => M.bind (fb sd) fun y => catL (.lst ds) y
  | _ => M.stuck
theorem o_catOwn {i : Nat} {x : Str} {b : Expr} {fb : List SV → M D} {p pos : Pos} (hN : X.N[i]? = some x) (hv : Vis X.env.scope x) (hd : (x == ("__debug__" : Str)) = false) (hcd : (x == ("__classdict__" : Str)) = false) (hb : PV G X W b fb) : PO_ G X W (.BinOp (.Name x p) .Add b pos) (catOwn i fb) := by
  refine PE.imp (pe_op op_cat (pe_var (X := X) (pos := p) hN hv hd hcd) hb) fun σ H Q h => ?_
  obtain ⟨w0, w, sd, S, e, r, q⟩ := h
  subst e
  unfold catOwn at q
  rcases hi : sd[i]? with _ | _ | d0 | ⟨ds | ⟨ks, ds⟩ | ⟨cc, ds⟩⟩
  · rw [hi] at q; exact q.elim
  · rw [hi] at q; exact q.elim
  · rw [hi] at q; exact q.elim
  · rw [hi] at q
    obtain ⟨a, ea, _⟩ := r.ow i _ hi
    refine ⟨.ref a, ea, w0, w, sd, S, rfl, r, finO_step q fun w2 S2 d2 v2 e2 s2 rv2 q2 => ?_⟩
    have r2 := r.step e2 s2
    obtain ⟨a2, ea2, ho, _⟩ := r2.ow i _ hi
    rw [ea] at ea2
    cases ea2
    obtain ⟨va, ha, ra⟩ := ho
    cases d2 <;> first | exact q2.elim | skip
    obtain ⟨c, q2⟩ := finO_ite q2
    obtain ⟨b, vb, eb, fb, hb, rb⟩ := rv2
    rw [ra.length, rb.length, lim_eq] at c
    exact ⟨a, b, va, vb, rfl, eb, ha, hb, c, fun p hp => finO_new q2 s2 (RepVs.append ra rb) hp⟩
  · rw [hi] at q; exact q.elim
  · rw [hi] at q; exact q.elim
end
theorem go_catOwn {S : List Ob} {sd : List SV} {P : List D → List Ob → Prop} {i : Nat} {fb : List SV → M D} {ds : List D} (e : sd[i]? = some (.own (.lst ds)))
    (h : Wp (fb sd) S fun y S' => ∃ es, y = .lst es ∧ ds.length + es.length ≤ lim ∧ P (ds ++ es) S') : Wp (catOwn i fb sd) S P := by
  unfold catOwn
  rw [e]
  refine go_bind (h.mono fun y S' q => ?_)
  obtain ⟨es, rfl, l, q⟩ := q
  show Wp (if ds.length + es.length ≤ lim then M.pure (ds ++ es) else M.stuck) S' P
  rw [if_pos l]
  exact go_pure q
end Ev
set_option maxRecDepth 100000
set_option maxHeartbeats 2000000
namespace Ev
open PySem PySem.Spec PyProof.Rows L2
section
variable {P : Program} {w : World} {K : PySem.W.Frag} {mg : Str → Option Value} {base : Heap} {j k : Nat} {f : Addr} {fd : FuncData} {N ps : List Str}
def DecR (fr : List Env) (P : Program) (w : World) (H : Hp) (s : Shared) (Q : Hp → Prop) (r : Result) (s' : Shared) : Prop :=
  r = .ok (.ret .notImplemented) ∧ CE fr P w H s (fun v H' => v = .non ∧ Q H') .none s'
theorem dec_of {name qual : Str} {params : Arguments} {c : Expr} {rest : List Stmt} {p1 p2 p3 : Pos} {scope : Scope} {dV kV doc pm cdv ct oc : Value} {an od : Option Addr} {osl : Array (Option Value)}
    (lk : K.lookup f = some ⟨oc, od, .func (PySem.W.fnOf name qual params (.If c [.Return (some (.Name "NotImplemented" p1)) p2] [] p3 :: rest) scope dV kV doc pm an cdv ct), osl⟩) (hcd : PySem.W.codeIn K cdv qual = true) (SC : FnScope N ps scope)
    {A : Around} {fr : List Env} {s : Shared} {H : Hp} {args : Args} {us : List Value} {vs : List V} {Q : Hp → Prop}
    (hr : Rm (k + 1) A) (e0 : Env0 P w K mg base A fr s H) (hbind : BindsTo s (PySem.W.fnOf name qual params (.If c [.Return (some (.Name "NotImplemented" p1)) p2] [] p3 :: rest) scope dV kV doc pm an cdv ct) args (ps.zip us)) (rv : Vals vs us) (len : vs.length = ps.length)
    (hm : mg "NotImplemented" = none)
    (hb : ∀ E : XK, Rm k (A.deeper (envOfC qual scope s.heap.objs.size f cdv)) → Gl (cxOf (L2.CX P w) P w K mg base N qual scope f cdv A fr s H E) "NotImplemented" ∧
      ∃ tc, PT (cxOf (L2.CX P w) P w K mg base N qual scope f cdv A fr s H E) c tc ∧ tc (start N vs) H (fun b H' => b = true ∧ Q H')) :
    codeAny (model P w) A (.call (.ref f) args) (DecR fr P w H s Q) s := by
  have inK : K.In s.heap := by
    refine e0.mod.kin.keeps ?_
    exact fun b o e => (e0.bs b o e).1
  have noL : s.heap.NoLimit := by
    refine e0.mod.nolimit.keeps ?_
    exact fun b o e => (e0.bs b o e).1
  have kinds : ∀ y ∈ ps.zip us, scope.names.lookup y.1 = some .local ∨
      (scope.names.lookup y.1 = some .cell ∧ ((cellsFrom (s.heap.objs.size + 1) scope.names []).lookup y.1).isSome = true) := by
    rintro ⟨n, v⟩ hy
    have hn := SC.par n (List.of_mem_zip hy).1
    exact hn.imp id fun q => ⟨q, PySem.W.cellsFrom_some _ _ _ (.inl q)⟩
  refine codeAny_call_function hr.room.depth (inK _ _ lk) rfl SC.co SC.gen rfl ?_ (hbind _ _ _ _ ?_)
  · exact PySem.W.codeRec_of inK hcd
  refine wpAny_newFunctionEnv_cells SC.kind kinds ?_
  rintro env rfl s1 x
  refine ⟨noL.keeps x.toInCall.keep, codeAny_func ?_⟩
  obtain ⟨hg, t, ht, hq⟩ := hb (fun _ _ _ => False) (hr.deeper _)
  have I := inv_start (CX := L2.CX P w) (P := P) (w := w) (E := fun _ _ _ => False) SC hr.room.hd e0 len rv x
  have run := ht.run [] s1 _ H _ I hq
  have thnX : wpAny (model P w) (cxOf (L2.CX P w) P w K mg base N qual scope f cdv A fr s H (fun _ _ _ => False)).A (execs (.If c [.Return (some (.Name "NotImplemented" p1)) p2] [] p3 :: rest) (cxOf (L2.CX P w) P w K mg base N qual scope f cdv A fr s H (fun _ _ _ => False)).env)
      (fun fl s' => fl = .ret .notImplemented ∧ CE fr P w H s (fun v H' => v = .non ∧ Q H') .none s') (cxOf (L2.CX P w) P w K mg base N qual scope f cdv A fr s H (fun _ _ _ => False)).xe s1 := by
    refine wpAny_execs_cons (wpAny_If (wpAny_mono run (fun d s2 z => ?_) fun _ _ e => e))
    obtain ⟨H1, I1, rfl, q1⟩ := z
    refine wpAny_execs_cons (wpAny_Return_some (ld_blt I1 hg hm rfl ?_))
    exact ⟨rfl, .non, H1, I1.os, I1.bare, I1.base, I1.hok, rfl, rfl, q1⟩
  refine wpAny_mono thnX ?_ (fun e s' hs => ?_)
  · rintro fl s' ⟨rfl, z⟩
    exact ⟨rfl, z⟩
  · refine wpAny_mono hs (fun y s'' hq => ?_) (fun e' s'' hq => ?_)
    · obtain ⟨_, _, _, _, _, _, _, _, _, _, _, _, z⟩ := hq
      exact z.elim
    · obtain ⟨_, _, _, _, _, _, _, _, _, _, _, _, z⟩ := hq
      exact z.elim
def DecS (P : Program) (w : World) (K : PySem.W.Frag) (mg : Str → Option Value) (base : Heap) (G : Sg) (k m n : Nat) (f : Addr) (fc : List SV → M Bool) : Prop :=
  ∀ (A : Around) (fr : List Env) (s : Shared) (wd : Wd) (us : List Value) (vs : List V) (ds : List D) (S S' : List Ob) (Q : Hp → Prop),
    Rm k A → Env0 P w K mg base A fr s wd.H → Vals vs us → RepS G wd S → RepVs G wd ds vs → ds.length = m → fc (slots n (ds.map .val)) S = some (.ok true, S') → (∀ w', Ext wd w' → RepS G w' S' → Q w'.H) →
    codeAny (model P w) A (.call (.ref f) ⟨us, []⟩) (DecR fr P w wd.H s Q) s
theorem dec_rule {G : Sg} {x qual : Str} {st : Stmt} {c : Expr} {rest : List Stmt} {p1 p2 p3 : Pos} {fc : List SV → M Bool} {m n : Nat} (F : Fun K x qual st f fd) (SC : FnScope N ps (defScope st)) (hb : Binds K fd ps []) (cK : G.K = K) (hbody : defBody st = .If c [.Return (some (.Name "NotImplemented" p1)) p2] [] p3 :: rest) (hm : mg "NotImplemented" = none)
    (nl : N.length = n) (pl : ps.length = m) (mn : m ≤ n)
    (B : ∀ (cdv : Value) (A : Around) (fr : List Env) (s : Shared) (H : Hp) (E : XK), Ctx G (XF P w K mg base N qual st f cdv A fr s H E) (WF E) k → Gl (XF P w K mg base N qual st f cdv A fr s H E) "NotImplemented" ∧ PB G (XF P w K mg base N qual st f cdv A fr s H E) (WF E) c fc) :
    DecS P w K mg base G (k + 2) m n f fc := by
  obtain ⟨oc, od, kV, doc, pm, an, cdv, ct, osl, rfl, lk, hcd⟩ := F.ex
  intro A fr s wd us vs ds S S' Q hr e0 rv rs rd ld ht hq
  have vl : vs.length = ps.length := by rw [← rd.length, ld, pl]
  have inK : K.In s.heap := e0.mod.kin.keeps fun b o e => (e0.bs b o e).1
  have b2 := hb s us inK (by rw [List.append_nil, ← rv.length]; exact vl)
  rw [List.append_nil] at b2
  rw [hbody] at lk b2
  refine dec_of (Q := Q) (k := k + 1) lk hcd SC hr e0 b2 rv vl hm fun E hr2 => ?_
  obtain ⟨b3, b4⟩ := B cdv A fr s wd.H E (ctxF cK SC hr2)
  refine ⟨b3, _, b4, ?_⟩
  subst nl
  refine ⟨wd, wd, _, S, rfl, R.enter rs rd (by omega), ?_⟩
  show FinG G _ _ wd _ (fc (slots N.length (ds.map .val)) S)
  rw [ht]
  intro w' v e s' rv'
  cases (show v = true from rv')
  exact ⟨rfl, hq w' e s'⟩
end
end Ev
set_option maxRecDepth 100000
set_option maxHeartbeats 2000000
namespace PySem.W
open PySem PyProof.Rows
section
variable {prog : Program} {w : World} {A : Around} {E : Value → Shared → Prop} {s : Shared} {K : Frag} {x C : Addr} {h₀ : Heap} {ox oy : Obj} {od : Option Obj} {f : Addr}
theorem evn_eq {u : Value} {T : String} {Q : Value → Shared → Prop} {R : Shared → Prop} (hu : A.units < cLine) (X : K.In s.heap) (I : InstAt s.heap x ox C od) (hT : s.TypeIs u T) (sub : subIn K (.type T) (.ref C) = some false)
    (hs : findIn K (.ref C) "__eq__" = some (some (.ref f))) (hf : isFn K (.ref f) = true) (hsame : ∀ (s' : Shared) (Q' : Bool → Shared → Prop), R s' → Q' false s' → wpAny (model prog w) A (isSame (.ref x) u) Q' E s')
    (h1 : wpAny (model prog w) A (call (.ref f) [.ref x, u]) (fun v s' => v = .notImplemented ∧ R s') E s)
    (h2 : ∀ s', R s' → wpAny (model prog w) A (tryCompare u "__eq__" (.ref x)) (fun r s'' => r = none ∧ s'' = s') E s')
    (h3 : ∀ s', R s' → Q (.bool false) s') : wpAny (model prog w) A (compareOp .Eq (.ref x) u) Q E s := by
  refine cmp_ofEq ?_
  have one : wpAny (model prog w) A (tryCompare (.ref x) "__eq__" u) (fun r s' => r = none ∧ R s') E s := by
    unfold tryCompare
    refine wpAny_bind (ifBound_K X I hs hf (wpAny_mono h1 (fun v s' hv => ?_) fun _ _ e => e))
    obtain ⟨rfl, hr⟩ := hv
    exact wpAny_pure ⟨rfl, hr⟩
  simp only [richCompare, cmpInfo_Eq, oneThing_ref]
  refine wpAny_holding (wpAny_bind (wpAny_cRoomFor hu ?_))
  refine wpAny_bind (I.type.here ?_)
  refine wpAny_bind (wpAny_typeOf hT ?_)
  split
  · refine wpAny_bind ((looks_subIn X sub).here ?_)
    simp only [Bool.false_eq_true, if_false, Bool.not_false, if_true]
    refine wpAny_bind (m := tryCompare (.ref x) _ u) (wpAny_mono one (fun r s1 z => ?_) fun _ _ e => e)
    obtain ⟨z1, z2⟩ := z
    subst z1
    refine wpAny_bind (m := tryCompare u _ (.ref x)) (wpAny_mono (h2 s1 z2) (fun r s2 z => ?_) fun _ _ e => e)
    obtain ⟨z1, z3⟩ := z
    subst z1
    subst z3
    exact wpAny_bind (wpAny_rule (wpAny_bind (hsame _ _ z2 (wpAny_pure (h3 _ z2)))))
  · rename_i q
    exact absurd (by simp) q
end
end PySem.W
set_option maxRecDepth 100000
set_option maxHeartbeats 2000000
namespace PySem.W
open PyProof.Rows
open PySem.AutoSeq1 (wpAny_loadPart')
section
variable (l : Addr) (C dx : Addr)
theorem dcl_int_eq (b : Int) (u : Tok) : Meets (Builtin.«int.__eq__» ⟨[.int b u, .ref l], []⟩) (fun _ R s => s.heap.get? l = some (instObj C dx) ∧ R (.ok (.ret .notImplemented)) s) :=
  .of_wp fun prog w A R s h => by obtain ⟨hp, g, d, tk, os⟩ := s; obtain ⟨hl, h⟩ := h; wp_walk using wpAny_loadPart' hl, wpAny_load hl; exact ⟨_, rfl, h⟩
theorem dcl_int_ne (b : Int) (u : Tok) : Meets (Builtin.«int.__ne__» ⟨[.int b u, .ref l], []⟩) (fun _ R s => s.heap.get? l = some (instObj C dx) ∧ R (.ok (.ret .notImplemented)) s) :=
  .of_wp fun prog w A R s h => by obtain ⟨hp, g, d, tk, os⟩ := s; obtain ⟨hl, h⟩ := h; wp_walk using wpAny_loadPart' hl, wpAny_load hl; exact ⟨_, rfl, h⟩
theorem dcl_bl_eq (b : Bool) : Meets (Builtin.«int.__eq__» ⟨[.bool b, .ref l], []⟩) (fun _ R s => s.heap.get? l = some (instObj C dx) ∧ R (.ok (.ret .notImplemented)) s) :=
  .of_wp fun prog w A R s h => by obtain ⟨hp, g, d, tk, os⟩ := s; obtain ⟨hl, h⟩ := h; wp_walk using wpAny_loadPart' hl, wpAny_load hl; exact ⟨_, rfl, h⟩
theorem dcl_bl_ne (b : Bool) : Meets (Builtin.«int.__ne__» ⟨[.bool b, .ref l], []⟩) (fun _ R s => s.heap.get? l = some (instObj C dx) ∧ R (.ok (.ret .notImplemented)) s) :=
  .of_wp fun prog w A R s h => by obtain ⟨hp, g, d, tk, os⟩ := s; obtain ⟨hl, h⟩ := h; wp_walk using wpAny_loadPart' hl, wpAny_load hl; exact ⟨_, rfl, h⟩
theorem dcl_str_eq (b : Str) (u : Tok) : Meets (Builtin.«str.__eq__» ⟨[.str b u, .ref l], []⟩) (fun _ R s => s.heap.get? l = some (instObj C dx) ∧ R (.ok (.ret .notImplemented)) s) :=
  .of_wp fun prog w A R s h => by obtain ⟨hp, g, d, tk, os⟩ := s; obtain ⟨hl, h⟩ := h; wp_walk using wpAny_loadPart' hl, wpAny_load hl; exact ⟨_, rfl, h⟩
theorem dcl_str_ne (b : Str) (u : Tok) : Meets (Builtin.«str.__ne__» ⟨[.str b u, .ref l], []⟩) (fun _ R s => s.heap.get? l = some (instObj C dx) ∧ R (.ok (.ret .notImplemented)) s) :=
  .of_wp fun prog w A R s h => by obtain ⟨hp, g, d, tk, os⟩ := s; obtain ⟨hl, h⟩ := h; wp_walk using wpAny_loadPart' hl, wpAny_load hl; exact ⟨_, rfl, h⟩
variable (K : Frag) (t : Addr) (items : Array Value) (n : Nat) (dd : Option Addr) (sl : Array (Option Value))
theorem inst_not {M : Model} {h : Heap} {base : Value} {r : Bool} (X : K.In h) (hl : h.get? l = some (instObj C dx)) (e : mroIn K C base = some r) : Looks M h (isInstance (.ref l) base) r := by
  have h1 : Looks M h (typeOf (.ref l)) (.ref C) := (Looks.ld hl).andThen .now
  exact h1.andThen (looks_mroIn X e)
theorem dcl_tup_eq (e : mroIn K C (.type "tuple") = some false) : Meets (Builtin.«tuple.__eq__» ⟨[.ref t, .ref l], []⟩) (fun _ R s => K.In s.heap ∧ s.heap.get? t = some { cls := .type "tuple", dict := dd, data := .seq items n, slots := sl } ∧ s.heap.get? l = some (instObj C dx) ∧ R (.ok (.ret .notImplemented)) s) :=
  .of_wp fun prog w A R s h => by
    obtain ⟨hp, g, d, tk, os⟩ := s; obtain ⟨X, ht, hl, h⟩ := h
    have f1 := inst_not (M := model prog w) (r := false) l C dx K X hl e
    wp_walk using wpAny_loadPart' hl, wpAny_loadPart' ht, f1.here
    exact ⟨_, rfl, h⟩
theorem dcl_tup_ne (e : mroIn K C (.type "tuple") = some false) : Meets (Builtin.«tuple.__ne__» ⟨[.ref t, .ref l], []⟩) (fun _ R s => K.In s.heap ∧ s.heap.get? t = some { cls := .type "tuple", dict := dd, data := .seq items n, slots := sl } ∧ s.heap.get? l = some (instObj C dx) ∧ R (.ok (.ret .notImplemented)) s) :=
  .of_wp fun prog w A R s h => by
    obtain ⟨hp, g, d, tk, os⟩ := s; obtain ⟨X, ht, hl, h⟩ := h
    have f1 := inst_not (M := model prog w) (r := false) l C dx K X hl e
    wp_walk using wpAny_loadPart' hl, wpAny_loadPart' ht, f1.here
    exact ⟨_, rfl, h⟩
theorem dcl_lst_eq (e : mroIn K C (.type "list") = some false) : Meets (Builtin.«list.__eq__» ⟨[.ref t, .ref l], []⟩) (fun _ R s => K.In s.heap ∧ s.heap.get? t = some { cls := .type "list", dict := dd, data := .seq items n, slots := sl } ∧ s.heap.get? l = some (instObj C dx) ∧ R (.ok (.ret .notImplemented)) s) :=
  .of_wp fun prog w A R s h => by
    obtain ⟨hp, g, d, tk, os⟩ := s; obtain ⟨X, ht, hl, h⟩ := h
    have f1 := inst_not (M := model prog w) (r := false) l C dx K X hl e
    wp_walk using wpAny_loadPart' hl, wpAny_loadPart' ht, f1.here
    exact ⟨_, rfl, h⟩
theorem dcl_lst_ne (e : mroIn K C (.type "list") = some false) : Meets (Builtin.«list.__ne__» ⟨[.ref t, .ref l], []⟩) (fun _ R s => K.In s.heap ∧ s.heap.get? t = some { cls := .type "list", dict := dd, data := .seq items n, slots := sl } ∧ s.heap.get? l = some (instObj C dx) ∧ R (.ok (.ret .notImplemented)) s) :=
  .of_wp fun prog w A R s h => by
    obtain ⟨hp, g, d, tk, os⟩ := s; obtain ⟨X, ht, hl, h⟩ := h
    have f1 := inst_not (M := model prog w) (r := false) l C dx K X hl e
    wp_walk using wpAny_loadPart' hl, wpAny_loadPart' ht, f1.here
    exact ⟨_, rfl, h⟩
end
end PySem.W
namespace PySem.W
open PyProof.Rows L2
def KindV (K : Frag) (H : Hp) (v : V) (T : String) : Prop :=
  (v = .non ∧ T = "NoneType") ∨ (∃ b, v = .bl b ∧ T = "bool") ∨ (∃ i, v = .int i ∧ T = "int") ∨ (∃ x, v = .str x ∧ T = "str") ∨ (∃ a xs, v = .ref a ∧ SqT K H a xs ∧ T = "tuple") ∨ (∃ a xs, v = .ref a ∧ SqL K H a xs ∧ T = "list")
section
variable {X : Cx} {pins : List (Addr × Obj)} {σ : L2.St} {H : Hp} {s : Shared} {A : Around} {E : Value → Shared → Prop} {Q : Option Value → Shared → Prop} {v : V} {u : Value} {T : String} {l C dx : Addr}
theorem KindV.type (I : Inv X pins σ H s) (k : KindV X.K H v T) (r : L2.RelV v u) : s.TypeIs u T := by
  rcases k with ⟨rfl, rfl⟩ | ⟨b, rfl, rfl⟩ | ⟨i, rfl, rfl⟩ | ⟨x, rfl, rfl⟩ | ⟨a, xs, rfl, q, rfl⟩ | ⟨a, xs, rfl, q, rfl⟩
  · cases r; exact rfl
  · cases r; exact rfl
  · obtain ⟨t, rfl⟩ := r; exact rfl
  · obtain ⟨t, rfl⟩ := r; exact rfl
  · cases r
    obtain ⟨its, _, ⟨o, e, c, _⟩, _⟩ := I.tuple q
    exact ⟨o, e, c⟩
  · cases r
    obtain ⟨its, _, ⟨o, n, e, c, _⟩, _⟩ := I.list q
    exact ⟨o, e, c⟩
theorem dcl_of (I : Inv X pins σ H s) (k : KindV X.K H v T) (r : L2.RelV v u) (hl : s.heap.get? l = some (instObj C dx)) (h1 : mroIn X.K C (.type "tuple") = some false) (h2 : mroIn X.K C (.type "list") = some false) {name : Str} (hn : name = "__eq__" ∨ name = "__ne__") (q : Q none s) :
    wpAny (model X.prog X.w) A (tryCompare u name (.ref l)) Q E s := by
  have tt := k.type I r
  rcases k with ⟨rfl, rfl⟩ | ⟨b, rfl, rfl⟩ | ⟨i, rfl, rfl⟩ | ⟨x, rfl, rfl⟩ | ⟨a, xs, rfl, sq, rfl⟩ | ⟨a, xs, rfl, sq, rfl⟩
  · cases r
    rcases hn with rfl | rfl
    · exact wpAny_tryCompare_declines tt F.slot_NoneType_eq (call_gives F.slot_NoneType_eq tt F.entry_NoneType_eq (F.args_NoneType_eq_2 _ _) (SeqAt.NoneType___eq___none_ref_0 l) ⟨rfl, q⟩)
    · exact wpAny_tryCompare_declines tt F.slot_NoneType_ne (call_gives F.slot_NoneType_ne tt F.entry_NoneType_ne (F.args_NoneType_ne_2 _ _) (SeqAt.NoneType___ne___none_ref_0 l) ⟨rfl, q⟩)
  · cases r
    rcases hn with rfl | rfl
    · exact wpAny_tryCompare_declines tt F.slot_bool_eq (call_meets F.slot_bool_eq tt F.entry_int_eq (F.args_int_eq_2 _ _) (dcl_bl_eq l C dx b) ⟨hl, rfl, q⟩)
    · exact wpAny_tryCompare_declines tt F.slot_bool_ne (call_meets F.slot_bool_ne tt F.entry_int_ne (F.args_int_ne_2 _ _) (dcl_bl_ne l C dx b) ⟨hl, rfl, q⟩)
  · obtain ⟨t, rfl⟩ := r
    rcases hn with rfl | rfl
    · exact wpAny_tryCompare_declines tt F.slot_int_eq (call_meets F.slot_int_eq tt F.entry_int_eq (F.args_int_eq_2 _ _) (dcl_int_eq l C dx i t) ⟨hl, rfl, q⟩)
    · exact wpAny_tryCompare_declines tt F.slot_int_ne (call_meets F.slot_int_ne tt F.entry_int_ne (F.args_int_ne_2 _ _) (dcl_int_ne l C dx i t) ⟨hl, rfl, q⟩)
  · obtain ⟨t, rfl⟩ := r
    rcases hn with rfl | rfl
    · exact wpAny_tryCompare_declines tt F.slot_str_eq (call_meets F.slot_str_eq tt F.entry_str_eq (F.args_str_eq_2 _ _) (dcl_str_eq l C dx x t) ⟨hl, rfl, q⟩)
    · exact wpAny_tryCompare_declines tt F.slot_str_ne (call_meets F.slot_str_ne tt F.entry_str_ne (F.args_str_ne_2 _ _) (dcl_str_ne l C dx x t) ⟨hl, rfl, q⟩)
  · cases r
    obtain ⟨its, _, ⟨⟨cls, dd, data, sl⟩, e, c, n, d⟩, _⟩ := I.tuple sq
    simp only at c d
    subst c d
    rcases hn with rfl | rfl
    · exact wpAny_tryCompare_declines tt F.slot_tuple_eq (call_meets F.slot_tuple_eq tt F.entry_tuple_eq (F.args_tuple_eq_2 _ _) (dcl_tup_eq l C dx X.K a its.toArray n dd sl h1) ⟨I.kIn, e, hl, rfl, q⟩)
    · exact wpAny_tryCompare_declines tt F.slot_tuple_ne (call_meets F.slot_tuple_ne tt F.entry_tuple_ne (F.args_tuple_ne_2 _ _) (dcl_tup_ne l C dx X.K a its.toArray n dd sl h1) ⟨I.kIn, e, hl, rfl, q⟩)
  · cases r
    obtain ⟨its, _, ⟨⟨cls, dd, data, sl⟩, n, e, c, dn, d⟩, _⟩ := I.list sq
    simp only at c d dn
    subst c d dn
    rcases hn with rfl | rfl
    · exact wpAny_tryCompare_declines tt F.slot_list_eq (call_meets F.slot_list_eq tt F.entry_list_eq (F.args_list_eq_2 _ _) (dcl_lst_eq l C dx X.K a its.toArray n none sl h2) ⟨I.kIn, e, hl, rfl, q⟩)
    · exact wpAny_tryCompare_declines tt F.slot_list_ne (call_meets F.slot_list_ne tt F.entry_list_ne (F.args_list_ne_2 _ _) (dcl_lst_ne l C dx X.K a its.toArray n none sl h2) ⟨I.kIn, e, hl, rfl, q⟩)
end
end PySem.W
set_option maxRecDepth 100000
set_option maxHeartbeats 2000000
namespace PySem.W
open PySem PyProof.Rows
section
variable {prog : Program} {w : World} {A : Around} {E : Value → Shared → Prop} {s : Shared} {K : Frag} {x C : Addr} {h₀ : Heap} {ox oy : Obj} {od : Option Obj} {f : Addr}
open Builtin in
theorem evn_ne {u : Value} {T : String} {Q : Value → Shared → Prop} {R : Shared → Prop} (hu : A.units < cLine) (hu1 : A.in1.units < cLine) (X : K.In s.heap) (I : InstAt s.heap x ox C od) (hT : s.TypeIs u T) (sub : subIn K (.type T) (.ref C) = some false)
    (hs : findIn K (.ref C) "__eq__" = some (some (.ref f))) (hf : isFn K (.ref f) = true) (hn : findIn K (.ref C) "__ne__" = some (some (.builtin "object.__ne__"))) (hm : mroIn K C (.type "object") = some true) (hsame : ∀ (s' : Shared) (Q' : Bool → Shared → Prop), R s' → Q' false s' → wpAny (model prog w) A (isSame (.ref x) u) Q' E s')
    (h1 : wpAny (model prog w) A.in1 (call (.ref f) [.ref x, u]) (fun v s' => v = .notImplemented ∧ R s') E s)
    (h2 : ∀ s', R s' → wpAny (model prog w) A (tryCompare u "__ne__" (.ref x)) (fun r s'' => r = none ∧ s'' = s') E s')
    (h3 : ∀ s', R s' → Q (.bool true) s') : wpAny (model prog w) A (compareOp .NotEq (.ref x) u) Q E s := by
  refine cmp_ofNotEq ?_
  have body : wpAny (model prog w) A.in1 (Builtin.«object.__ne__» ⟨[.ref x, u], []⟩) (fun r s' => r = .done (.ret .notImplemented) ∧ R s') E s := by
    unfold Builtin.«object.__ne__»
    repeat (first
      | with_reducible refine wpAny_cRoomFor hu1 ?_
      | (refine wpAny_bind (m := callSpecialIfBound? (.ref x) (Str.ofString "__eq__") [u])
          (ifBound_K X I hs hf (wpAny_mono h1 (fun r s' hr => by
            obtain ⟨rfl, hq⟩ := hr
            have hq : Fin.done (Flow.ret Value.notImplemented) = .done (.ret .notImplemented) ∧ R s' := ⟨rfl, hq⟩
            repeat (first | exact hq | exact wpAny_pure hq | wp_step)) fun _ _ e => e)))
      | wp_step)
  have one : wpAny (model prog w) A (tryCompare (.ref x) "__ne__" u) (fun r s' => r = none ∧ R s') E s := by
    unfold tryCompare
    refine wpAny_bind (evx_ifB X I hn F.slot_object_ne.bind (wpAny_call (codeAny_call_builtin F.slot_object_ne.plain F.entry_object_ne (check_slot (i := "object.__ne__") (owner := "object") (n := "__ne__") (by decide +kernel) (by decide +kernel) (I.type.andThen (looks_mroIn X hm)) (F.cmpArgs_ne _ _) ?_))))
    refine wpAny_mono body (fun r s' hr => ?_) fun _ _ e => e
    obtain ⟨rfl, hq⟩ := hr
    exact wpAny_pure ⟨rfl, hq⟩
  simp only [richCompare, cmpInfo_NotEq, oneThing_ref]
  refine wpAny_holding (wpAny_bind (wpAny_cRoomFor hu ?_))
  refine wpAny_bind (I.type.here ?_)
  refine wpAny_bind (wpAny_typeOf hT ?_)
  split
  · refine wpAny_bind ((looks_subIn X sub).here ?_)
    simp only [Bool.false_eq_true, if_false, Bool.not_false, if_true]
    refine wpAny_bind (m := tryCompare (.ref x) _ u) (wpAny_mono one (fun r s1 z => ?_) fun _ _ e => e)
    obtain ⟨z1, z2⟩ := z
    subst z1
    refine wpAny_bind (m := tryCompare u _ (.ref x)) (wpAny_mono (h2 s1 z2) (fun r s2 z => ?_) fun _ _ e => e)
    obtain ⟨z1, z3⟩ := z
    subst z1
    subst z3
    exact wpAny_bind (wpAny_rule (wpAny_bind (hsame _ _ z2 (wpAny_pure (h3 _ z2)))))
  · rename_i q
    exact absurd (by simp) q
end
end PySem.W
namespace PySem.W
open PyProof.Rows L2
section
variable {X : Cx} {pins : List (Addr × Obj)} {σ : L2.St} {H : Hp} {s : Shared} {A : Around} {E : Value → Shared → Prop} {Q : Bool → Shared → Prop} {v : V} {u : Value} {T : String} {l C dx : Addr}
theorem same_not (I : Inv X pins σ H s) (k : KindV X.K H v T) (r : L2.RelV v u) (hl : s.heap.get? l = some (instObj C dx)) (q : Q false s) : wpAny (model X.prog X.w) A (isSame (.ref l) u) Q E s := by
  have ref : ∀ {a : Addr} {o : Obj}, s.heap.get? a = some o → o.cls ≠ .ref C → wpAny (model X.prog X.w) A (isSame (.ref l) (.ref a)) Q E s := fun {a o} e hc => by
    have ne : l ≠ a := fun z => by
      rw [← z, hl] at e
      cases e
      exact hc rfl
    show wpAny _ A (if (l == a) = true then pure true else _) Q E s
    rw [if_neg (by simpa using ne)]
    refine wpAny_bind (wpAny_load hl (wpAny_bind (wpAny_load e ?_)))
    split
    · rename_i h1 h2
      cases h1
    · exact wpAny_pure q
  rcases k with ⟨rfl, rfl⟩ | ⟨b, rfl, rfl⟩ | ⟨i, rfl, rfl⟩ | ⟨x, rfl, rfl⟩ | ⟨a, xs, rfl, sq, rfl⟩ | ⟨a, xs, rfl, sq, rfl⟩
  · cases r; exact wpAny_pure q
  · cases r; exact wpAny_pure q
  · obtain ⟨t, rfl⟩ := r; exact wpAny_pure q
  · obtain ⟨t, rfl⟩ := r; exact wpAny_pure q
  · cases r
    obtain ⟨its, _, ⟨o, e, c, _⟩, _⟩ := I.tuple sq
    exact ref e (by rw [c]; exact fun z => nomatch z)
  · cases r
    obtain ⟨its, _, ⟨o, n, e, c, _⟩, _⟩ := I.list sq
    exact ref e (by rw [c]; exact fun z => nomatch z)
end
end PySem.W
namespace Ev
open PySem PySem.Spec PyProof.Rows L2
def ifC : List Stmt → Expr
  | .If c _ _ _ :: _ => c
  | _ => .Constant .none 0 ⟨0, 0, 0, 0⟩
def kindD : D → Option String
  | .non => some "NoneType" | .bl _ => some "bool" | .int _ => some "int" | .str _ => some "str" | .tup _ => some "tuple" | .lst _ => some "list" | .scr _ => some "list"
  | _ => none
section
variable {G : Sg} {X : Cx} {W : WX} {k : Nat} {σ : L2.St}
theorem kindD_rep (cK : G.K = X.K) {w : Wd} {d : D} {v : V} {T : String} (r : RepV G w d v) (h : kindD d = some T) : PySem.W.KindV X.K w.H v T := by
  cases d with
  | non => cases h; exact .inl ⟨r, rfl⟩
  | bl b => cases h; exact .inr (.inl ⟨b, r, rfl⟩)
  | int i => cases h; exact .inr (.inr (.inl ⟨i, r, rfl⟩))
  | str x => cases h; exact .inr (.inr (.inr (.inl ⟨x, r, rfl⟩)))
  | tup ds =>
    cases h
    obtain ⟨a, vs, e, hh, _⟩ := r
    exact .inr (.inr (.inr (.inr (.inl ⟨a, vs, e, sqT_of cK hh, rfl⟩))))
  | lst ds =>
    cases h
    obtain ⟨a, vs, e, _, hh, _⟩ := r
    exact .inr (.inr (.inr (.inr (.inr ⟨a, vs, e, .of hh, rfl⟩))))
  | scr ds =>
    cases h
    obtain ⟨a, vs, e, hh, _⟩ := r
    exact .inr (.inr (.inr (.inr (.inr ⟨a, vs, e, sqL_of cK hh, rfl⟩))))
  | _ => cases h
structure DecT (X : Cx) (G : Sg) (k : Nat) (tbl : Nat → Option (Nat × (List SV → M Bool))) : Prop where
  at_ : ∀ c g, tbl c = some g → ∃ f, PySem.W.findIn X.K (.ref (G.ca c)) "__eq__" = some (some (.ref f)) ∧ PySem.W.isFn X.K (.ref f) = true ∧ PySem.W.findIn X.K (.ref (G.ca c)) "__ne__" = some (some (.builtin "object.__ne__")) ∧
    PySem.W.mroIn X.K (G.ca c) (.type "object") = some true ∧ PySem.W.mroIn X.K (G.ca c) (.type "tuple") = some false ∧ PySem.W.mroIn X.K (G.ca c) (.type "list") = some false ∧
    (∀ T ∈ ["NoneType", "bool", "int", "str", "tuple", "list"], PySem.W.subIn X.K (.type T) (.ref (G.ca c)) = some false) ∧ DecS X.prog X.w X.K X.mg X.base G k 2 g.1 f g.2
theorem DecS.mono {P : Program} {w : World} {K : PySem.W.Frag} {mg : Str → Option Value} {base : Heap} {j m n : Nat} {f : Addr} {fc : List SV → M Bool} (h : DecS P w K mg base G j m n f fc) (l : j ≤ k) : DecS P w K mg base G k m n f fc :=
  fun A fr s wd us vs ds S S' Q hr => h A fr s wd us vs ds S S' Q (hr.mono l)
theorem all6 {p : String → Prop} (h1 : p "NoneType") (h2 : p "bool") (h3 : p "int") (h4 : p "str") (h5 : p "tuple") (h6 : p "list") : ∀ T ∈ ["NoneType", "bool", "int", "str", "tuple", "list"], p T := fun T h => by
  simp only [List.mem_cons, List.mem_nil_iff, or_false] at h
  rcases h with rfl | rfl | rfl | rfl | rfl | rfl <;> assumption
def decEq (neg : Bool) (tbl : Nat → Option (Nat × (List SV → M Bool))) (d e : D) : M D := match d with
  | .ins c _ => match tbl c, kindD e with
    | some (n, fc), some _ => fun S => match fc (slots n ([d, e].map .val)) S with
      | some (.ok true, S') => some (.ok (.bl neg), S')
      | _ => none
    | _, _ => M.stuck
  | _ => M.stuck
theorem o_decEq {op : CmpOp} {neg : Bool} {tbl : Nat → Option (Nat × (List SV → M Bool))} (c : Ctx G X W k) (T : DecT X G k tbl) (hop : (op = .Eq ∧ neg = false) ∨ (op = .NotEq ∧ neg = true)) : OpR X (compareOp op) (rD2 G (decEq neg tbl)) := by
  intro pins s σ H v1 v2 v u Q I rv ru ⟨Wx, w2, S2, d, d2, eH, s2, rd, rd2, q⟩
  subst eH
  unfold decEq at q
  cases d with
  | ins c1 ds =>
    simp only at q
    obtain ⟨a1, dx1, fs1, e1, hF1, hb1, _⟩ := id rd
    subst e1
    rcases ht : tbl c1 with _ | ⟨n, fc⟩
    · rw [ht] at q; exact q.elim
    rcases hk : kindD d2 with _ | T2
    · rw [ht, hk] at q; exact q.elim
    rw [ht, hk] at q
    simp only at q
    rcases hf : fc (slots n ([D.ins c1 ds, d2].map .val)) S2 with _ | ⟨_ | b, S3⟩
    · rw [hf] at q; exact q.elim
    · rw [hf] at q; exact q.elim
    cases b with
    | false => rw [hf] at q; exact q.elim
    | true =>
    rw [hf] at q
    obtain ⟨f, fi, isf, fn, hm, m1, m2, sb, Dc⟩ := T.at_ c1 (n, fc) ht
    cases (show v = Value.ref a1 from rv)
    obtain ⟨mA, O1, _⟩ := ins_get I.hok hb1
    obtain ⟨od1, J1, _⟩ := O1.look
    have kv := kindD_rep (X := X) c.cK rd2 hk
    have tT : T2 ∈ ["NoneType", "bool", "int", "str", "tuple", "list"] := by
      cases d2 <;> first | (cases hk; decide) | (exact absurd hk (fun z => nomatch z))
    have hu := c.rm.room.units0
    have hu1 : X.A.in1.units < cLine := (c.rm.in1).room.units0
    let Rr : Shared → Prop := fun s' => ∃ w', Ext w2 w' ∧ RepS G w' S3 ∧ Inv X pins σ w'.H s'
    have tell : ∀ s', Rr s' → ∃ H' dx', Inv X pins σ H' s' ∧ PySem.W.KindV X.K H' v2 T2 ∧ s'.heap.get? a1 = some (PySem.W.instObj (G.ca c1) dx') := fun s' ⟨w', e, s3, I3⟩ => by
      obtain ⟨a, dx', fs', ea, _, hb, _⟩ := RepV.mono e s2.dj _ _ rd
      cases ea
      obtain ⟨mA', O', _⟩ := ins_get I3.hok hb
      exact ⟨w'.H, dx', I3, kindD_rep (X := X) c.cK (RepV.mono e s2.dj _ _ rd2) hk, O'.obj⟩
    have fin : ∀ s', Rr s' → EP X pins σ Q (.bool neg) s' := fun s' ⟨w', e, s3, I3⟩ => ⟨.bl neg, w'.H, I3, rfl, q w' _ e s3 rfl⟩
    have runs : ∀ (A' : Around), Rm k A' → Env0 X.prog X.w X.K X.mg X.base A' X.stack s w2.H → wpAny (model X.prog X.w) A' (call (.ref f) [.ref a1, u]) (fun v s' => v = .notImplemented ∧ Rr s') X.xe s := fun A' hr e0 => by
      have body := Dc A' X.stack s w2 [.ref a1, u] [.ref a1, v2] [.ins c1 ds, d2] S2 S3 (fun H' => ∃ w', w'.H = H' ∧ Ext w2 w' ∧ RepS G w' S3) hr e0 (.cons rfl (.cons ru .nil)) s2 ⟨_, _, rfl, rd, _, _, rfl, rd2, rfl⟩ rfl hf (fun w' e s3 => ⟨w', rfl, e, s3⟩)
      refine wpAny_call (codeAny_mono body ?_)
      rintro r s' ⟨rfl, z⟩
      obtain ⟨v', H', I3, _, _, w', rfl, e, s3⟩ := I.after z
      exact ⟨rfl, w', e, s3, I3⟩
    rcases hop with ⟨rfl, rfl⟩ | ⟨rfl, rfl⟩
    · refine PySem.W.evn_eq (R := Rr) hu I.kIn J1 (kv.type I ru) (sb T2 tT) fi isf (fun s' Q' hr hq => ?_) (runs X.A c.rm0 I.env0) (fun s' hr => ?_) fin
      · obtain ⟨H', dx', I3, k3, hl⟩ := tell s' hr
        exact PySem.W.same_not I3 k3 ru hl hq
      · obtain ⟨H', dx', I3, k3, hl⟩ := tell s' hr
        exact PySem.W.dcl_of I3 k3 ru hl m1 m2 (.inl rfl) ⟨rfl, rfl⟩
    · refine PySem.W.evn_ne (R := Rr) hu hu1 I.kIn J1 (kv.type I ru) (sb T2 tT) fi isf fn hm (fun s' Q' hr hq => ?_) (runs X.A.in1 c.rm.in1 I.env0.in1) (fun s' hr => ?_) fin
      · obtain ⟨H', dx', I3, k3, hl⟩ := tell s' hr
        exact PySem.W.same_not I3 k3 ru hl hq
      · obtain ⟨H', dx', I3, k3, hl⟩ := tell s' hr
        exact PySem.W.dcl_of I3 k3 ru hl m1 m2 (.inr rfl) ⟨rfl, rfl⟩
  | _ => exact q.elim
def eqXN (neg : Bool) (tbl : Nat → Option (List D → M D)) (dec : Nat → Option (Nat × (List SV → M Bool))) (d e : D) : M D := if isObj d = true then (if isObj e = true then ownEq neg tbl d e else decEq neg dec d e) else dEq neg d e
theorem o_eqXN {tbl : Nat → Option (List D → M D)} {dec : Nat → Option (Nat × (List SV → M Bool))} (c : Ctx G X W k) (T : EqT X G k tbl) (T2 : DecT X G k dec) : OpR X (compareOp .Eq) (rD2 G (eqXN false tbl dec)) := by
  refine OpR.imp (((o_ownEq c T (.inl ⟨rfl, rfl⟩)).or (o_decEq c T2 (.inl ⟨rfl, rfl⟩))).or (o_eq c.cK c.rm)) fun v u H Q q => ?_
  obtain ⟨Wx, w2, S2, d, d2, eH, s2, rd, rd2, q⟩ := q
  unfold eqXN at q
  split at q
  · split at q
    · exact .inl (.inl ⟨Wx, w2, S2, d, d2, eH, s2, rd, rd2, q⟩)
    · exact .inl (.inr ⟨Wx, w2, S2, d, d2, eH, s2, rd, rd2, q⟩)
  · exact .inr ⟨Wx, w2, S2, d, d2, eH, s2, rd, rd2, q⟩
theorem o_neXN {tbl : Nat → Option (List D → M D)} {dec : Nat → Option (Nat × (List SV → M Bool))} (c : Ctx G X W k) (T : EqT X G k tbl) (T2 : DecT X G k dec) : OpR X (compareOp .NotEq) (rD2 G (eqXN true tbl dec)) := by
  refine OpR.imp (((o_ownEq c T (.inr ⟨rfl, rfl⟩)).or (o_decEq c T2 (.inr ⟨rfl, rfl⟩))).or (o_ne c.cK c.rm)) fun v u H Q q => ?_
  obtain ⟨Wx, w2, S2, d, d2, eH, s2, rd, rd2, q⟩ := q
  unfold eqXN at q
  split at q
  · split at q
    · exact .inl (.inl ⟨Wx, w2, S2, d, d2, eH, s2, rd, rd2, q⟩)
    · exact .inl (.inr ⟨Wx, w2, S2, d, d2, eH, s2, rd, rd2, q⟩)
  · exact .inr ⟨Wx, w2, S2, d, d2, eH, s2, rd, rd2, q⟩
end
end Ev
set_option maxRecDepth 100000
set_option maxHeartbeats 2000000
namespace Ev
open PySem PySem.Spec PyProof.Rows L2
section
variable {G : Sg} {X : Cx} {W : WX}
def frzW (i : Nat) : MS := fun sd S => match sd[i]? with
  | some (.own o) => some (.next (sd.set i (.val (frzO o))), S)
  | _ => some (.next sd, S)
theorem ss_frzW {i : Nat} {sts : List Stmt} {f : MS} (h : PSsV G X W sts f) : PSsV G X W sts (seqS (frzW i) f) := by
  have h1 := ss_frz (i := i) h
  refine ⟨fun pins s σ H D I ⟨w0, w, sd, S, e, r, q⟩ => ?_⟩
  rcases hs : sd[i]? with _ | x
  · refine h.run pins s σ H D I ⟨w0, w, sd, S, e, r, ?_⟩
    unfold seqS frzW at q
    rw [hs] at q
    exact q
  · cases x with
    | own o =>
      refine h1.run pins s σ H D I ⟨w0, w, sd, S, e, r, ?_⟩
      unfold seqS frzW at q
      unfold seqS frzS
      rw [hs] at q ⊢
      exact q
    | _ =>
      refine h.run pins s σ H D I ⟨w0, w, sd, S, e, r, ?_⟩
      unfold seqS frzW at q
      rw [hs] at q
      exact q
end
section
variable {sd : List SV} {S : List Ob} {N B C : List SV → List Ob → Prop} {R : D → List Ob → Prop}
theorem gs_frzV {i : Nat} {d : D} (e : sd[i]? = some (.val d)) (h : N sd S) : Ws (frzW i) sd S N R B C := by
  have z : frzW i sd S = some (.next sd, S) := by
    unfold frzW
    rw [e]
  unfold Ws RunS
  rw [z]
  exact h
theorem gs_frzO {i : Nat} {o : Ob} (e : sd[i]? = some (.own o)) (h : N (sd.set i (.val (frzO o))) S) : Ws (frzW i) sd S N R B C := by
  have z : frzW i sd S = some (.next (sd.set i (.val (frzO o))), S) := by
    unfold frzW
    rw [e]
  unfold Ws RunS
  rw [z]
  exact h
end
end Ev
set_option maxRecDepth 100000
set_option maxHeartbeats 4000000
local macro_rules | `(tactic| leaf_len) => `(tactic| first | exact Or.inl rfl | exact Or.inr (Or.inl rfl) | exact Or.inr (Or.inr rfl))
local macro_rules | `(tactic| mem_news) => `(tactic| first | exact Or.inl rfl | exact Or.inr rfl)
namespace K35
open PySem PySem.Spec PyProof.Rows L2 Ev
def top (i : Nat) : Stmt := PySem.Challenge.pw_rungladders_k35_whole_repetitions_are_th.main.body.getD i (.Pass ⟨0, 0, 0, 0⟩)
def flds : Nat → List Str := fun c => match c with | 0 => ["told"] | 1 => ["row", "chain", "scale"] | _ => []
abbrev GG (K : PySem.W.Frag) (ad : Nat → Addr) : Sg := { K := K, ca := fun c => ad (1000 + c), fn := flds, xc := fun _ => .none, xf := fun _ => Str.empty }
abbrev st_check_pattern : Stmt := top 44
theorem sc_check_pattern : FnScope ["value"] ["value"] (defScope st_check_pattern) := ⟨rfl, rfl, rfl, by decide +kernel, rfl, by decide +kernel, by decide +kernel⟩
abbrev st_is_rungs : Stmt := top 34
theorem sc_is_rungs : FnScope ["chain"] ["chain"] (defScope st_is_rungs) := ⟨rfl, rfl, rfl, by decide +kernel, rfl, by decide +kernel, by decide +kernel⟩
abbrev st_is_rails : Stmt := top 33
theorem sc_is_rails : FnScope ["chain"] ["chain"] (defScope st_is_rails) := ⟨rfl, rfl, rfl, by decide +kernel, rfl, by decide +kernel, by decide +kernel⟩
abbrev st_common : Stmt := top 22
theorem sc_common : FnScope ["one", "other"] ["one", "other"] (defScope st_common) := ⟨rfl, rfl, rfl, by decide +kernel, rfl, by decide +kernel, by decide +kernel⟩
abbrev st_lowest : Stmt := top 23
theorem sc_lowest : FnScope ["top", "bottom", "by"] ["top", "bottom"] (defScope st_lowest) := ⟨rfl, rfl, rfl, by decide +kernel, rfl, by decide +kernel, by decide +kernel⟩
abbrev st_row_of : Stmt := top 46
theorem sc_row_of : FnScope ["parts", "word", "ohms"] ["parts"] (defScope st_row_of) := ⟨rfl, rfl, rfl, by decide +kernel, rfl, by decide +kernel, by decide +kernel⟩
abbrev st_star_of : Stmt := top 47
theorem sc_star_of : FnScope ["chain", "scale", "a", "b", "c", "d"] ["chain", "scale"] (defScope st_star_of) := ⟨rfl, rfl, rfl, by decide +kernel, rfl, by decide +kernel, by decide +kernel⟩
abbrev st_star : Stmt := top 48
theorem sc_star : FnScope ["pattern"] ["pattern"] (defScope st_star) := ⟨rfl, rfl, rfl, by decide +kernel, rfl, by decide +kernel, by decide +kernel⟩
abbrev st_power_of : Stmt := top 49
theorem sc_power_of : FnScope ["number", "count", "found", "turn"] ["number", "count"] (defScope st_power_of) := ⟨rfl, rfl, rfl, by decide +kernel, rfl, by decide +kernel, by decide +kernel⟩
abbrev st_stairs : Stmt := top 51
theorem sc_stairs : FnScope ["top", "bottom", "count", "here", "before", "turn"] ["top", "bottom", "count"] (defScope st_stairs) := ⟨rfl, rfl, rfl, by decide +kernel, rfl, by decide +kernel, by decide +kernel⟩
abbrev st_trace_of_power : Stmt := top 52
theorem sc_trace_of_power : FnScope ["top", "bottom", "count", "here", "before"] ["top", "bottom", "count"] (defScope st_trace_of_power) := ⟨rfl, rfl, rfl, by decide +kernel, rfl, by decide +kernel, by decide +kernel⟩
abbrev st_may_be : Stmt := top 55
theorem sc_may_be : FnScope ["top", "bottom", "count"] ["top", "bottom", "count"] (defScope st_may_be) := ⟨rfl, rfl, rfl, by decide +kernel, rfl, by decide +kernel, by decide +kernel⟩
abbrev st_root_of_power : Stmt := top 50
theorem sc_root_of_power : FnScope ["number", "power", "low", "high", "middle"] ["number", "power"] (defScope st_root_of_power) := ⟨rfl, rfl, rfl, by decide +kernel, rfl, by decide +kernel, by decide +kernel⟩
abbrev st_trace_root : Stmt := top 53
theorem sc_trace_root : FnScope ["top", "bottom", "count", "part", "low", "high", "middle"] ["top", "bottom", "count"] (defScope st_trace_root) := ⟨rfl, rfl, rfl, by decide +kernel, rfl, by decide +kernel, by decide +kernel⟩
abbrev st_root_row : Stmt := top 54
theorem sc_root_row : FnScope ["chain", "scale", "trace", "count", "a", "b", "c", "d", "here", "before", "more", "whole", "by", "found"] ["chain", "scale", "trace", "count"] (defScope st_root_row) := ⟨rfl, rfl, rfl, by decide +kernel, rfl, by decide +kernel, by decide +kernel⟩
abbrev st_repetition : Stmt := top 56
theorem sc_repetition : FnScope ["pattern", "chain", "scale", "top", "bottom", "count", "best", "trace", "row"] ["pattern"] (defScope st_repetition) := ⟨rfl, rfl, rfl, by decide +kernel, rfl, by decide +kernel, by decide +kernel⟩
abbrev st_is_integer : Stmt := top 17
theorem sc_is_integer : FnScope ["value"] ["value"] (defScope st_is_integer) := ⟨rfl, rfl, rfl, by decide +kernel, rfl, by decide +kernel, by decide +kernel⟩
abbrev st_is_between : Stmt := top 18
theorem sc_is_between : FnScope ["value", "low", "high"] ["value", "low", "high"] (defScope st_is_between) := ⟨rfl, rfl, rfl, by decide +kernel, rfl, by decide +kernel, by decide +kernel⟩
abbrev st_is_piece : Stmt := top 38
theorem sc_is_piece : FnScope ["value"] ["value"] (defScope st_is_piece) := ⟨rfl, rfl, rfl, by decide +kernel, rfl, by decide +kernel, by decide +kernel⟩
abbrev st_check_pieces : Stmt := top 39
theorem sc_check_pieces : FnScope ["pieces", "index", "piece"] ["pieces"] (defScope st_check_pieces) := ⟨rfl, rfl, rfl, by decide +kernel, rfl, by decide +kernel, by decide +kernel⟩
abbrev st_joined : Stmt := top 29
theorem sc_joined : FnScope ["front", "back", "a", "b", "c", "d", "e", "f", "g", "h"] ["front", "back"] (defScope st_joined) := ⟨rfl, rfl, rfl, by decide +kernel, rfl, by decide +kernel, by decide +kernel⟩
abbrev st_chain_of : Stmt := top 30
theorem sc_chain_of : FnScope ["pieces", "found", "times", "word", "ohms"] ["pieces"] (defScope st_chain_of) := ⟨rfl, rfl, rfl, by decide +kernel, rfl, by decide +kernel, by decide +kernel⟩
abbrev st_PatternX_initX : Stmt := inClass (top 43) 0
theorem sc_PatternX_initX : FnScope ["self", "pieces"] ["self", "pieces"] (defScope st_PatternX_initX) := ⟨rfl, rfl, rfl, by decide +kernel, rfl, by decide +kernel, by decide +kernel⟩
abbrev st__law_sip : Stmt := top 59
theorem sc__law_sip : FnScope ["_law_cup_here", "_law_many", "_law_part"] ["_law_cup_here", "_law_many"] (defScope st__law_sip) := ⟨rfl, rfl, rfl, by decide +kernel, rfl, by decide +kernel, by decide +kernel⟩
abbrev st__law_pick : Stmt := top 60
theorem sc__law_pick : FnScope ["_law_cup_here", "_law_things"] ["_law_cup_here", "_law_things"] (defScope st__law_pick) := ⟨rfl, rfl, rfl, by decide +kernel, rfl, by decide +kernel, by decide +kernel⟩
abbrev st__law_row : Stmt := top 62
theorem sc__law_row : FnScope ["_law_cup_here", "_law_most", "_law_found", "_law_turn"] ["_law_cup_here", "_law_most"] (defScope st__law_row) := ⟨rfl, rfl, rfl, by decide +kernel, rfl, by decide +kernel, by decide +kernel⟩
abbrev st__law_mixed : Stmt := top 63
theorem sc__law_mixed : FnScope ["_law_cup_here", "_law_most", "_law_found", "_law_mate", "_law_at"] ["_law_cup_here", "_law_most"] (defScope st__law_mixed) := ⟨rfl, rfl, rfl, by decide +kernel, rfl, by decide +kernel, by decide +kernel⟩
abbrev st_integer_in : Stmt := top 26
theorem sc_integer_in : FnScope ["word", "digit"] ["word"] (defScope st_integer_in) := ⟨rfl, rfl, rfl, by decide +kernel, rfl, by decide +kernel, by decide +kernel⟩
abbrev st_piece_in : Stmt := top 40
theorem sc_piece_in : FnScope ["text", "words", "ohms"] ["text"] (defScope st_piece_in) := ⟨rfl, rfl, rfl, by decide +kernel, rfl, by decide +kernel, by decide +kernel⟩
abbrev st_RowX_initX : Stmt := inClass (top 37) 0
theorem sc_RowX_initX : FnScope ["self", "told"] ["self", "told"] (defScope st_RowX_initX) := ⟨rfl, rfl, rfl, by decide +kernel, rfl, by decide +kernel, by decide +kernel⟩
abbrev st_pattern_in : Stmt := top 41
theorem sc_pattern_in : FnScope ["text", "pieces", "part"] ["text"] (defScope st_pattern_in) := ⟨rfl, rfl, rfl, by decide +kernel, rfl, by decide +kernel, by decide +kernel⟩
abbrev st_Pattern_read : Stmt := inClass (top 43) 1
theorem sc_Pattern_read : FnScope ["text", "found"] ["text"] (defScope st_Pattern_read) := ⟨rfl, rfl, rfl, by decide +kernel, rfl, by decide +kernel, by decide +kernel⟩
abbrev st__law_words : Stmt := top 64
theorem sc__law_words : FnScope ["_law_row_here", "_law_word", "_law_ohms"] ["_law_row_here"] (defScope st__law_words) := ⟨rfl, rfl, rfl, by decide +kernel, rfl, by decide +kernel, by decide +kernel⟩
abbrev st__law_read : Stmt := top 66
theorem sc__law_read : FnScope ["_law_row_here"] ["_law_row_here"] (defScope st__law_read) := ⟨rfl, rfl, rfl, by decide +kernel, rfl, by decide +kernel, by decide +kernel⟩
abbrev st__law_four : Stmt := top 65
theorem sc__law_four : FnScope ["_law_row_here", "_law_a", "_law_b", "_law_c", "_law_d", "_law_by", "_law_word", "_law_ohms"] ["_law_row_here"] (defScope st__law_four) := ⟨rfl, rfl, rfl, by decide +kernel, rfl, by decide +kernel, by decide +kernel⟩
abbrev st__law_pair : Stmt := top 61
theorem sc__law_pair : FnScope ["_law_top", "_law_bottom", "_law_one", "_law_two"] ["_law_top", "_law_bottom"] (defScope st__law_pair) := ⟨rfl, rfl, rfl, by decide +kernel, rfl, by decide +kernel, by decide +kernel⟩
abbrev st__law_trace : Stmt := top 67
theorem sc__law_trace : FnScope ["_law_row_here", "_law_a", "_law_b", "_law_c", "_law_d", "_law_by"] ["_law_row_here"] (defScope st__law_trace) := ⟨rfl, rfl, rfl, by decide +kernel, rfl, by decide +kernel, by decide +kernel⟩
abbrev st__law_root_bottom : Stmt := top 70
theorem sc__law_root_bottom : FnScope ["_law_bottom", "_law_many", "_law_part", "_law_worth", "_law_turn"] ["_law_bottom", "_law_many"] (defScope st__law_root_bottom) := ⟨rfl, rfl, rfl, by decide +kernel, rfl, by decide +kernel, by decide +kernel⟩
abbrev st__law_powers : Stmt := top 68
theorem sc__law_powers : FnScope ["_law_top", "_law_bottom", "_law_many", "_law_here", "_law_ahead", "_law_turn", "_law_under", "_law_x", "_law_found"] ["_law_top", "_law_bottom", "_law_many"] (defScope st__law_powers) := ⟨rfl, rfl, rfl, by decide +kernel, rfl, by decide +kernel, by decide +kernel⟩
abbrev st__law_power_trace : Stmt := top 69
theorem sc__law_power_trace : FnScope ["_law_top", "_law_bottom", "_law_many", "_law_here", "_law_ahead", "_law_under", "_law_over"] ["_law_top", "_law_bottom", "_law_many"] (defScope st__law_power_trace) := ⟨rfl, rfl, rfl, by decide +kernel, rfl, by decide +kernel, by decide +kernel⟩
abbrev st__law_is_power : Stmt := top 71
theorem sc__law_is_power : FnScope ["_law_row_here", "_law_many", "_law_goal", "_law_part", "_law_least", "_law_over", "_law_middle", "_law_told", "_law_here", "_law_ahead", "_law_a", "_law_b", "_law_c", "_law_d", "_law_by", "_law_need", "_law_spare"] ["_law_row_here", "_law_many"] (defScope st__law_is_power) := ⟨rfl, rfl, rfl, by decide +kernel, rfl, by decide +kernel, by decide +kernel⟩
abbrev st__law_right : Stmt := top 72
theorem sc__law_right : FnScope ["_law_cup_here", "_law_turn", "_law_row_here", "_law_many", "_law_mine", "_law_told", "_law_more", "_law_again", "_law_word", "_law_ohms"] ["_law_cup_here"] (defScope st__law_right) := ⟨rfl, rfl, rfl, by decide +kernel, rfl, by decide +kernel, by decide +kernel⟩
abbrev st__law_cup : Stmt := top 58
theorem sc__law_cup : FnScope ["_law_script", "_law_spot", "_law_cell", "_law_one"] ["_law_script", "_law_spot"] (defScope st__law_cup) := ⟨rfl, rfl, rfl, by decide +kernel, rfl, by decide +kernel, by decide +kernel⟩
abbrev st_law : Stmt := top 73
theorem sc_law : FnScope ["_law_script", "_law_told", "_law_spot"] ["_law_script"] (defScope st_law) := ⟨rfl, rfl, rfl, by decide +kernel, rfl, by decide +kernel, by decide +kernel⟩
structure Facts (P : Program) (w : World) (K : PySem.W.Frag) (mg : Str → Option Value) (base : Heap) (ad : Nat → Addr) : Prop where
  f_check_pattern : ∃ fd, Fun K "check_pattern" "check_pattern" st_check_pattern (ad 0) fd
  g_check_pattern : mg "check_pattern" = some (.ref (ad 0))
  f_is_rungs : ∃ fd, Fun K "is_rungs" "is_rungs" st_is_rungs (ad 1) fd
  g_is_rungs : mg "is_rungs" = some (.ref (ad 1))
  f_is_rails : ∃ fd, Fun K "is_rails" "is_rails" st_is_rails (ad 2) fd
  g_is_rails : mg "is_rails" = some (.ref (ad 2))
  f_common : ∃ fd, Fun K "common" "common" st_common (ad 3) fd
  g_common : mg "common" = some (.ref (ad 3))
  f_lowest : ∃ fd, Fun K "lowest" "lowest" st_lowest (ad 4) fd
  g_lowest : mg "lowest" = some (.ref (ad 4))
  f_row_of : ∃ fd, Fun K "row_of" "row_of" st_row_of (ad 5) fd
  g_row_of : mg "row_of" = some (.ref (ad 5))
  f_star_of : ∃ fd, Fun K "star_of" "star_of" st_star_of (ad 6) fd
  g_star_of : mg "star_of" = some (.ref (ad 6))
  f_star : ∃ fd, Fun K "star" "star" st_star (ad 7) fd
  g_star : mg "star" = some (.ref (ad 7))
  f_power_of : ∃ fd, Fun K "power_of" "power_of" st_power_of (ad 8) fd
  g_power_of : mg "power_of" = some (.ref (ad 8))
  f_stairs : ∃ fd, Fun K "stairs" "stairs" st_stairs (ad 9) fd
  g_stairs : mg "stairs" = some (.ref (ad 9))
  f_trace_of_power : ∃ fd, Fun K "trace_of_power" "trace_of_power" st_trace_of_power (ad 10) fd
  g_trace_of_power : mg "trace_of_power" = some (.ref (ad 10))
  f_may_be : ∃ fd, Fun K "may_be" "may_be" st_may_be (ad 11) fd
  g_may_be : mg "may_be" = some (.ref (ad 11))
  f_root_of_power : ∃ fd, Fun K "root_of_power" "root_of_power" st_root_of_power (ad 12) fd
  g_root_of_power : mg "root_of_power" = some (.ref (ad 12))
  f_trace_root : ∃ fd, Fun K "trace_root" "trace_root" st_trace_root (ad 13) fd
  g_trace_root : mg "trace_root" = some (.ref (ad 13))
  f_root_row : ∃ fd, Fun K "root_row" "root_row" st_root_row (ad 14) fd
  g_root_row : mg "root_row" = some (.ref (ad 14))
  f_repetition : ∃ fd, Fun K "repetition" "repetition" st_repetition (ad 15) fd
  g_repetition : mg "repetition" = some (.ref (ad 15))
  f_is_integer : ∃ fd, Fun K "is_integer" "is_integer" st_is_integer (ad 16) fd
  g_is_integer : mg "is_integer" = some (.ref (ad 16))
  f_is_between : ∃ fd, Fun K "is_between" "is_between" st_is_between (ad 17) fd
  g_is_between : mg "is_between" = some (.ref (ad 17))
  f_is_piece : ∃ fd, Fun K "is_piece" "is_piece" st_is_piece (ad 18) fd
  g_is_piece : mg "is_piece" = some (.ref (ad 18))
  f_check_pieces : ∃ fd, Fun K "check_pieces" "check_pieces" st_check_pieces (ad 19) fd
  g_check_pieces : mg "check_pieces" = some (.ref (ad 19))
  f_joined : ∃ fd, Fun K "joined" "joined" st_joined (ad 20) fd
  g_joined : mg "joined" = some (.ref (ad 20))
  f_chain_of : ∃ fd, Fun K "chain_of" "chain_of" st_chain_of (ad 21) fd
  g_chain_of : mg "chain_of" = some (.ref (ad 21))
  f_PatternX_initX : ∃ fd, Fun K "__init__" "Pattern.__init__" st_PatternX_initX (ad 22) fd
  f__law_sip : ∃ fd, Fun K "_law_sip" "_law_sip" st__law_sip (ad 23) fd
  g__law_sip : mg "_law_sip" = some (.ref (ad 23))
  f__law_pick : ∃ fd, Fun K "_law_pick" "_law_pick" st__law_pick (ad 24) fd
  g__law_pick : mg "_law_pick" = some (.ref (ad 24))
  f__law_row : ∃ fd, Fun K "_law_row" "_law_row" st__law_row (ad 25) fd
  g__law_row : mg "_law_row" = some (.ref (ad 25))
  f__law_mixed : ∃ fd, Fun K "_law_mixed" "_law_mixed" st__law_mixed (ad 26) fd
  g__law_mixed : mg "_law_mixed" = some (.ref (ad 26))
  f_integer_in : ∃ fd, Fun K "integer_in" "integer_in" st_integer_in (ad 27) fd
  g_integer_in : mg "integer_in" = some (.ref (ad 27))
  f_piece_in : ∃ fd, Fun K "piece_in" "piece_in" st_piece_in (ad 28) fd
  g_piece_in : mg "piece_in" = some (.ref (ad 28))
  f_RowX_initX : ∃ fd, Fun K "__init__" "Row.__init__" st_RowX_initX (ad 29) fd
  f_pattern_in : ∃ fd, Fun K "pattern_in" "pattern_in" st_pattern_in (ad 30) fd
  g_pattern_in : mg "pattern_in" = some (.ref (ad 30))
  f_Pattern_read : ∃ fd, Fun K "read" "Pattern.read" st_Pattern_read (ad 31) fd
  f__law_words : ∃ fd, Fun K "_law_words" "_law_words" st__law_words (ad 32) fd
  g__law_words : mg "_law_words" = some (.ref (ad 32))
  f__law_read : ∃ fd, Fun K "_law_read" "_law_read" st__law_read (ad 33) fd
  g__law_read : mg "_law_read" = some (.ref (ad 33))
  f__law_four : ∃ fd, Fun K "_law_four" "_law_four" st__law_four (ad 34) fd
  g__law_four : mg "_law_four" = some (.ref (ad 34))
  f__law_pair : ∃ fd, Fun K "_law_pair" "_law_pair" st__law_pair (ad 35) fd
  g__law_pair : mg "_law_pair" = some (.ref (ad 35))
  f__law_trace : ∃ fd, Fun K "_law_trace" "_law_trace" st__law_trace (ad 36) fd
  g__law_trace : mg "_law_trace" = some (.ref (ad 36))
  f__law_root_bottom : ∃ fd, Fun K "_law_root_bottom" "_law_root_bottom" st__law_root_bottom (ad 37) fd
  g__law_root_bottom : mg "_law_root_bottom" = some (.ref (ad 37))
  f__law_powers : ∃ fd, Fun K "_law_powers" "_law_powers" st__law_powers (ad 38) fd
  g__law_powers : mg "_law_powers" = some (.ref (ad 38))
  f__law_power_trace : ∃ fd, Fun K "_law_power_trace" "_law_power_trace" st__law_power_trace (ad 39) fd
  g__law_power_trace : mg "_law_power_trace" = some (.ref (ad 39))
  f__law_is_power : ∃ fd, Fun K "_law_is_power" "_law_is_power" st__law_is_power (ad 40) fd
  g__law_is_power : mg "_law_is_power" = some (.ref (ad 40))
  f__law_right : ∃ fd, Fun K "_law_right" "_law_right" st__law_right (ad 41) fd
  g__law_right : mg "_law_right" = some (.ref (ad 41))
  f__law_cup : ∃ fd, Fun K "_law_cup" "_law_cup" st__law_cup (ad 42) fd
  g__law_cup : mg "_law_cup" = some (.ref (ad 42))
  f_law : ∃ fd, Fun K "law" "law" st_law (ad 43) fd
  g_law : mg "law" = some (.ref (ad 43))
  k_Row : mg "Row" = some (.ref (ad 1000))
  m_Row : Mk K (ad 1000) (ad 29)
  cl_Row : Cls K (ad 1000)
  na_Row_told : NoAttr K (ad 1000) "told"
  k_Pattern : mg "Pattern" = some (.ref (ad 1001))
  m_Pattern : Mk K (ad 1001) (ad 22)
  cl_Pattern : Cls K (ad 1001)
  na_Pattern_row : NoAttr K (ad 1001) "row"
  na_Pattern_chain : NoAttr K (ad 1001) "chain"
  na_Pattern_scale : NoAttr K (ad 1001) "scale"
  s_Pattern_read : ∃ (mc : Value) (p : Addr) (rest : List Value), ClX.CRead K (ad 1001) mc ∧ PySem.W.findCls K (.ref (ad 1001)) mc "read" = some (.get (.builtin "staticmethod.__get__") (.ref p) .none (.ref (ad 1001))) ∧ PySem.W.recIn K p "staticmethod" = some (.ref (ad 31) :: rest)
  z_abs : mg "abs" = none
  z_all : mg "all" = none
  z_any : mg "any" = none
  z_bool : mg "bool" = none
  z_divmod : mg "divmod" = none
  z_enumerate : mg "enumerate" = none
  z_int : mg "int" = none
  z_isinstance : mg "isinstance" = none
  z_len : mg "len" = none
  z_max : mg "max" = none
  z_min : mg "min" = none
  z_range : mg "range" = none
  z_repr : mg "repr" = none
  z_str : mg "str" = none
  z_tuple : mg "tuple" = none
  c_MOST_PIECES : GlobD mg (GG K ad) "MOST_PIECES" (.int 4)
  c_MOST_OHMS : GlobD mg (GG K ad) "MOST_OHMS" (.int 12)
  c_WORDS : GlobD mg (GG K ad) "WORDS" (.tup [(.str "rail"), (.str "rung")])
  c_NOTHING : GlobD mg (GG K ad) "NOTHING" (.tup [(.int 1), (.int 0), (.int 0), (.int 1)])
  c_DIGITS : GlobD mg (GG K ad) "DIGITS" (.str "0123456789")
  c_MOST_DIGITS : GlobD mg (GG K ad) "MOST_DIGITS" (.int 13)
  c_MOST_JOINED : GlobD mg (GG K ad) "MOST_JOINED" (.int 8)
  isa : ∀ X : Cx, X.K = K → ClsT X (GG K ad) (fun c => decide (c ∈ ([0, 1] : List Nat))) (fun a b => if a ∈ ([0, 1] : List Nat) ∧ b ∈ ([1, 0] : List Nat) then some (decide ((a, b) ∈ ([(0, 0), (1, 1)] : List (Nat × Nat)))) else none)
variable {P : Program} {w : World} {K : PySem.W.Frag} {mg : Str → Option Value} {base : Heap} {ad : Nat → Addr}
def Same (X : Cx) (P : Program) (w : World) (K : PySem.W.Frag) (mg : Str → Option Value) (base : Heap) : Prop := X.prog = P ∧ X.w = w ∧ X.K = K ∧ X.mg = mg ∧ X.base = base
theorem T_fld_row (T : Facts P w K mg base ad) {X : Cx} (h : Same X P w K mg base) : FldT X (GG K ad) "row" (tab [(1, 0)]) := by
  obtain ⟨rfl, rfl, rfl, rfl, rfl⟩ := h
  exact ⟨(tab_cons ⟨T.cl_Pattern, T.na_Pattern_row, (show (flds 1).Nodup by decide +kernel), rfl, (show (flds 1).length < 1000 by decide +kernel)⟩ tab_nil)⟩
theorem T_fld_scale (T : Facts P w K mg base ad) {X : Cx} (h : Same X P w K mg base) : FldT X (GG K ad) "scale" (tab [(1, 2)]) := by
  obtain ⟨rfl, rfl, rfl, rfl, rfl⟩ := h
  exact ⟨(tab_cons ⟨T.cl_Pattern, T.na_Pattern_scale, (show (flds 1).Nodup by decide +kernel), rfl, (show (flds 1).length < 1000 by decide +kernel)⟩ tab_nil)⟩
theorem T_fld_chain (T : Facts P w K mg base ad) {X : Cx} (h : Same X P w K mg base) : FldT X (GG K ad) "chain" (tab [(1, 1)]) := by
  obtain ⟨rfl, rfl, rfl, rfl, rfl⟩ := h
  exact ⟨(tab_cons ⟨T.cl_Pattern, T.na_Pattern_chain, (show (flds 1).Nodup by decide +kernel), rfl, (show (flds 1).length < 1000 by decide +kernel)⟩ tab_nil)⟩
theorem T_fld_told (T : Facts P w K mg base ad) {X : Cx} (h : Same X P w K mg base) : FldT X (GG K ad) "told" (tab [(0, 0)]) := by
  obtain ⟨rfl, rfl, rfl, rfl, rfl⟩ := h
  exact ⟨(tab_cons ⟨T.cl_Row, T.na_Row_told, (show (flds 0).Nodup by decide +kernel), rfl, (show (flds 0).length < 1000 by decide +kernel)⟩ tab_nil)⟩
theorem T_attr_scale_1 (T : Facts P w K mg base ad) {X : Cx} (h : Same X P w K mg base) {k : Nat} (hk : 0 ≤ k) : AttrT X (GG K ad) k "scale" (tab [(1, .fld 2)]) := by
  obtain ⟨rfl, rfl, rfl, rfl, rfl⟩ := h
  exact AttrT.of (tab_cons ⟨T.cl_Pattern, T.na_Pattern_scale, (show (flds 1).Nodup by decide +kernel), rfl⟩ tab_nil)
theorem T_attr_chain_1 (T : Facts P w K mg base ad) {X : Cx} (h : Same X P w K mg base) {k : Nat} (hk : 0 ≤ k) : AttrT X (GG K ad) k "chain" (tab [(1, .fld 1)]) := by
  obtain ⟨rfl, rfl, rfl, rfl, rfl⟩ := h
  exact AttrT.of (tab_cons ⟨T.cl_Pattern, T.na_Pattern_chain, (show (flds 1).Nodup by decide +kernel), rfl⟩ tab_nil)
theorem T_attr_told_0 (T : Facts P w K mg base ad) {X : Cx} (h : Same X P w K mg base) {k : Nat} (hk : 0 ≤ k) : AttrT X (GG K ad) k "told" (tab [(0, .fld 0)]) := by
  obtain ⟨rfl, rfl, rfl, rfl, rfl⟩ := h
  exact AttrT.of (tab_cons ⟨T.cl_Row, T.na_Row_told, (show (flds 0).Nodup by decide +kernel), rfl⟩ tab_nil)
def pk_check_pattern : Σ' ms : MS, ∀ (P : Program) (w : World) (K : PySem.W.Frag) (mg : Str → Option Value) (base : Heap) (ad : Nat → Addr), Facts P w K mg base ad → Body P w K mg base (GG K ad) 0 (ad 0) ["value"] "check_pattern" st_check_pattern ms :=
  ⟨_, fun P w K mg base ad T cdv A fr s H E c => ss_cons (s_if (b_not (b_val (v_callB (c_isa c.cK (T.isa _ rfl)) (by rfl) T.z_isinstance (by decide +kernel) (l_cons (v_var (i := 0) rfl (by leaf_len) (by decide) (by decide)) (l_cons (v_glob (by rfl) (glob_cls (c := 1) T.k_Pattern) (by decide)) l_nil rfl) rfl) rfl (by decide) (by decide)) (fun _ => rfl))) (ss_never) (ss_nil)) (ss_nil)⟩
def sem_check_pattern : List D → M D := runFn 1 1 pk_check_pattern.1
theorem ok_check_pattern (T : Facts P w K mg base ad) : FnA P w K mg base (GG K ad) 2 (ad 0) sem_check_pattern := by
  obtain ⟨fd, F⟩ := T.f_check_pattern
  exact fna_rule F sc_check_pattern (F.binds fun _ _ _ _ _ _ us hl => match us, hl with | [_], _ => rfl) rfl (pk_check_pattern.2 P w K mg base ad T) rfl rfl (by decide)
def pk_is_rungs : Σ' ms : MS, ∀ (P : Program) (w : World) (K : PySem.W.Frag) (mg : Str → Option Value) (base : Heap) (ad : Nat → Addr), Facts P w K mg base ad → Body P w K mg base (GG K ad) 0 (ad 1) ["chain"] "is_rungs" st_is_rungs ms :=
  ⟨_, fun P w K mg base ad T cdv A fr s H E c => ss_cons (s_ret (v_cmp (o_eq c.cK c.rm) (v_ix c.cK (v_var (i := 0) rfl (by leaf_len) (by decide) (by decide)) v_int rfl) v_int rfl)) ss_nil⟩
def sem_is_rungs : List D → M D := runFn 1 1 pk_is_rungs.1
theorem ok_is_rungs (T : Facts P w K mg base ad) : FnA P w K mg base (GG K ad) 2 (ad 1) sem_is_rungs := by
  obtain ⟨fd, F⟩ := T.f_is_rungs
  exact fna_rule F sc_is_rungs (F.binds fun _ _ _ _ _ _ us hl => match us, hl with | [_], _ => rfl) rfl (pk_is_rungs.2 P w K mg base ad T) rfl rfl (by decide)
def pk_is_rails : Σ' ms : MS, ∀ (P : Program) (w : World) (K : PySem.W.Frag) (mg : Str → Option Value) (base : Heap) (ad : Nat → Addr), Facts P w K mg base ad → Body P w K mg base (GG K ad) 0 (ad 2) ["chain"] "is_rails" st_is_rails ms :=
  ⟨_, fun P w K mg base ad T cdv A fr s H E c => ss_cons (s_ret (v_cmp (o_eq c.cK c.rm) (v_ix c.cK (v_var (i := 0) rfl (by leaf_len) (by decide) (by decide)) v_int rfl) v_int rfl)) ss_nil⟩
def sem_is_rails : List D → M D := runFn 1 1 pk_is_rails.1
theorem ok_is_rails (T : Facts P w K mg base ad) : FnA P w K mg base (GG K ad) 2 (ad 2) sem_is_rails := by
  obtain ⟨fd, F⟩ := T.f_is_rails
  exact fna_rule F sc_is_rails (F.binds fun _ _ _ _ _ _ us hl => match us, hl with | [_], _ => rfl) rfl (pk_is_rails.2 P w K mg base ad T) rfl rfl (by decide)
def pk_common : Σ' ms : MS, ∀ (P : Program) (w : World) (K : PySem.W.Frag) (mg : Str → Option Value) (base : Heap) (ad : Nat → Addr), Facts P w K mg base ad → Body P w K mg base (GG K ad) 0 (ad 3) ["one", "other"] "common" st_common ms :=
  ⟨_, fun P w K mg base ad T cdv A fr s H E c => ss_cons (s_while c (b_cmp (o_gt) (v_var (i := 1) rfl (by leaf_len) (by decide) (by decide)) v_int rfl) (ss_cons (s_par (i := 0) (j := 1) c rfl rfl (by decide) rfl rfl (l_cons (v_var (i := 1) rfl (by leaf_len) (by decide) (by decide)) (l_cons (v_bin (o_mod) (v_callTy (c_int) (by rfl) T.z_int (by decide +kernel) (l_cons (v_var (i := 0) rfl (by leaf_len) (by decide) (by decide)) l_nil rfl) rfl (by decide) (by decide)) (v_callTy (c_int) (by rfl) T.z_int (by decide +kernel) (l_cons (v_var (i := 1) rfl (by leaf_len) (by decide) (by decide)) l_nil rfl) rfl (by decide) (by decide))) l_nil rfl) rfl) rfl) (ss_nil))) (ss_cons (s_ret (v_var (i := 0) rfl (by leaf_len) (by decide) (by decide))) ss_nil)⟩
def sem_common : List D → M D := runFn 2 2 pk_common.1
theorem ok_common (T : Facts P w K mg base ad) : FnA P w K mg base (GG K ad) 2 (ad 3) sem_common := by
  obtain ⟨fd, F⟩ := T.f_common
  exact fna_rule F sc_common (F.binds fun _ _ _ _ _ _ us hl => match us, hl with | [_, _], _ => rfl) rfl (pk_common.2 P w K mg base ad T) rfl rfl (by decide)
def pk_lowest : Σ' ms : MS, ∀ (P : Program) (w : World) (K : PySem.W.Frag) (mg : Str → Option Value) (base : Heap) (ad : Nat → Addr), Facts P w K mg base ad → Body P w K mg base (GG K ad) 2 (ad 4) ["top", "bottom", "by"] "lowest" st_lowest ms :=
  ⟨_, fun P w K mg base ad T cdv A fr s H E c => ss_cons (s_set (i := 2) c rfl (by mem_news) (v_calls (FnA.call c ((ok_common T).mono (by decide))) (by rfl) T.g_common (l_cons (v_var (i := 0) rfl (by leaf_len) (by decide) (by decide)) (l_cons (v_var (i := 1) rfl (by leaf_len) (by decide) (by decide)) l_nil rfl) rfl) rfl (by decide)) rfl (.inl rfl)) (ss_cons (s_ret (v_tup (l_cons (v_bin (o_fdiv) (v_var (i := 0) rfl (by leaf_len) (by decide) (by decide)) (v_var (i := 2) rfl (by leaf_len) (by decide) (by decide))) (l_cons (v_bin (o_fdiv) (v_var (i := 1) rfl (by leaf_len) (by decide) (by decide)) (v_var (i := 2) rfl (by leaf_len) (by decide) (by decide))) l_nil rfl) rfl) (by decide))) ss_nil)⟩
def sem_lowest : List D → M D := runFn 2 3 pk_lowest.1
theorem ok_lowest (T : Facts P w K mg base ad) : FnA P w K mg base (GG K ad) 4 (ad 4) sem_lowest := by
  obtain ⟨fd, F⟩ := T.f_lowest
  exact fna_rule F sc_lowest (F.binds fun _ _ _ _ _ _ us hl => match us, hl with | [_, _], _ => rfl) rfl (pk_lowest.2 P w K mg base ad T) rfl rfl (by decide)
def pk_row_of : Σ' ms : MS, ∀ (P : Program) (w : World) (K : PySem.W.Frag) (mg : Str → Option Value) (base : Heap) (ad : Nat → Addr), Facts P w K mg base ad → Body P w K mg base (GG K ad) 0 (ad 5) ["parts", "word", "ohms"] "row_of" st_row_of ms :=
  ⟨_, fun P w K mg base ad T cdv A fr s H E c => ss_cons (s_ret (v_callTy (c_tuple c.cK) (by rfl) T.z_tuple (by decide +kernel) (l_cons (v_lc c (own := [("word", 1), ("ohms", 2)]) (i_seq c (v_var (i := 0) rfl (by leaf_len) (by decide) (by decide))) (blkOk_by (N := ["parts", "word", "ohms"]) (sc := defScope st_row_of) (by decide +kernel)) (fun s H C cl fp => blkP c fun c => (p_tup c.cK c.calm (ps_consP (p_name (i := 1) c.nd rfl (by mem_news) (.inr rfl)) (ps_consP (p_name (i := 2) c.nd rfl (by mem_news) (.inr rfl)) ps_nilP rfl) rfl) rfl rfl)) (fun s H C cl fp => blkT c fun c => (t_one (b_of (w_and (b_cmp (o_gt) (v_ix c.cK (v_var (i := 2) rfl (by leaf_len) (by decide) (by decide)) v_int rfl) v_int rfl) (w_and1 (b_cmp (o_gt) (v_ix c.cK (v_var (i := 2) rfl (by leaf_len) (by decide) (by decide)) v_int rfl) v_int rfl)))))) (fun s H C cl fp => blkV c fun c => (v_tup (l_cons (v_var (i := 1) rfl (by leaf_len) (by decide) (by decide)) (l_cons (v_var (i := 2) rfl (by leaf_len) (by decide) (by decide)) l_nil rfl) rfl) (by decide))) rfl (by decide)) l_nil rfl) rfl (by decide) (by decide))) ss_nil⟩
def sem_row_of : List D → M D := starFn 0 3 pk_row_of.1
theorem ok_row_of (T : Facts P w K mg base ad) : FnA P w K mg base (GG K ad) 2 (ad 5) sem_row_of := by
  obtain ⟨fd, F⟩ := T.f_row_of
  exact fna_star (ps := []) (pv := "parts") F sc_row_of rfl (pk_row_of.2 P w K mg base ad T) (fun _ _ _ _ _ _ us rest h => match us, rest, h with | [], [], _ => rfl | [], _ :: _, _ => rfl) rfl rfl (by decide)
def pk_star_of : Σ' ms : MS, ∀ (P : Program) (w : World) (K : PySem.W.Frag) (mg : Str → Option Value) (base : Heap) (ad : Nat → Addr), Facts P w K mg base ad → Body P w K mg base (GG K ad) 4 (ad 6) ["chain", "scale", "a", "b", "c", "d"] "star_of" st_star_of ms :=
  ⟨_, fun P w K mg base ad T cdv A fr s H E c => ss_cons (s_asg (v_var (i := 0) rfl (by leaf_len) (by decide) (by decide)) (g_tup c.cK c.calm (gs_cons (g_name (i := 2) c.nd rfl (by mem_news) (.inl rfl)) (gs_cons (g_name (i := 3) c.nd rfl (by mem_news) (.inl rfl)) (gs_cons (g_name (i := 4) c.nd rfl (by mem_news) (.inl rfl)) (gs_cons (g_name (i := 5) c.nd rfl (by mem_news) (.inl rfl)) gs_nil rfl) rfl) rfl) rfl) rfl rfl) rfl rfl rfl) (ss_cons (s_if (b_cmp (o_eq c.cK c.rm) (v_var (i := 4) rfl (by leaf_len) (by decide) (by decide)) v_int rfl) (ss_cons (s_ret (v_calls (FnA.call c ((ok_row_of T).mono (by decide))) (by rfl) T.g_row_of (l_cons (v_tup (l_cons v_str (l_cons (v_calls (FnA.call c ((ok_lowest T).mono (by decide))) (by rfl) T.g_lowest (l_cons (v_var (i := 3) rfl (by leaf_len) (by decide) (by decide)) (l_cons (v_var (i := 1) rfl (by leaf_len) (by decide) (by decide)) l_nil rfl) rfl) rfl (by decide)) l_nil rfl) rfl) (by decide)) l_nil rfl) rfl (by decide))) ss_nil) (ss_nil)) (ss_cons (s_ret (v_calls (FnA.call c ((ok_row_of T).mono (by decide))) (by rfl) T.g_row_of (l_cons (v_tup (l_cons v_str (l_cons (v_calls (FnA.call c ((ok_lowest T).mono (by decide))) (by rfl) T.g_lowest (l_cons (v_bin (o_sub) (v_var (i := 2) rfl (by leaf_len) (by decide) (by decide)) (v_var (i := 1) rfl (by leaf_len) (by decide) (by decide))) (l_cons (v_var (i := 4) rfl (by leaf_len) (by decide) (by decide)) l_nil rfl) rfl) rfl (by decide)) l_nil rfl) rfl) (by decide)) (l_cons (v_tup (l_cons v_str (l_cons (v_calls (FnA.call c ((ok_lowest T).mono (by decide))) (by rfl) T.g_lowest (l_cons (v_var (i := 1) rfl (by leaf_len) (by decide) (by decide)) (l_cons (v_var (i := 4) rfl (by leaf_len) (by decide) (by decide)) l_nil rfl) rfl) rfl (by decide)) l_nil rfl) rfl) (by decide)) (l_cons (v_tup (l_cons v_str (l_cons (v_calls (FnA.call c ((ok_lowest T).mono (by decide))) (by rfl) T.g_lowest (l_cons (v_bin (o_sub) (v_var (i := 5) rfl (by leaf_len) (by decide) (by decide)) (v_var (i := 1) rfl (by leaf_len) (by decide) (by decide))) (l_cons (v_var (i := 4) rfl (by leaf_len) (by decide) (by decide)) l_nil rfl) rfl) rfl (by decide)) l_nil rfl) rfl) (by decide)) l_nil rfl) rfl) rfl) rfl (by decide))) ss_nil))⟩
def sem_star_of : List D → M D := runFn 2 6 pk_star_of.1
theorem ok_star_of (T : Facts P w K mg base ad) : FnA P w K mg base (GG K ad) 6 (ad 6) sem_star_of := by
  obtain ⟨fd, F⟩ := T.f_star_of
  exact fna_rule F sc_star_of (F.binds fun _ _ _ _ _ _ us hl => match us, hl with | [_, _], _ => rfl) rfl (pk_star_of.2 P w K mg base ad T) rfl rfl (by decide)
def pk_star : Σ' ms : MS, ∀ (P : Program) (w : World) (K : PySem.W.Frag) (mg : Str → Option Value) (base : Heap) (ad : Nat → Addr), Facts P w K mg base ad → Body P w K mg base (GG K ad) 6 (ad 7) ["pattern"] "star" st_star ms :=
  ⟨_, fun P w K mg base ad T cdv A fr s H E c => ss_cons (s_expr (v_calls (FnA.call c ((ok_check_pattern T).mono (by decide))) (by rfl) T.g_check_pattern (l_cons (v_var (i := 0) rfl (by leaf_len) (by decide) (by decide)) l_nil rfl) rfl (by decide)) rfl) (ss_cons (s_ret (v_calls (FnA.call c ((ok_star_of T).mono (by decide))) (by rfl) T.g_star_of (l_cons (v_attr c (T_attr_chain_1 T ⟨rfl, rfl, rfl, rfl, rfl⟩ (by decide)) (v_var (i := 0) rfl (by leaf_len) (by decide) (by decide)) rfl) (l_cons (v_attr c (T_attr_scale_1 T ⟨rfl, rfl, rfl, rfl, rfl⟩ (by decide)) (v_var (i := 0) rfl (by leaf_len) (by decide) (by decide)) rfl) l_nil rfl) rfl) rfl (by decide))) ss_nil)⟩
def sem_star : List D → M D := runFn 1 1 pk_star.1
theorem ok_star (T : Facts P w K mg base ad) : FnA P w K mg base (GG K ad) 8 (ad 7) sem_star := by
  obtain ⟨fd, F⟩ := T.f_star
  exact fna_rule F sc_star (F.binds fun _ _ _ _ _ _ us hl => match us, hl with | [_], _ => rfl) rfl (pk_star.2 P w K mg base ad T) rfl rfl (by decide)
def pk_power_of : Σ' ms : MS, ∀ (P : Program) (w : World) (K : PySem.W.Frag) (mg : Str → Option Value) (base : Heap) (ad : Nat → Addr), Facts P w K mg base ad → Body P w K mg base (GG K ad) 0 (ad 8) ["number", "count", "found", "turn"] "power_of" st_power_of ms :=
  ⟨_, fun P w K mg base ad T cdv A fr s H E c => ss_cons (s_set (i := 2) c rfl (by mem_news) v_int rfl (.inl rfl)) (ss_cons (s_for c (i_rng1 (by rfl) T.z_range (l_cons (v_var (i := 1) rfl (by leaf_len) (by decide) (by decide)) l_nil rfl) rfl) (g_name (i := 3) c.nd rfl (by mem_news) (.inl rfl)) (ss_cons (s_set (i := 2) c rfl (by mem_news) (v_bin (o_mul c.cK) (v_var (i := 2) rfl (by leaf_len) (by decide) (by decide)) (v_var (i := 0) rfl (by leaf_len) (by decide) (by decide))) rfl (.inl rfl)) (ss_nil)) rfl) (ss_cons (s_ret (v_var (i := 2) rfl (by leaf_len) (by decide) (by decide))) ss_nil))⟩
def sem_power_of : List D → M D := runFn 2 4 pk_power_of.1
theorem ok_power_of (T : Facts P w K mg base ad) : FnA P w K mg base (GG K ad) 2 (ad 8) sem_power_of := by
  obtain ⟨fd, F⟩ := T.f_power_of
  exact fna_rule F sc_power_of (F.binds fun _ _ _ _ _ _ us hl => match us, hl with | [_, _], _ => rfl) rfl (pk_power_of.2 P w K mg base ad T) rfl rfl (by decide)
def pk_stairs : Σ' ms : MS, ∀ (P : Program) (w : World) (K : PySem.W.Frag) (mg : Str → Option Value) (base : Heap) (ad : Nat → Addr), Facts P w K mg base ad → Body P w K mg base (GG K ad) 0 (ad 9) ["top", "bottom", "count", "here", "before", "turn"] "stairs" st_stairs ms :=
  ⟨_, fun P w K mg base ad T cdv A fr s H E c => ss_cons (s_asg (v_tup (l_cons v_int (l_cons v_int l_nil rfl) rfl) (by decide)) (g_tup c.cK c.calm (gs_cons (g_name (i := 3) c.nd rfl (by mem_news) (.inl rfl)) (gs_cons (g_name (i := 4) c.nd rfl (by mem_news) (.inl rfl)) gs_nil rfl) rfl) rfl rfl) rfl rfl rfl) (ss_cons (s_for c (i_rng1 (by rfl) T.z_range (l_cons (v_bin (o_sub) (v_var (i := 2) rfl (by leaf_len) (by decide) (by decide)) v_int) l_nil rfl) rfl) (g_name (i := 5) c.nd rfl (by mem_news) (.inl rfl)) (ss_cons (s_par (i := 3) (j := 4) c rfl rfl (by decide) rfl rfl (l_cons (v_bin (o_sub) (v_bin (o_mul c.cK) (v_var (i := 0) rfl (by leaf_len) (by decide) (by decide)) (v_var (i := 3) rfl (by leaf_len) (by decide) (by decide))) (v_bin (o_mul c.cK) (v_bin (o_mul c.cK) (v_var (i := 1) rfl (by leaf_len) (by decide) (by decide)) (v_var (i := 1) rfl (by leaf_len) (by decide) (by decide))) (v_var (i := 4) rfl (by leaf_len) (by decide) (by decide)))) (l_cons (v_var (i := 3) rfl (by leaf_len) (by decide) (by decide)) l_nil rfl) rfl) rfl) (ss_nil)) rfl) (ss_cons (s_ret (v_tup (l_cons (v_var (i := 3) rfl (by leaf_len) (by decide) (by decide)) (l_cons (v_var (i := 4) rfl (by leaf_len) (by decide) (by decide)) l_nil rfl) rfl) (by decide))) ss_nil))⟩
def sem_stairs : List D → M D := runFn 3 6 pk_stairs.1
theorem ok_stairs (T : Facts P w K mg base ad) : FnA P w K mg base (GG K ad) 2 (ad 9) sem_stairs := by
  obtain ⟨fd, F⟩ := T.f_stairs
  exact fna_rule F sc_stairs (F.binds fun _ _ _ _ _ _ us hl => match us, hl with | [_, _, _], _ => rfl) rfl (pk_stairs.2 P w K mg base ad T) rfl rfl (by decide)
def pk_trace_of_power : Σ' ms : MS, ∀ (P : Program) (w : World) (K : PySem.W.Frag) (mg : Str → Option Value) (base : Heap) (ad : Nat → Addr), Facts P w K mg base ad → Body P w K mg base (GG K ad) 2 (ad 10) ["top", "bottom", "count", "here", "before"] "trace_of_power" st_trace_of_power ms :=
  ⟨_, fun P w K mg base ad T cdv A fr s H E c => ss_cons (s_asg (v_calls (FnA.call c ((ok_stairs T).mono (by decide))) (by rfl) T.g_stairs (l_cons (v_var (i := 0) rfl (by leaf_len) (by decide) (by decide)) (l_cons (v_var (i := 1) rfl (by leaf_len) (by decide) (by decide)) (l_cons (v_var (i := 2) rfl (by leaf_len) (by decide) (by decide)) l_nil rfl) rfl) rfl) rfl (by decide)) (g_tup c.cK c.calm (gs_cons (g_name (i := 3) c.nd rfl (by mem_news) (.inl rfl)) (gs_cons (g_name (i := 4) c.nd rfl (by mem_news) (.inl rfl)) gs_nil rfl) rfl) rfl rfl) rfl rfl rfl) (ss_cons (s_ret (v_bin (o_sub) (v_bin (o_mul c.cK) (v_var (i := 0) rfl (by leaf_len) (by decide) (by decide)) (v_var (i := 3) rfl (by leaf_len) (by decide) (by decide))) (v_bin (o_mul c.cK) (v_bin (o_mul c.cK) (v_bin (o_mul c.cK) v_int (v_var (i := 1) rfl (by leaf_len) (by decide) (by decide))) (v_var (i := 1) rfl (by leaf_len) (by decide) (by decide))) (v_var (i := 4) rfl (by leaf_len) (by decide) (by decide))))) ss_nil)⟩
def sem_trace_of_power : List D → M D := runFn 3 5 pk_trace_of_power.1
theorem ok_trace_of_power (T : Facts P w K mg base ad) : FnA P w K mg base (GG K ad) 4 (ad 10) sem_trace_of_power := by
  obtain ⟨fd, F⟩ := T.f_trace_of_power
  exact fna_rule F sc_trace_of_power (F.binds fun _ _ _ _ _ _ us hl => match us, hl with | [_, _, _], _ => rfl) rfl (pk_trace_of_power.2 P w K mg base ad T) rfl rfl (by decide)
def pk_may_be : Σ' ms : MS, ∀ (P : Program) (w : World) (K : PySem.W.Frag) (mg : Str → Option Value) (base : Heap) (ad : Nat → Addr), Facts P w K mg base ad → Body P w K mg base (GG K ad) 4 (ad 11) ["top", "bottom", "count"] "may_be" st_may_be ms :=
  ⟨_, fun P w K mg base ad T cdv A fr s H E c => ss_cons (s_ret (v_ite (b_cmp (o_gt) (v_var (i := 1) rfl (by leaf_len) (by decide) (by decide)) v_int rfl) (v_cmp (o_le) (v_calls (FnA.call c ((ok_power_of T).mono (by decide))) (by rfl) T.g_power_of (l_cons v_int (l_cons (v_var (i := 2) rfl (by leaf_len) (by decide) (by decide)) l_nil rfl) rfl) rfl (by decide)) (v_var (i := 1) rfl (by leaf_len) (by decide) (by decide)) rfl) (v_cmp (o_le) (v_calls (FnA.call c ((ok_trace_of_power T).mono (by decide))) (by rfl) T.g_trace_of_power (l_cons v_int (l_cons v_int (l_cons (v_var (i := 2) rfl (by leaf_len) (by decide) (by decide)) l_nil rfl) rfl) rfl) rfl (by decide)) (v_var (i := 0) rfl (by leaf_len) (by decide) (by decide)) rfl))) ss_nil⟩
def sem_may_be : List D → M D := runFn 3 3 pk_may_be.1
theorem ok_may_be (T : Facts P w K mg base ad) : FnA P w K mg base (GG K ad) 6 (ad 11) sem_may_be := by
  obtain ⟨fd, F⟩ := T.f_may_be
  exact fna_rule F sc_may_be (F.binds fun _ _ _ _ _ _ us hl => match us, hl with | [_, _, _], _ => rfl) rfl (pk_may_be.2 P w K mg base ad T) rfl rfl (by decide)
def pk_root_of_power : Σ' ms : MS, ∀ (P : Program) (w : World) (K : PySem.W.Frag) (mg : Str → Option Value) (base : Heap) (ad : Nat → Addr), Facts P w K mg base ad → Body P w K mg base (GG K ad) 2 (ad 12) ["number", "power", "low", "high", "middle"] "root_of_power" st_root_of_power ms :=
  ⟨_, fun P w K mg base ad T cdv A fr s H E c => ss_cons (s_par (i := 2) (j := 3) c rfl rfl (by decide) rfl rfl (l_cons v_int (l_cons (v_var (i := 0) rfl (by leaf_len) (by decide) (by decide)) l_nil rfl) rfl) rfl) (ss_cons (s_while c (b_cmp (o_lt) (v_var (i := 2) rfl (by leaf_len) (by decide) (by decide)) (v_var (i := 3) rfl (by leaf_len) (by decide) (by decide)) rfl) (ss_cons (s_set (i := 4) c rfl (by mem_news) (v_bin (o_fdiv) (v_bin (o_add c.cK) (v_var (i := 2) rfl (by leaf_len) (by decide) (by decide)) (v_var (i := 3) rfl (by leaf_len) (by decide) (by decide))) v_int) rfl (.inl rfl)) (ss_cons (s_if (b_cmp (o_lt) (v_calls (FnA.call c ((ok_power_of T).mono (by decide))) (by rfl) T.g_power_of (l_cons (v_var (i := 4) rfl (by leaf_len) (by decide) (by decide)) (l_cons (v_var (i := 1) rfl (by leaf_len) (by decide) (by decide)) l_nil rfl) rfl) rfl (by decide)) (v_var (i := 0) rfl (by leaf_len) (by decide) (by decide)) rfl) (ss_cons (s_set (i := 2) c rfl (by mem_news) (v_bin (o_add c.cK) (v_var (i := 4) rfl (by leaf_len) (by decide) (by decide)) v_int) rfl (.inl rfl)) (ss_nil)) (ss_cons (s_set (i := 3) c rfl (by mem_news) (v_var (i := 4) rfl (by leaf_len) (by decide) (by decide)) rfl (.inl rfl)) (ss_nil))) (ss_nil)))) (ss_cons (s_ret (v_ite (b_cmp (o_eq c.cK c.rm) (v_calls (FnA.call c ((ok_power_of T).mono (by decide))) (by rfl) T.g_power_of (l_cons (v_var (i := 2) rfl (by leaf_len) (by decide) (by decide)) (l_cons (v_var (i := 1) rfl (by leaf_len) (by decide) (by decide)) l_nil rfl) rfl) rfl (by decide)) (v_var (i := 0) rfl (by leaf_len) (by decide) (by decide)) rfl) (v_var (i := 2) rfl (by leaf_len) (by decide) (by decide)) v_none)) ss_nil))⟩
def sem_root_of_power : List D → M D := runFn 2 5 pk_root_of_power.1
theorem ok_root_of_power (T : Facts P w K mg base ad) : FnA P w K mg base (GG K ad) 4 (ad 12) sem_root_of_power := by
  obtain ⟨fd, F⟩ := T.f_root_of_power
  exact fna_rule F sc_root_of_power (F.binds fun _ _ _ _ _ _ us hl => match us, hl with | [_, _], _ => rfl) rfl (pk_root_of_power.2 P w K mg base ad T) rfl rfl (by decide)
def pk_trace_root : Σ' ms : MS, ∀ (P : Program) (w : World) (K : PySem.W.Frag) (mg : Str → Option Value) (base : Heap) (ad : Nat → Addr), Facts P w K mg base ad → Body P w K mg base (GG K ad) 4 (ad 13) ["top", "bottom", "count", "part", "low", "high", "middle"] "trace_root" st_trace_root ms :=
  ⟨_, fun P w K mg base ad T cdv A fr s H E c => ss_cons (s_set (i := 3) c rfl (by mem_news) (v_calls (FnA.call c ((ok_root_of_power T).mono (by decide))) (by rfl) T.g_root_of_power (l_cons (v_var (i := 1) rfl (by leaf_len) (by decide) (by decide)) (l_cons (v_var (i := 2) rfl (by leaf_len) (by decide) (by decide)) l_nil rfl) rfl) rfl (by decide)) rfl (.inl rfl)) (ss_cons (s_if (b_cmp (o_is) (v_var (i := 3) rfl (by leaf_len) (by decide) (by decide)) v_none rfl) (ss_cons (s_ret v_none) ss_nil) (ss_nil)) (ss_cons (s_par (i := 4) (j := 5) c rfl rfl (by decide) rfl rfl (l_cons (v_bin (o_mul c.cK) v_int (v_var (i := 3) rfl (by leaf_len) (by decide) (by decide))) (l_cons (v_var (i := 0) rfl (by leaf_len) (by decide) (by decide)) l_nil rfl) rfl) rfl) (ss_cons (s_while c (b_cmp (o_lt) (v_var (i := 4) rfl (by leaf_len) (by decide) (by decide)) (v_var (i := 5) rfl (by leaf_len) (by decide) (by decide)) rfl) (ss_cons (s_set (i := 6) c rfl (by mem_news) (v_bin (o_fdiv) (v_bin (o_add c.cK) (v_var (i := 4) rfl (by leaf_len) (by decide) (by decide)) (v_var (i := 5) rfl (by leaf_len) (by decide) (by decide))) v_int) rfl (.inl rfl)) (ss_cons (s_if (b_cmp (o_lt) (v_calls (FnA.call c ((ok_trace_of_power T).mono (by decide))) (by rfl) T.g_trace_of_power (l_cons (v_var (i := 6) rfl (by leaf_len) (by decide) (by decide)) (l_cons (v_var (i := 3) rfl (by leaf_len) (by decide) (by decide)) (l_cons (v_var (i := 2) rfl (by leaf_len) (by decide) (by decide)) l_nil rfl) rfl) rfl) rfl (by decide)) (v_var (i := 0) rfl (by leaf_len) (by decide) (by decide)) rfl) (ss_cons (s_set (i := 4) c rfl (by mem_news) (v_bin (o_add c.cK) (v_var (i := 6) rfl (by leaf_len) (by decide) (by decide)) v_int) rfl (.inl rfl)) (ss_nil)) (ss_cons (s_set (i := 5) c rfl (by mem_news) (v_var (i := 6) rfl (by leaf_len) (by decide) (by decide)) rfl (.inl rfl)) (ss_nil))) (ss_nil)))) (ss_cons (s_ret (v_ite (b_of (w_and (b_cmp (o_gt) (v_var (i := 4) rfl (by leaf_len) (by decide) (by decide)) (v_bin (o_mul c.cK) v_int (v_var (i := 3) rfl (by leaf_len) (by decide) (by decide))) rfl) (w_and1 (b_cmp (o_eq c.cK c.rm) (v_calls (FnA.call c ((ok_trace_of_power T).mono (by decide))) (by rfl) T.g_trace_of_power (l_cons (v_var (i := 4) rfl (by leaf_len) (by decide) (by decide)) (l_cons (v_var (i := 3) rfl (by leaf_len) (by decide) (by decide)) (l_cons (v_var (i := 2) rfl (by leaf_len) (by decide) (by decide)) l_nil rfl) rfl) rfl) rfl (by decide)) (v_var (i := 0) rfl (by leaf_len) (by decide) (by decide)) rfl)))) (v_tup (l_cons (v_var (i := 4) rfl (by leaf_len) (by decide) (by decide)) (l_cons (v_var (i := 3) rfl (by leaf_len) (by decide) (by decide)) l_nil rfl) rfl) (by decide)) v_none)) ss_nil))))⟩
def sem_trace_root : List D → M D := runFn 3 7 pk_trace_root.1
theorem ok_trace_root (T : Facts P w K mg base ad) : FnA P w K mg base (GG K ad) 6 (ad 13) sem_trace_root := by
  obtain ⟨fd, F⟩ := T.f_trace_root
  exact fna_rule F sc_trace_root (F.binds fun _ _ _ _ _ _ us hl => match us, hl with | [_, _, _], _ => rfl) rfl (pk_trace_root.2 P w K mg base ad T) rfl rfl (by decide)
def pk_root_row : Σ' ms : MS, ∀ (P : Program) (w : World) (K : PySem.W.Frag) (mg : Str → Option Value) (base : Heap) (ad : Nat → Addr), Facts P w K mg base ad → Body P w K mg base (GG K ad) 6 (ad 14) ["chain", "scale", "trace", "count", "a", "b", "c", "d", "here", "before", "more", "whole", "by", "found"] "root_row" st_root_row ms :=
  ⟨_, fun P w K mg base ad T cdv A fr s H E c => ss_cons (s_asg (v_var (i := 0) rfl (by leaf_len) (by decide) (by decide)) (g_tup c.cK c.calm (gs_cons (g_name (i := 4) c.nd rfl (by mem_news) (.inl rfl)) (gs_cons (g_name (i := 5) c.nd rfl (by mem_news) (.inl rfl)) (gs_cons (g_name (i := 6) c.nd rfl (by mem_news) (.inl rfl)) (gs_cons (g_name (i := 7) c.nd rfl (by mem_news) (.inl rfl)) gs_nil rfl) rfl) rfl) rfl) rfl rfl) rfl rfl rfl) (ss_cons (s_asg (v_calls (FnA.call c ((ok_stairs T).mono (by decide))) (by rfl) T.g_stairs (l_cons (v_ix c.cK (v_var (i := 2) rfl (by leaf_len) (by decide) (by decide)) v_int rfl) (l_cons (v_ix c.cK (v_var (i := 2) rfl (by leaf_len) (by decide) (by decide)) v_int rfl) (l_cons (v_var (i := 3) rfl (by leaf_len) (by decide) (by decide)) l_nil rfl) rfl) rfl) rfl (by decide)) (g_tup c.cK c.calm (gs_cons (g_name (i := 8) c.nd rfl (by mem_news) (.inl rfl)) (gs_cons (g_name (i := 9) c.nd rfl (by mem_news) (.inl rfl)) gs_nil rfl) rfl) rfl rfl) rfl rfl rfl) (ss_cons (s_par (i := 10) (j := 11) c rfl rfl (by decide) rfl rfl (l_cons (v_bin (o_mul c.cK) (v_bin (o_mul c.cK) (v_var (i := 1) rfl (by leaf_len) (by decide) (by decide)) (v_var (i := 9) rfl (by leaf_len) (by decide) (by decide))) (v_ix c.cK (v_var (i := 2) rfl (by leaf_len) (by decide) (by decide)) v_int rfl)) (l_cons (v_bin (o_mul c.cK) (v_var (i := 8) rfl (by leaf_len) (by decide) (by decide)) (v_var (i := 1) rfl (by leaf_len) (by decide) (by decide))) l_nil rfl) rfl) rfl) (ss_cons (s_set (i := 12) c rfl (by mem_news) (v_calls (FnA.call c ((ok_power_of T).mono (by decide))) (by rfl) T.g_power_of (l_cons (v_ix c.cK (v_var (i := 2) rfl (by leaf_len) (by decide) (by decide)) v_int rfl) (l_cons (v_bin (o_sub) (v_var (i := 3) rfl (by leaf_len) (by decide) (by decide)) v_int) l_nil rfl) rfl) rfl (by decide)) rfl (.inl rfl)) (ss_cons (s_set (i := 13) c rfl (by mem_news) (v_tup (l_cons (v_bin (o_add c.cK) (v_bin (o_mul c.cK) (v_var (i := 4) rfl (by leaf_len) (by decide) (by decide)) (v_var (i := 12) rfl (by leaf_len) (by decide) (by decide))) (v_var (i := 10) rfl (by leaf_len) (by decide) (by decide))) (l_cons (v_bin (o_mul c.cK) (v_var (i := 5) rfl (by leaf_len) (by decide) (by decide)) (v_var (i := 12) rfl (by leaf_len) (by decide) (by decide))) (l_cons (v_bin (o_mul c.cK) (v_var (i := 6) rfl (by leaf_len) (by decide) (by decide)) (v_var (i := 12) rfl (by leaf_len) (by decide) (by decide))) (l_cons (v_bin (o_add c.cK) (v_bin (o_mul c.cK) (v_var (i := 7) rfl (by leaf_len) (by decide) (by decide)) (v_var (i := 12) rfl (by leaf_len) (by decide) (by decide))) (v_var (i := 10) rfl (by leaf_len) (by decide) (by decide))) l_nil rfl) rfl) rfl) rfl) (by decide)) rfl (.inl rfl)) (ss_cons (s_if (b_of (w_or (b_cmp (o_lt) (v_ix c.cK (v_var (i := 13) rfl (by leaf_len) (by decide) (by decide)) v_int rfl) (v_var (i := 11) rfl (by leaf_len) (by decide) (by decide)) rfl) (w_or1 (b_cmp (o_lt) (v_ix c.cK (v_var (i := 13) rfl (by leaf_len) (by decide) (by decide)) v_int rfl) (v_var (i := 11) rfl (by leaf_len) (by decide) (by decide)) rfl)))) (ss_cons (s_ret v_none) ss_nil) (ss_nil)) (ss_cons (s_ret (v_calls (FnA.call c ((ok_star_of T).mono (by decide))) (by rfl) T.g_star_of (l_cons (v_var (i := 13) rfl (by leaf_len) (by decide) (by decide)) (l_cons (v_var (i := 11) rfl (by leaf_len) (by decide) (by decide)) l_nil rfl) rfl) rfl (by decide))) ss_nil))))))⟩
def sem_root_row : List D → M D := runFn 4 14 pk_root_row.1
theorem ok_root_row (T : Facts P w K mg base ad) : FnA P w K mg base (GG K ad) 8 (ad 14) sem_root_row := by
  obtain ⟨fd, F⟩ := T.f_root_row
  exact fna_rule F sc_root_row (F.binds fun _ _ _ _ _ _ us hl => match us, hl with | [_, _, _, _], _ => rfl) rfl (pk_root_row.2 P w K mg base ad T) rfl rfl (by decide)
def pk_repetition : Σ' ms : MS, ∀ (P : Program) (w : World) (K : PySem.W.Frag) (mg : Str → Option Value) (base : Heap) (ad : Nat → Addr), Facts P w K mg base ad → Body P w K mg base (GG K ad) 8 (ad 15) ["pattern", "chain", "scale", "top", "bottom", "count", "best", "trace", "row"] "repetition" st_repetition ms :=
  ⟨_, fun P w K mg base ad T cdv A fr s H E c => ss_cons (s_expr (v_calls (FnA.call c ((ok_check_pattern T).mono (by decide))) (by rfl) T.g_check_pattern (l_cons (v_var (i := 0) rfl (by leaf_len) (by decide) (by decide)) l_nil rfl) rfl (by decide)) rfl) (ss_cons (s_par (i := 1) (j := 2) c rfl rfl (by decide) rfl rfl (l_cons (v_attr c (T_attr_chain_1 T ⟨rfl, rfl, rfl, rfl, rfl⟩ (by decide)) (v_var (i := 0) rfl (by leaf_len) (by decide) (by decide)) rfl) (l_cons (v_attr c (T_attr_scale_1 T ⟨rfl, rfl, rfl, rfl, rfl⟩ (by decide)) (v_var (i := 0) rfl (by leaf_len) (by decide) (by decide)) rfl) l_nil rfl) rfl) rfl) (ss_cons (s_if (b_of (w_or (b_val (v_calls (FnA.call c ((ok_is_rails T).mono (by decide))) (by rfl) T.g_is_rails (l_cons (v_var (i := 1) rfl (by leaf_len) (by decide) (by decide)) l_nil rfl) rfl (by decide)) (fun _ => rfl)) (w_or1 (b_val (v_calls (FnA.call c ((ok_is_rungs T).mono (by decide))) (by rfl) T.g_is_rungs (l_cons (v_var (i := 1) rfl (by leaf_len) (by decide) (by decide)) l_nil rfl) rfl (by decide)) (fun _ => rfl))))) (ss_cons (s_ret v_none) ss_nil) (ss_nil)) (ss_cons (s_asg (v_calls (FnA.call c ((ok_lowest T).mono (by decide))) (by rfl) T.g_lowest (l_cons (v_bin (o_add c.cK) (v_ix c.cK (v_var (i := 1) rfl (by leaf_len) (by decide) (by decide)) v_int rfl) (v_ix c.cK (v_var (i := 1) rfl (by leaf_len) (by decide) (by decide)) v_int rfl)) (l_cons (v_var (i := 2) rfl (by leaf_len) (by decide) (by decide)) l_nil rfl) rfl) rfl (by decide)) (g_tup c.cK c.calm (gs_cons (g_name (i := 3) c.nd rfl (by mem_news) (.inl rfl)) (gs_cons (g_name (i := 4) c.nd rfl (by mem_news) (.inl rfl)) gs_nil rfl) rfl) rfl rfl) rfl rfl rfl) (ss_cons (s_par (i := 5) (j := 6) c rfl rfl (by decide) rfl rfl (l_cons v_int (l_cons (v_tup (l_cons v_int (l_cons (v_calls (FnA.call c ((ok_star T).mono (by decide))) (by rfl) T.g_star (l_cons (v_var (i := 0) rfl (by leaf_len) (by decide) (by decide)) l_nil rfl) rfl (by decide)) l_nil rfl) rfl) (by decide)) l_nil rfl) rfl) rfl) (ss_cons (s_while c (b_val (v_calls (FnA.call c ((ok_may_be T).mono (by decide))) (by rfl) T.g_may_be (l_cons (v_var (i := 3) rfl (by leaf_len) (by decide) (by decide)) (l_cons (v_var (i := 4) rfl (by leaf_len) (by decide) (by decide)) (l_cons (v_var (i := 5) rfl (by leaf_len) (by decide) (by decide)) l_nil rfl) rfl) rfl) rfl (by decide)) (fun _ => rfl)) (ss_cons (s_set (i := 7) c rfl (by mem_news) (v_calls (FnA.call c ((ok_trace_root T).mono (by decide))) (by rfl) T.g_trace_root (l_cons (v_var (i := 3) rfl (by leaf_len) (by decide) (by decide)) (l_cons (v_var (i := 4) rfl (by leaf_len) (by decide) (by decide)) (l_cons (v_var (i := 5) rfl (by leaf_len) (by decide) (by decide)) l_nil rfl) rfl) rfl) rfl (by decide)) rfl (.inl rfl)) (ss_cons (s_set (i := 8) c rfl (by mem_news) (v_ite (b_cmp (o_is) (v_var (i := 7) rfl (by leaf_len) (by decide) (by decide)) v_none rfl) v_none (v_calls (FnA.call c ((ok_root_row T).mono (by decide))) (by rfl) T.g_root_row (l_cons (v_var (i := 1) rfl (by leaf_len) (by decide) (by decide)) (l_cons (v_var (i := 2) rfl (by leaf_len) (by decide) (by decide)) (l_cons (v_var (i := 7) rfl (by leaf_len) (by decide) (by decide)) (l_cons (v_var (i := 5) rfl (by leaf_len) (by decide) (by decide)) l_nil rfl) rfl) rfl) rfl) rfl (by decide))) rfl (.inl rfl)) (ss_cons (s_if (b_cmp (o_isnot) (v_var (i := 8) rfl (by leaf_len) (by decide) (by decide)) v_none rfl) (ss_cons (s_set (i := 6) c rfl (by mem_news) (v_tup (l_cons (v_var (i := 5) rfl (by leaf_len) (by decide) (by decide)) (l_cons (v_var (i := 8) rfl (by leaf_len) (by decide) (by decide)) l_nil rfl) rfl) (by decide)) rfl (.inl rfl)) (ss_nil)) (ss_nil)) (ss_cons (s_aug (i := 5) c rfl (by mem_news) v_int (.inl rfl)) (ss_nil)))))) (ss_cons (s_ret (v_var (i := 6) rfl (by leaf_len) (by decide) (by decide))) ss_nil))))))⟩
def sem_repetition : List D → M D := runFn 1 9 pk_repetition.1
theorem ok_repetition (T : Facts P w K mg base ad) : FnA P w K mg base (GG K ad) 10 (ad 15) sem_repetition := by
  obtain ⟨fd, F⟩ := T.f_repetition
  exact fna_rule F sc_repetition (F.binds fun _ _ _ _ _ _ us hl => match us, hl with | [_], _ => rfl) rfl (pk_repetition.2 P w K mg base ad T) rfl rfl (by decide)
def pk_is_integer : Σ' ms : MS, ∀ (P : Program) (w : World) (K : PySem.W.Frag) (mg : Str → Option Value) (base : Heap) (ad : Nat → Addr), Facts P w K mg base ad → Body P w K mg base (GG K ad) 0 (ad 16) ["value"] "is_integer" st_is_integer ms :=
  ⟨_, fun P w K mg base ad T cdv A fr s H E c => ss_cons (s_ret (v_and (v_callB (c_isa c.cK (T.isa _ rfl)) (by rfl) T.z_isinstance (by decide +kernel) (l_cons (v_var (i := 0) rfl (by leaf_len) (by decide) (by decide)) (l_cons (v_ty (t := .int) (by rfl) T.z_int (by decide +kernel) (by decide) (by decide)) l_nil rfl) rfl) rfl (by decide) (by decide)) (v_one (v_not (v_callB (c_isa c.cK (T.isa _ rfl)) (by rfl) T.z_isinstance (by decide +kernel) (l_cons (v_var (i := 0) rfl (by leaf_len) (by decide) (by decide)) (l_cons (v_ty (t := .bool) (by rfl) T.z_bool (by decide +kernel) (by decide) (by decide)) l_nil rfl) rfl) rfl (by decide) (by decide)))))) ss_nil⟩
def sem_is_integer : List D → M D := runFn 1 1 pk_is_integer.1
theorem ok_is_integer (T : Facts P w K mg base ad) : FnA P w K mg base (GG K ad) 2 (ad 16) sem_is_integer := by
  obtain ⟨fd, F⟩ := T.f_is_integer
  exact fna_rule F sc_is_integer (F.binds fun _ _ _ _ _ _ us hl => match us, hl with | [_], _ => rfl) rfl (pk_is_integer.2 P w K mg base ad T) rfl rfl (by decide)
def pk_is_between : Σ' ms : MS, ∀ (P : Program) (w : World) (K : PySem.W.Frag) (mg : Str → Option Value) (base : Heap) (ad : Nat → Addr), Facts P w K mg base ad → Body P w K mg base (GG K ad) 2 (ad 17) ["value", "low", "high"] "is_between" st_is_between ms :=
  ⟨_, fun P w K mg base ad T cdv A fr s H E c => ss_cons (s_ret (v_and (v_calls (FnA.call c ((ok_is_integer T).mono (by decide))) (by rfl) T.g_is_integer (l_cons (v_var (i := 0) rfl (by leaf_len) (by decide) (by decide)) l_nil rfl) rfl (by decide)) (v_one (v_chain' (o_le) (o_le) (v_var (i := 1) rfl (by leaf_len) (by decide) (by decide)) (v_var (i := 0) rfl (by leaf_len) (by decide) (by decide)) (v_var (i := 2) rfl (by leaf_len) (by decide) (by decide)) rfl)))) ss_nil⟩
def sem_is_between : List D → M D := runFn 3 3 pk_is_between.1
theorem ok_is_between (T : Facts P w K mg base ad) : FnA P w K mg base (GG K ad) 4 (ad 17) sem_is_between := by
  obtain ⟨fd, F⟩ := T.f_is_between
  exact fna_rule F sc_is_between (F.binds fun _ _ _ _ _ _ us hl => match us, hl with | [_, _, _], _ => rfl) rfl (pk_is_between.2 P w K mg base ad T) rfl rfl (by decide)
def pk_is_piece : Σ' ms : MS, ∀ (P : Program) (w : World) (K : PySem.W.Frag) (mg : Str → Option Value) (base : Heap) (ad : Nat → Addr), Facts P w K mg base ad → Body P w K mg base (GG K ad) 4 (ad 18) ["value"] "is_piece" st_is_piece ms :=
  ⟨_, fun P w K mg base ad T cdv A fr s H E c => ss_cons (s_if (b_of (w_or (b_not (b_val (v_callB (c_isa c.cK (T.isa _ rfl)) (by rfl) T.z_isinstance (by decide +kernel) (l_cons (v_var (i := 0) rfl (by leaf_len) (by decide) (by decide)) (l_cons (v_ty (t := .tuple) (by rfl) T.z_tuple (by decide +kernel) (by decide) (by decide)) l_nil rfl) rfl) rfl (by decide) (by decide)) (fun _ => rfl))) (w_or (b_cmp (o_ne c.cK c.rm) (v_callB (c_len c.cK) (by rfl) T.z_len (by decide +kernel) (l_cons (v_var (i := 0) rfl (by leaf_len) (by decide) (by decide)) l_nil rfl) rfl (by decide) (by decide)) v_int rfl) (w_or1 (b_not (b_val (v_callB (c_isa c.cK (T.isa _ rfl)) (by rfl) T.z_isinstance (by decide +kernel) (l_cons (v_ix c.cK (v_var (i := 0) rfl (by leaf_len) (by decide) (by decide)) v_int rfl) (l_cons (v_ty (t := .str) (by rfl) T.z_str (by decide +kernel) (by decide) (by decide)) l_nil rfl) rfl) rfl (by decide) (by decide)) (fun _ => rfl))))))) (ss_cons (s_ret v_bool) ss_nil) (ss_nil)) (ss_cons (s_ret (v_and (v_cmp (o_in c.cK c.rm) (v_ix c.cK (v_var (i := 0) rfl (by leaf_len) (by decide) (by decide)) v_int rfl) (v_glob (by rfl) T.c_WORDS (by decide)) rfl) (v_one (v_calls (FnA.call c ((ok_is_between T).mono (by decide))) (by rfl) T.g_is_between (l_cons (v_ix c.cK (v_var (i := 0) rfl (by leaf_len) (by decide) (by decide)) v_int rfl) (l_cons v_int (l_cons (v_glob (by rfl) T.c_MOST_OHMS (by decide)) l_nil rfl) rfl) rfl) rfl (by decide))))) ss_nil)⟩
def sem_is_piece : List D → M D := runFn 1 1 pk_is_piece.1
theorem ok_is_piece (T : Facts P w K mg base ad) : FnA P w K mg base (GG K ad) 6 (ad 18) sem_is_piece := by
  obtain ⟨fd, F⟩ := T.f_is_piece
  exact fna_rule F sc_is_piece (F.binds fun _ _ _ _ _ _ us hl => match us, hl with | [_], _ => rfl) rfl (pk_is_piece.2 P w K mg base ad T) rfl rfl (by decide)
def pk_check_pieces : Σ' ms : MS, ∀ (P : Program) (w : World) (K : PySem.W.Frag) (mg : Str → Option Value) (base : Heap) (ad : Nat → Addr), Facts P w K mg base ad → Body P w K mg base (GG K ad) 6 (ad 19) ["pieces", "index", "piece"] "check_pieces" st_check_pieces ms :=
  ⟨_, fun P w K mg base ad T cdv A fr s H E c => ss_cons (s_if (b_of (w_or (b_cmp (o_eq c.cK c.rm) (v_callB (c_len c.cK) (by rfl) T.z_len (by decide +kernel) (l_cons (v_var (i := 0) rfl (by leaf_len) (by decide) (by decide)) l_nil rfl) rfl (by decide) (by decide)) v_int rfl) (w_or1 (b_cmp (o_gt) (v_callB (c_len c.cK) (by rfl) T.z_len (by decide +kernel) (l_cons (v_var (i := 0) rfl (by leaf_len) (by decide) (by decide)) l_nil rfl) rfl (by decide) (by decide)) (v_glob (by rfl) T.c_MOST_PIECES (by decide)) rfl)))) (ss_never) (ss_nil)) (ss_cons (s_for c (i_enum c (by rfl) T.z_enumerate (v_var (i := 0) rfl (by leaf_len) (by decide) (by decide)) rfl) (g_tup c.cK c.calm (gs_cons (g_name (i := 1) c.nd rfl (by mem_news) (.inl rfl)) (gs_cons (g_name (i := 2) c.nd rfl (by mem_news) (.inl rfl)) gs_nil rfl) rfl) rfl rfl) (ss_cons (s_if (b_not (b_val (v_calls (FnA.call c ((ok_is_piece T).mono (by decide))) (by rfl) T.g_is_piece (l_cons (v_var (i := 2) rfl (by leaf_len) (by decide) (by decide)) l_nil rfl) rfl (by decide)) (fun _ => rfl))) (ss_never) (ss_nil)) (ss_nil)) rfl) (ss_nil))⟩
def sem_check_pieces : List D → M D := runFn 1 3 pk_check_pieces.1
theorem ok_check_pieces (T : Facts P w K mg base ad) : FnA P w K mg base (GG K ad) 8 (ad 19) sem_check_pieces := by
  obtain ⟨fd, F⟩ := T.f_check_pieces
  exact fna_rule F sc_check_pieces (F.binds fun _ _ _ _ _ _ us hl => match us, hl with | [_], _ => rfl) rfl (pk_check_pieces.2 P w K mg base ad T) rfl rfl (by decide)
def pk_joined : Σ' ms : MS, ∀ (P : Program) (w : World) (K : PySem.W.Frag) (mg : Str → Option Value) (base : Heap) (ad : Nat → Addr), Facts P w K mg base ad → Body P w K mg base (GG K ad) 0 (ad 20) ["front", "back", "a", "b", "c", "d", "e", "f", "g", "h"] "joined" st_joined ms :=
  ⟨_, fun P w K mg base ad T cdv A fr s H E c => ss_cons (s_asg (v_var (i := 0) rfl (by leaf_len) (by decide) (by decide)) (g_tup c.cK c.calm (gs_cons (g_name (i := 2) c.nd rfl (by mem_news) (.inl rfl)) (gs_cons (g_name (i := 3) c.nd rfl (by mem_news) (.inl rfl)) (gs_cons (g_name (i := 4) c.nd rfl (by mem_news) (.inl rfl)) (gs_cons (g_name (i := 5) c.nd rfl (by mem_news) (.inl rfl)) gs_nil rfl) rfl) rfl) rfl) rfl rfl) rfl rfl rfl) (ss_cons (s_asg (v_var (i := 1) rfl (by leaf_len) (by decide) (by decide)) (g_tup c.cK c.calm (gs_cons (g_name (i := 6) c.nd rfl (by mem_news) (.inl rfl)) (gs_cons (g_name (i := 7) c.nd rfl (by mem_news) (.inl rfl)) (gs_cons (g_name (i := 8) c.nd rfl (by mem_news) (.inl rfl)) (gs_cons (g_name (i := 9) c.nd rfl (by mem_news) (.inl rfl)) gs_nil rfl) rfl) rfl) rfl) rfl rfl) rfl rfl rfl) (ss_cons (s_ret (v_tup (l_cons (v_bin (o_add c.cK) (v_bin (o_mul c.cK) (v_var (i := 2) rfl (by leaf_len) (by decide) (by decide)) (v_var (i := 6) rfl (by leaf_len) (by decide) (by decide))) (v_bin (o_mul c.cK) (v_var (i := 3) rfl (by leaf_len) (by decide) (by decide)) (v_var (i := 8) rfl (by leaf_len) (by decide) (by decide)))) (l_cons (v_bin (o_add c.cK) (v_bin (o_mul c.cK) (v_var (i := 2) rfl (by leaf_len) (by decide) (by decide)) (v_var (i := 7) rfl (by leaf_len) (by decide) (by decide))) (v_bin (o_mul c.cK) (v_var (i := 3) rfl (by leaf_len) (by decide) (by decide)) (v_var (i := 9) rfl (by leaf_len) (by decide) (by decide)))) (l_cons (v_bin (o_add c.cK) (v_bin (o_mul c.cK) (v_var (i := 4) rfl (by leaf_len) (by decide) (by decide)) (v_var (i := 6) rfl (by leaf_len) (by decide) (by decide))) (v_bin (o_mul c.cK) (v_var (i := 5) rfl (by leaf_len) (by decide) (by decide)) (v_var (i := 8) rfl (by leaf_len) (by decide) (by decide)))) (l_cons (v_bin (o_add c.cK) (v_bin (o_mul c.cK) (v_var (i := 4) rfl (by leaf_len) (by decide) (by decide)) (v_var (i := 7) rfl (by leaf_len) (by decide) (by decide))) (v_bin (o_mul c.cK) (v_var (i := 5) rfl (by leaf_len) (by decide) (by decide)) (v_var (i := 9) rfl (by leaf_len) (by decide) (by decide)))) l_nil rfl) rfl) rfl) rfl) (by decide))) ss_nil))⟩
def sem_joined : List D → M D := runFn 2 10 pk_joined.1
theorem ok_joined (T : Facts P w K mg base ad) : FnA P w K mg base (GG K ad) 2 (ad 20) sem_joined := by
  obtain ⟨fd, F⟩ := T.f_joined
  exact fna_rule F sc_joined (F.binds fun _ _ _ _ _ _ us hl => match us, hl with | [_, _], _ => rfl) rfl (pk_joined.2 P w K mg base ad T) rfl rfl (by decide)
def pk_chain_of : Σ' ms : MS, ∀ (P : Program) (w : World) (K : PySem.W.Frag) (mg : Str → Option Value) (base : Heap) (ad : Nat → Addr), Facts P w K mg base ad → Body P w K mg base (GG K ad) 2 (ad 21) ["pieces", "found", "times", "word", "ohms"] "chain_of" st_chain_of ms :=
  ⟨_, fun P w K mg base ad T cdv A fr s H E c => ss_cons (s_par (i := 1) (j := 2) c rfl rfl (by decide) rfl rfl (l_cons (v_glob (by rfl) T.c_NOTHING (by decide)) (l_cons v_int l_nil rfl) rfl) rfl) (ss_cons (s_for c (i_seq c (v_var (i := 0) rfl (by leaf_len) (by decide) (by decide))) (g_tup c.cK c.calm (gs_cons (g_name (i := 3) c.nd rfl (by mem_news) (.inl rfl)) (gs_cons (g_name (i := 4) c.nd rfl (by mem_news) (.inl rfl)) gs_nil rfl) rfl) rfl rfl) (ss_cons (s_if (b_cmp (o_eq c.cK c.rm) (v_var (i := 3) rfl (by leaf_len) (by decide) (by decide)) v_str rfl) (ss_cons (s_set (i := 1) c rfl (by mem_news) (v_calls (FnA.call c ((ok_joined T).mono (by decide))) (by rfl) T.g_joined (l_cons (v_var (i := 1) rfl (by leaf_len) (by decide) (by decide)) (l_cons (v_tup (l_cons v_int (l_cons (v_var (i := 4) rfl (by leaf_len) (by decide) (by decide)) (l_cons v_int (l_cons v_int l_nil rfl) rfl) rfl) rfl) (by decide)) l_nil rfl) rfl) rfl (by decide)) rfl (.inl rfl)) (ss_nil)) (ss_cons (s_par (i := 1) (j := 2) c rfl rfl (by decide) rfl rfl (l_cons (v_calls (FnA.call c ((ok_joined T).mono (by decide))) (by rfl) T.g_joined (l_cons (v_var (i := 1) rfl (by leaf_len) (by decide) (by decide)) (l_cons (v_tup (l_cons (v_var (i := 4) rfl (by leaf_len) (by decide) (by decide)) (l_cons v_int (l_cons v_int (l_cons (v_var (i := 4) rfl (by leaf_len) (by decide) (by decide)) l_nil rfl) rfl) rfl) rfl) (by decide)) l_nil rfl) rfl) rfl (by decide)) (l_cons (v_bin (o_mul c.cK) (v_var (i := 2) rfl (by leaf_len) (by decide) (by decide)) (v_var (i := 4) rfl (by leaf_len) (by decide) (by decide))) l_nil rfl) rfl) rfl) (ss_nil))) (ss_nil)) rfl) (ss_cons (s_ret (v_tup (l_cons (v_var (i := 1) rfl (by leaf_len) (by decide) (by decide)) (l_cons (v_var (i := 2) rfl (by leaf_len) (by decide) (by decide)) l_nil rfl) rfl) (by decide))) ss_nil))⟩
def sem_chain_of : List D → M D := runFn 1 5 pk_chain_of.1
theorem ok_chain_of (T : Facts P w K mg base ad) : FnA P w K mg base (GG K ad) 4 (ad 21) sem_chain_of := by
  obtain ⟨fd, F⟩ := T.f_chain_of
  exact fna_rule F sc_chain_of (F.binds fun _ _ _ _ _ _ us hl => match us, hl with | [_], _ => rfl) rfl (pk_chain_of.2 P w K mg base ad T) rfl rfl (by decide)
def pk_PatternX_initX : Σ' ms : MS, ∀ (P : Program) (w : World) (K : PySem.W.Frag) (mg : Str → Option Value) (base : Heap) (ad : Nat → Addr), Facts P w K mg base ad → Body P w K mg base (GG K ad) 8 (ad 22) ["self", "pieces"] "Pattern.__init__" st_PatternX_initX ms :=
  ⟨_, fun P w K mg base ad T cdv A fr s H E c => ss_cons (s_if (b_of (w_and (b_cmp (o_eq c.cK c.rm) (v_callB (c_len c.cK) (by rfl) T.z_len (by decide +kernel) (l_cons (v_var (i := 1) rfl (by leaf_len) (by decide) (by decide)) l_nil rfl) rfl (by decide) (by decide)) v_int rfl) (w_and1 (b_val (v_callB (c_isa c.cK (T.isa _ rfl)) (by rfl) T.z_isinstance (by decide +kernel) (l_cons (v_ix c.cK (v_var (i := 1) rfl (by leaf_len) (by decide) (by decide)) v_int rfl) (l_cons (v_glob (by rfl) (glob_cls (c := 0) T.k_Row) (by decide)) l_nil rfl) rfl) rfl (by decide) (by decide)) (fun _ => rfl))))) (ss_cons (s_setF (i := 0) (T_fld_row T ⟨rfl, rfl, rfl, rfl, rfl⟩) rfl (by leaf_len) (by decide) (by decide) (v_attr c (T_attr_told_0 T ⟨rfl, rfl, rfl, rfl, rfl⟩ (by decide)) (v_ix c.cK (v_var (i := 1) rfl (by leaf_len) (by decide) (by decide)) v_int rfl) rfl) rfl) (ss_nil)) (ss_cons (s_expr (v_calls (FnA.call c ((ok_check_pieces T).mono (by decide))) (by rfl) T.g_check_pieces (l_cons (v_var (i := 1) rfl (by leaf_len) (by decide) (by decide)) l_nil rfl) rfl (by decide)) rfl) (ss_cons (s_setF (i := 0) (T_fld_row T ⟨rfl, rfl, rfl, rfl, rfl⟩) rfl (by leaf_len) (by decide) (by decide) (v_callTy (c_tuple c.cK) (by rfl) T.z_tuple (by decide +kernel) (l_cons (v_var (i := 1) rfl (by leaf_len) (by decide) (by decide)) l_nil rfl) rfl (by decide) (by decide)) rfl) (ss_nil)))) (ss_cons (s_asg (v_calls (FnA.call c ((ok_chain_of T).mono (by decide))) (by rfl) T.g_chain_of (l_cons (v_ownF (i := 0) (T_fld_row T ⟨rfl, rfl, rfl, rfl, rfl⟩) rfl (by leaf_len) (by decide) (by decide)) l_nil rfl) rfl (by decide)) (g_tup c.cK c.calm (gs_cons (g_fld (i := 0) (T_fld_chain T ⟨rfl, rfl, rfl, rfl, rfl⟩) rfl (by leaf_len) (by decide) (by decide)) (gs_cons (g_fld (i := 0) (T_fld_scale T ⟨rfl, rfl, rfl, rfl, rfl⟩) rfl (by leaf_len) (by decide) (by decide)) gs_nil rfl) rfl) rfl rfl) rfl rfl rfl) (ss_nil))⟩
def sem_PatternX_initX : List D → M D := mkStar 1 1 2 pk_PatternX_initX.1
theorem mk_Pattern (T : Facts P w K mg base ad) : ClA P w K mg base (GG K ad) 10 1 sem_PatternX_initX := by
  obtain ⟨fd, F⟩ := T.f_PatternX_initX
  exact cla_star (ps := ["self"]) (pv := "pieces") F sc_PatternX_initX rfl (pk_PatternX_initX.2 P w K mg base ad T) (fun _ _ _ _ _ _ => StX.bind_star1 (B := fun l => bindArgs _ ⟨l, []⟩) (fun _ => rfl) (fun _ _ _ => rfl)) T.m_Pattern rfl rfl (by decide) (by decide)
def pk__law_sip : Σ' ms : MS, ∀ (P : Program) (w : World) (K : PySem.W.Frag) (mg : Str → Option Value) (base : Heap) (ad : Nat → Addr), Facts P w K mg base ad → Body P w K mg base (GG K ad) 0 (ad 23) ["_law_cup_here", "_law_many", "_law_part"] "_law_sip" st__law_sip ms :=
  ⟨_, fun P w K mg base ad T cdv A fr s H E c => ss_cons (s_asg (v_bin (o_mod) (v_callTy (c_int) (by rfl) T.z_int (by decide +kernel) (l_cons (v_bin (o_add c.cK) (v_bin (o_mul c.cK) (v_ix c.cK (v_var (i := 0) rfl (by leaf_len) (by decide) (by decide)) v_int rfl) v_int) v_int) l_nil rfl) rfl (by decide) (by decide)) v_int) (g_item (W := WF E) (v_var (i := 0) rfl (by leaf_len) (by decide) (by decide)) v_int rfl) rfl rfl rfl) (ss_cons (s_if (b_cmp (o_gt) (v_ix c.cK (v_var (i := 0) rfl (by leaf_len) (by decide) (by decide)) v_int rfl) v_int rfl) (ss_cons (s_asg (v_callB (c_divmod) (by rfl) T.z_divmod (by decide +kernel) (l_cons (v_ix c.cK (v_var (i := 0) rfl (by leaf_len) (by decide) (by decide)) v_int rfl) (l_cons (v_var (i := 1) rfl (by leaf_len) (by decide) (by decide)) l_nil rfl) rfl) rfl (by decide) (by decide)) (g_tup c.cK c.calm (gs_cons (g_item (W := WF E) (v_var (i := 0) rfl (by leaf_len) (by decide) (by decide)) v_int rfl) (gs_cons (g_name (i := 2) c.nd rfl (by mem_news) (.inl rfl)) gs_nil rfl) rfl) rfl rfl) rfl rfl rfl) (ss_cons (s_ret (v_var (i := 2) rfl (by leaf_len) (by decide) (by decide))) ss_nil)) (ss_nil)) (ss_cons (s_ret (v_bin (o_mod) (v_callTy (c_int) (by rfl) T.z_int (by decide +kernel) (l_cons (v_bin (o_fdiv) (v_ix c.cK (v_var (i := 0) rfl (by leaf_len) (by decide) (by decide)) v_int rfl) v_int) l_nil rfl) rfl (by decide) (by decide)) (v_var (i := 1) rfl (by leaf_len) (by decide) (by decide)))) ss_nil))⟩
def sem__law_sip : List D → M D := runFn 2 3 pk__law_sip.1
theorem ok__law_sip (T : Facts P w K mg base ad) : FnA P w K mg base (GG K ad) 2 (ad 23) sem__law_sip := by
  obtain ⟨fd, F⟩ := T.f__law_sip
  exact fna_rule F sc__law_sip (F.binds fun _ _ _ _ _ _ us hl => match us, hl with | [_, _], _ => rfl) rfl (pk__law_sip.2 P w K mg base ad T) rfl rfl (by decide)
def pk__law_pick : Σ' ms : MS, ∀ (P : Program) (w : World) (K : PySem.W.Frag) (mg : Str → Option Value) (base : Heap) (ad : Nat → Addr), Facts P w K mg base ad → Body P w K mg base (GG K ad) 2 (ad 24) ["_law_cup_here", "_law_things"] "_law_pick" st__law_pick ms :=
  ⟨_, fun P w K mg base ad T cdv A fr s H E c => ss_cons (s_ret (v_ix c.cK (v_var (i := 1) rfl (by leaf_len) (by decide) (by decide)) (v_calls (FnA.call c ((ok__law_sip T).mono (by decide))) (by rfl) T.g__law_sip (l_cons (v_var (i := 0) rfl (by leaf_len) (by decide) (by decide)) (l_cons (v_callB (c_len c.cK) (by rfl) T.z_len (by decide +kernel) (l_cons (v_var (i := 1) rfl (by leaf_len) (by decide) (by decide)) l_nil rfl) rfl (by decide) (by decide)) l_nil rfl) rfl) rfl (by decide)) rfl)) ss_nil⟩
def sem__law_pick : List D → M D := runFn 2 2 pk__law_pick.1
theorem ok__law_pick (T : Facts P w K mg base ad) : FnA P w K mg base (GG K ad) 4 (ad 24) sem__law_pick := by
  obtain ⟨fd, F⟩ := T.f__law_pick
  exact fna_rule F sc__law_pick (F.binds fun _ _ _ _ _ _ us hl => match us, hl with | [_, _], _ => rfl) rfl (pk__law_pick.2 P w K mg base ad T) rfl rfl (by decide)
def pk__law_row : Σ' ms : MS, ∀ (P : Program) (w : World) (K : PySem.W.Frag) (mg : Str → Option Value) (base : Heap) (ad : Nat → Addr), Facts P w K mg base ad → Body P w K mg base (GG K ad) 4 (ad 25) ["_law_cup_here", "_law_most", "_law_found", "_law_turn"] "_law_row" st__law_row ms :=
  ⟨_, fun P w K mg base ad T cdv A fr s H E c => ss_cons (s_own (i := 2) c rfl (Or.inl rfl) (o_lst l_nil (by decide)) rfl (.inl rfl) (by decide)) (ss_cons (s_for c (i_rng1 (by rfl) T.z_range (l_cons (v_bin (o_add c.cK) v_int (v_calls (FnA.call c ((ok__law_sip T).mono (by decide))) (by rfl) T.g__law_sip (l_cons (v_var (i := 0) rfl (by leaf_len) (by decide) (by decide)) (l_cons (v_var (i := 1) rfl (by leaf_len) (by decide) (by decide)) l_nil rfl) rfl) rfl (by decide))) l_nil rfl) rfl) (g_name (i := 3) c.nd rfl (by mem_news) (.inl rfl)) (ss_cons (s_app (i := 2) rfl (by leaf_len) (by decide) (by decide) (v_tup (l_cons (v_calls (FnA.call c ((ok__law_pick T).mono (by decide))) (by rfl) T.g__law_pick (l_cons (v_var (i := 0) rfl (by leaf_len) (by decide) (by decide)) (l_cons (v_lst (l_cons v_str (l_cons v_str l_nil rfl) rfl) (by decide)) l_nil rfl) rfl) rfl (by decide)) (l_cons (v_bin (o_add c.cK) v_int (v_calls (FnA.call c ((ok__law_sip T).mono (by decide))) (by rfl) T.g__law_sip (l_cons (v_var (i := 0) rfl (by leaf_len) (by decide) (by decide)) (l_cons v_int l_nil rfl) rfl) rfl (by decide))) l_nil rfl) rfl) (by decide)) rfl rfl) (ss_nil)) rfl) (ss_frz (i := 2) (ss_cons (s_ret (v_var (i := 2) rfl (by leaf_len) (by decide) (by decide))) ss_nil)))⟩
def sem__law_row : List D → M D := runFn 2 4 pk__law_row.1
theorem ok__law_row (T : Facts P w K mg base ad) : FnA P w K mg base (GG K ad) 6 (ad 25) sem__law_row := by
  obtain ⟨fd, F⟩ := T.f__law_row
  exact fna_rule F sc__law_row (F.binds fun _ _ _ _ _ _ us hl => match us, hl with | [_, _], _ => rfl) rfl (pk__law_row.2 P w K mg base ad T) rfl rfl (by decide)
def pk__law_mixed : Σ' ms : MS, ∀ (P : Program) (w : World) (K : PySem.W.Frag) (mg : Str → Option Value) (base : Heap) (ad : Nat → Addr), Facts P w K mg base ad → Body P w K mg base (GG K ad) 6 (ad 26) ["_law_cup_here", "_law_most", "_law_found", "_law_mate", "_law_at"] "_law_mixed" st__law_mixed ms :=
  ⟨_, fun P w K mg base ad T cdv A fr s H E c => ss_cons (s_set (i := 2) c rfl (by mem_news) (v_calls (FnA.call c ((ok__law_row T).mono (by decide))) (by rfl) T.g__law_row (l_cons (v_var (i := 0) rfl (by leaf_len) (by decide) (by decide)) (l_cons (v_bin (o_sub) (v_var (i := 1) rfl (by leaf_len) (by decide) (by decide)) v_int) l_nil rfl) rfl) rfl (by decide)) rfl (.inl rfl)) (ss_cons (s_set (i := 3) c rfl (by mem_news) (v_ite (b_cmp (o_eq c.cK c.rm) (v_ix c.cK (v_ix c.cK (v_var (i := 2) rfl (by leaf_len) (by decide) (by decide)) v_int rfl) v_int rfl) v_str rfl) v_str v_str) rfl (.inl rfl)) (ss_cons (s_set (i := 4) c rfl (by mem_news) (v_calls (FnA.call c ((ok__law_sip T).mono (by decide))) (by rfl) T.g__law_sip (l_cons (v_var (i := 0) rfl (by leaf_len) (by decide) (by decide)) (l_cons (v_bin (o_add c.cK) (v_callB (c_len c.cK) (by rfl) T.z_len (by decide +kernel) (l_cons (v_var (i := 2) rfl (by leaf_len) (by decide) (by decide)) l_nil rfl) rfl (by decide) (by decide)) v_int) l_nil rfl) rfl) rfl (by decide)) rfl (.inl rfl)) (ss_cons (s_ret (v_bin (o_add c.cK) (v_bin (o_add c.cK) (v_slice c.cK (v_var (i := 2) rfl (by leaf_len) (by decide) (by decide)) q_none (q_some (v_var (i := 4) rfl (by leaf_len) (by decide) (by decide)))) (v_lst (l_cons (v_tup (l_cons (v_var (i := 3) rfl (by leaf_len) (by decide) (by decide)) (l_cons (v_bin (o_add c.cK) v_int (v_calls (FnA.call c ((ok__law_sip T).mono (by decide))) (by rfl) T.g__law_sip (l_cons (v_var (i := 0) rfl (by leaf_len) (by decide) (by decide)) (l_cons v_int l_nil rfl) rfl) rfl (by decide))) l_nil rfl) rfl) (by decide)) l_nil rfl) (by decide))) (v_slice c.cK (v_var (i := 2) rfl (by leaf_len) (by decide) (by decide)) (q_some (v_var (i := 4) rfl (by leaf_len) (by decide) (by decide))) q_none))) ss_nil)))⟩
def sem__law_mixed : List D → M D := runFn 2 5 pk__law_mixed.1
theorem ok__law_mixed (T : Facts P w K mg base ad) : FnA P w K mg base (GG K ad) 8 (ad 26) sem__law_mixed := by
  obtain ⟨fd, F⟩ := T.f__law_mixed
  exact fna_rule F sc__law_mixed (F.binds fun _ _ _ _ _ _ us hl => match us, hl with | [_, _], _ => rfl) rfl (pk__law_mixed.2 P w K mg base ad T) rfl rfl (by decide)
def pk_integer_in : Σ' ms : MS, ∀ (P : Program) (w : World) (K : PySem.W.Frag) (mg : Str → Option Value) (base : Heap) (ad : Nat → Addr), Facts P w K mg base ad → Body P w K mg base (GG K ad) 0 (ad 27) ["word", "digit"] "integer_in" st_integer_in ms :=
  ⟨_, fun P w K mg base ad T cdv A fr s H E c => ss_cons (s_if (b_of (w_or (b_not (b_chain (o_le) (o_le) v_int (v_callB (c_len c.cK) (by rfl) T.z_len (by decide +kernel) (l_cons (v_var (i := 0) rfl (by leaf_len) (by decide) (by decide)) l_nil rfl) rfl (by decide) (by decide)) (v_glob (by rfl) T.c_MOST_DIGITS (by decide)) rfl)) (w_or1 (b_val (v_callB (c_any c.calm) (by rfl) T.z_any (by decide +kernel) (l_cons (v_lc c (own := [("digit", 1)]) (i_str (v_var (i := 0) rfl (by leaf_len) (by decide) (by decide))) (blkOk_by (N := ["word", "digit"]) (sc := defScope st_integer_in) (by decide +kernel)) (fun s H C cl fp => blkP c fun c => (p_name (i := 1) c.nd rfl (by mem_news) (.inr rfl))) (fun s H C cl fp => blkT c fun c => t_nil) (fun s H C cl fp => blkV c fun c => (v_cmp (o_notin c.cK c.rm) (v_var (i := 1) rfl (by leaf_len) (by decide) (by decide)) (v_glob (by rfl) T.c_DIGITS (by decide)) rfl)) rfl (by decide)) l_nil rfl) rfl (by decide) (by decide)) (fun _ => rfl))))) (ss_cons (s_ret v_none) ss_nil) (ss_nil)) (ss_cons (s_ret (v_ite (b_of (w_and (b_cmp (o_eq c.cK c.rm) (v_ix c.cK (v_var (i := 0) rfl (by leaf_len) (by decide) (by decide)) v_int rfl) v_str rfl) (w_and1 (b_cmp (o_ne c.cK c.rm) (v_var (i := 0) rfl (by leaf_len) (by decide) (by decide)) v_str rfl)))) v_none (v_callTy (c_int) (by rfl) T.z_int (by decide +kernel) (l_cons (v_var (i := 0) rfl (by leaf_len) (by decide) (by decide)) l_nil rfl) rfl (by decide) (by decide)))) ss_nil)⟩
def sem_integer_in : List D → M D := runFn 1 2 pk_integer_in.1
theorem ok_integer_in (T : Facts P w K mg base ad) : FnA P w K mg base (GG K ad) 2 (ad 27) sem_integer_in := by
  obtain ⟨fd, F⟩ := T.f_integer_in
  exact fna_rule F sc_integer_in (F.binds fun _ _ _ _ _ _ us hl => match us, hl with | [_], _ => rfl) rfl (pk_integer_in.2 P w K mg base ad T) rfl rfl (by decide)
def pk_piece_in : Σ' ms : MS, ∀ (P : Program) (w : World) (K : PySem.W.Frag) (mg : Str → Option Value) (base : Heap) (ad : Nat → Addr), Facts P w K mg base ad → Body P w K mg base (GG K ad) 4 (ad 28) ["text", "words", "ohms"] "piece_in" st_piece_in ms :=
  ⟨_, fun P w K mg base ad T cdv A fr s H E c => ss_cons (s_set (i := 1) c rfl (by mem_news) (v_split (v_var (i := 0) rfl (by leaf_len) (by decide) (by decide)) v_str rfl rfl rfl) rfl (.inl rfl)) (ss_cons (s_if (b_of (w_or (b_cmp (o_ne c.cK c.rm) (v_callB (c_len c.cK) (by rfl) T.z_len (by decide +kernel) (l_cons (v_var (i := 1) rfl (by leaf_len) (by decide) (by decide)) l_nil rfl) rfl (by decide) (by decide)) v_int rfl) (w_or1 (b_cmp (o_notin c.cK c.rm) (v_ix c.cK (v_var (i := 1) rfl (by leaf_len) (by decide) (by decide)) v_int rfl) (v_glob (by rfl) T.c_WORDS (by decide)) rfl)))) (ss_cons (s_ret v_none) ss_nil) (ss_nil)) (ss_cons (s_set (i := 2) c rfl (by mem_news) (v_calls (FnA.call c ((ok_integer_in T).mono (by decide))) (by rfl) T.g_integer_in (l_cons (v_ix c.cK (v_var (i := 1) rfl (by leaf_len) (by decide) (by decide)) v_int rfl) l_nil rfl) rfl (by decide)) rfl (.inl rfl)) (ss_cons (s_ret (v_ite (b_val (v_calls (FnA.call c ((ok_is_between T).mono (by decide))) (by rfl) T.g_is_between (l_cons (v_var (i := 2) rfl (by leaf_len) (by decide) (by decide)) (l_cons v_int (l_cons (v_glob (by rfl) T.c_MOST_OHMS (by decide)) l_nil rfl) rfl) rfl) rfl (by decide)) (fun _ => rfl)) (v_tup (l_cons (v_ix c.cK (v_var (i := 1) rfl (by leaf_len) (by decide) (by decide)) v_int rfl) (l_cons (v_var (i := 2) rfl (by leaf_len) (by decide) (by decide)) l_nil rfl) rfl) (by decide)) v_none)) ss_nil)))⟩
def sem_piece_in : List D → M D := runFn 1 3 pk_piece_in.1
theorem ok_piece_in (T : Facts P w K mg base ad) : FnA P w K mg base (GG K ad) 6 (ad 28) sem_piece_in := by
  obtain ⟨fd, F⟩ := T.f_piece_in
  exact fna_rule F sc_piece_in (F.binds fun _ _ _ _ _ _ us hl => match us, hl with | [_], _ => rfl) rfl (pk_piece_in.2 P w K mg base ad T) rfl rfl (by decide)
def pk_RowX_initX : Σ' ms : MS, ∀ (P : Program) (w : World) (K : PySem.W.Frag) (mg : Str → Option Value) (base : Heap) (ad : Nat → Addr), Facts P w K mg base ad → Body P w K mg base (GG K ad) 0 (ad 29) ["self", "told"] "Row.__init__" st_RowX_initX ms :=
  ⟨_, fun P w K mg base ad T cdv A fr s H E c => ss_cons (s_setF (i := 0) (T_fld_told T ⟨rfl, rfl, rfl, rfl, rfl⟩) rfl (by leaf_len) (by decide) (by decide) (v_var (i := 1) rfl (by leaf_len) (by decide) (by decide)) rfl) (ss_nil)⟩
def sem_RowX_initX : List D → M D := mkFn 0 2 2 pk_RowX_initX.1
theorem mk_Row (T : Facts P w K mg base ad) : ClA P w K mg base (GG K ad) 2 0 sem_RowX_initX := by
  obtain ⟨fd, F⟩ := T.f_RowX_initX
  exact cla_rule F sc_RowX_initX (F.binds fun _ _ _ _ _ _ us hl => match us, hl with | [_, _], _ => rfl) rfl (pk_RowX_initX.2 P w K mg base ad T) T.m_Row rfl rfl (by decide)
def pk_pattern_in : Σ' ms : MS, ∀ (P : Program) (w : World) (K : PySem.W.Frag) (mg : Str → Option Value) (base : Heap) (ad : Nat → Addr), Facts P w K mg base ad → Body P w K mg base (GG K ad) 10 (ad 30) ["text", "pieces", "part"] "pattern_in" st_pattern_in ms :=
  ⟨_, fun P w K mg base ad T cdv A fr s H E c => ss_cons (s_lc (i := 1) c rfl rfl rfl (own := [("part", 2)]) (i_seq c (v_split (v_var (i := 0) rfl (by leaf_len) (by decide) (by decide)) v_str rfl rfl rfl)) (blkOk_by (N := ["text", "pieces", "part"]) (sc := defScope st_pattern_in) (by decide +kernel)) (fun s H C cl fp => blkP c fun c => (p_name (i := 2) c.nd rfl (by mem_news) (.inr rfl))) (fun s H C cl fp => blkT c fun c => t_nil) (fun s H C cl fp => blkV c fun c => (v_calls (FnA.call c ((ok_piece_in T).mono (by decide))) (by rfl) T.g_piece_in (l_cons (v_var (i := 2) rfl (by leaf_len) (by decide) (by decide)) l_nil rfl) rfl (by decide))) rfl (by decide)) (ss_cons (s_if (b_of (w_or (b_cmp (o_in c.cK c.rm) v_none (v_var (i := 1) rfl (by leaf_len) (by decide) (by decide)) rfl) (w_or1 (b_cmp (o_gt) (v_callB (c_len c.cK) (by rfl) T.z_len (by decide +kernel) (l_cons (v_var (i := 1) rfl (by leaf_len) (by decide) (by decide)) l_nil rfl) rfl (by decide) (by decide)) (v_glob (by rfl) T.c_MOST_JOINED (by decide)) rfl)))) (ss_cons (s_ret v_none) ss_nil) (ss_nil)) (ss_cons (s_ret (v_calls (ClA.call c ((mk_Pattern T).mono (by decide))) (by rfl) T.k_Pattern (l_cons (v_calls (ClA.call c ((mk_Row T).mono (by decide))) (by rfl) T.k_Row (l_cons (v_callTy (c_tuple c.cK) (by rfl) T.z_tuple (by decide +kernel) (l_cons (v_var (i := 1) rfl (by leaf_len) (by decide) (by decide)) l_nil rfl) rfl (by decide) (by decide)) l_nil rfl) rfl (by decide)) l_nil rfl) rfl (by decide))) ss_nil))⟩
def sem_pattern_in : List D → M D := runFn 1 3 pk_pattern_in.1
theorem ok_pattern_in (T : Facts P w K mg base ad) : FnA P w K mg base (GG K ad) 12 (ad 30) sem_pattern_in := by
  obtain ⟨fd, F⟩ := T.f_pattern_in
  exact fna_rule F sc_pattern_in (F.binds fun _ _ _ _ _ _ us hl => match us, hl with | [_], _ => rfl) rfl (pk_pattern_in.2 P w K mg base ad T) rfl rfl (by decide)
def pk_Pattern_read : Σ' ms : MS, ∀ (P : Program) (w : World) (K : PySem.W.Frag) (mg : Str → Option Value) (base : Heap) (ad : Nat → Addr), Facts P w K mg base ad → Body P w K mg base (GG K ad) 12 (ad 31) ["text", "found"] "Pattern.read" st_Pattern_read ms :=
  ⟨_, fun P w K mg base ad T cdv A fr s H E c => ss_cons (s_set (i := 1) c rfl (by mem_news) (v_ite (b_val (v_callB (c_isa c.cK (T.isa _ rfl)) (by rfl) T.z_isinstance (by decide +kernel) (l_cons (v_var (i := 0) rfl (by leaf_len) (by decide) (by decide)) (l_cons (v_ty (t := .str) (by rfl) T.z_str (by decide +kernel) (by decide) (by decide)) l_nil rfl) rfl) rfl (by decide) (by decide)) (fun _ => rfl)) (v_calls (FnA.call c ((ok_pattern_in T).mono (by decide))) (by rfl) T.g_pattern_in (l_cons (v_var (i := 0) rfl (by leaf_len) (by decide) (by decide)) l_nil rfl) rfl (by decide)) v_none) rfl (.inl rfl)) (ss_cons (s_if (b_cmp (o_is) (v_var (i := 1) rfl (by leaf_len) (by decide) (by decide)) v_none rfl) (ss_never) (ss_nil)) (ss_cons (s_ret (v_var (i := 1) rfl (by leaf_len) (by decide) (by decide))) ss_nil))⟩
def sem_Pattern_read : List D → M D := runFn 1 2 pk_Pattern_read.1
theorem ok_Pattern_read (T : Facts P w K mg base ad) : FnA P w K mg base (GG K ad) 14 (ad 31) sem_Pattern_read := by
  obtain ⟨fd, F⟩ := T.f_Pattern_read
  exact fna_rule F sc_Pattern_read (F.binds fun _ _ _ _ _ _ us hl => match us, hl with | [_], _ => rfl) rfl (pk_Pattern_read.2 P w K mg base ad T) rfl rfl (by decide)
def pk__law_words : Σ' ms : MS, ∀ (P : Program) (w : World) (K : PySem.W.Frag) (mg : Str → Option Value) (base : Heap) (ad : Nat → Addr), Facts P w K mg base ad → Body P w K mg base (GG K ad) 0 (ad 32) ["_law_row_here", "_law_word", "_law_ohms"] "_law_words" st__law_words ms :=
  ⟨_, fun P w K mg base ad T cdv A fr s H E c => ss_cons (s_ret (v_join c.cK v_str (v_lc c (own := [("_law_word", 1), ("_law_ohms", 2)]) (i_seq c (v_var (i := 0) rfl (by leaf_len) (by decide) (by decide))) (blkOk_by (N := ["_law_row_here", "_law_word", "_law_ohms"]) (sc := defScope st__law_words) (by decide +kernel)) (fun s H C cl fp => blkP c fun c => (p_tup c.cK c.calm (ps_consP (p_name (i := 1) c.nd rfl (by mem_news) (.inr rfl)) (ps_consP (p_name (i := 2) c.nd rfl (by mem_news) (.inr rfl)) ps_nilP rfl) rfl) rfl rfl)) (fun s H C cl fp => blkT c fun c => t_nil) (fun s H C cl fp => blkV c fun c => (v_bin (o_add c.cK) (v_bin (o_add c.cK) (v_var (i := 1) rfl (by leaf_len) (by decide) (by decide)) v_str) (v_callTy (c_str) (by rfl) T.z_str (by decide +kernel) (l_cons (v_var (i := 2) rfl (by leaf_len) (by decide) (by decide)) l_nil rfl) rfl (by decide) (by decide)))) rfl (by decide)) rfl rfl rfl)) ss_nil⟩
def sem__law_words : List D → M D := runFn 1 3 pk__law_words.1
theorem ok__law_words (T : Facts P w K mg base ad) : FnA P w K mg base (GG K ad) 2 (ad 32) sem__law_words := by
  obtain ⟨fd, F⟩ := T.f__law_words
  exact fna_rule F sc__law_words (F.binds fun _ _ _ _ _ _ us hl => match us, hl with | [_], _ => rfl) rfl (pk__law_words.2 P w K mg base ad T) rfl rfl (by decide)
def pk__law_read : Σ' ms : MS, ∀ (P : Program) (w : World) (K : PySem.W.Frag) (mg : Str → Option Value) (base : Heap) (ad : Nat → Addr), Facts P w K mg base ad → Body P w K mg base (GG K ad) 14 (ad 33) ["_law_row_here"] "_law_read" st__law_read ms :=
  ⟨_, fun P w K mg base ad T cdv A fr s H E c => ss_cons (s_ret (v_stat ⟨T.s_Pattern_read⟩ (FnA.call c ((ok_Pattern_read T).mono (by decide))) (by rfl) T.k_Pattern (l_cons (v_calls (FnA.call c ((ok__law_words T).mono (by decide))) (by rfl) T.g__law_words (l_cons (v_var (i := 0) rfl (by leaf_len) (by decide) (by decide)) l_nil rfl) rfl (by decide)) l_nil rfl) rfl (by decide) (by decide) rfl)) ss_nil⟩
def sem__law_read : List D → M D := runFn 1 1 pk__law_read.1
theorem ok__law_read (T : Facts P w K mg base ad) : FnA P w K mg base (GG K ad) 16 (ad 33) sem__law_read := by
  obtain ⟨fd, F⟩ := T.f__law_read
  exact fna_rule F sc__law_read (F.binds fun _ _ _ _ _ _ us hl => match us, hl with | [_], _ => rfl) rfl (pk__law_read.2 P w K mg base ad T) rfl rfl (by decide)
def pk__law_four : Σ' ms : MS, ∀ (P : Program) (w : World) (K : PySem.W.Frag) (mg : Str → Option Value) (base : Heap) (ad : Nat → Addr), Facts P w K mg base ad → Body P w K mg base (GG K ad) 0 (ad 34) ["_law_row_here", "_law_a", "_law_b", "_law_c", "_law_d", "_law_by", "_law_word", "_law_ohms"] "_law_four" st__law_four ms :=
  ⟨_, fun P w K mg base ad T cdv A fr s H E c => ss_cons (s_asg (v_tup (l_cons v_int (l_cons v_int (l_cons v_int (l_cons v_int (l_cons v_int l_nil rfl) rfl) rfl) rfl) rfl) (by decide)) (g_tup c.cK c.calm (gs_cons (g_name (i := 1) c.nd rfl (by mem_news) (.inl rfl)) (gs_cons (g_name (i := 2) c.nd rfl (by mem_news) (.inl rfl)) (gs_cons (g_name (i := 3) c.nd rfl (by mem_news) (.inl rfl)) (gs_cons (g_name (i := 4) c.nd rfl (by mem_news) (.inl rfl)) (gs_cons (g_name (i := 5) c.nd rfl (by mem_news) (.inl rfl)) gs_nil rfl) rfl) rfl) rfl) rfl) rfl rfl) rfl rfl rfl) (ss_cons (s_for c (i_seq c (v_var (i := 0) rfl (by leaf_len) (by decide) (by decide))) (g_tup c.cK c.calm (gs_cons (g_name (i := 6) c.nd rfl (by mem_news) (.inl rfl)) (gs_cons (g_name (i := 7) c.nd rfl (by mem_news) (.inl rfl)) gs_nil rfl) rfl) rfl rfl) (ss_cons (s_if (b_cmp (o_eq c.cK c.rm) (v_var (i := 6) rfl (by leaf_len) (by decide) (by decide)) v_str rfl) (ss_cons (s_par (i := 2) (j := 4) c rfl rfl (by decide) rfl rfl (l_cons (v_bin (o_add c.cK) (v_bin (o_mul c.cK) (v_var (i := 1) rfl (by leaf_len) (by decide) (by decide)) (v_var (i := 7) rfl (by leaf_len) (by decide) (by decide))) (v_var (i := 2) rfl (by leaf_len) (by decide) (by decide))) (l_cons (v_bin (o_add c.cK) (v_bin (o_mul c.cK) (v_var (i := 3) rfl (by leaf_len) (by decide) (by decide)) (v_var (i := 7) rfl (by leaf_len) (by decide) (by decide))) (v_var (i := 4) rfl (by leaf_len) (by decide) (by decide))) l_nil rfl) rfl) rfl) (ss_nil)) (ss_cons (s_par (i := 1) (j := 2) c rfl rfl (by decide) rfl rfl (l_cons (v_bin (o_add c.cK) (v_bin (o_mul c.cK) (v_var (i := 1) rfl (by leaf_len) (by decide) (by decide)) (v_var (i := 7) rfl (by leaf_len) (by decide) (by decide))) (v_var (i := 2) rfl (by leaf_len) (by decide) (by decide))) (l_cons (v_bin (o_mul c.cK) (v_var (i := 2) rfl (by leaf_len) (by decide) (by decide)) (v_var (i := 7) rfl (by leaf_len) (by decide) (by decide))) l_nil rfl) rfl) rfl) (ss_cons (s_par (i := 3) (j := 4) c rfl rfl (by decide) rfl rfl (l_cons (v_bin (o_add c.cK) (v_bin (o_mul c.cK) (v_var (i := 3) rfl (by leaf_len) (by decide) (by decide)) (v_var (i := 7) rfl (by leaf_len) (by decide) (by decide))) (v_var (i := 4) rfl (by leaf_len) (by decide) (by decide))) (l_cons (v_bin (o_mul c.cK) (v_var (i := 4) rfl (by leaf_len) (by decide) (by decide)) (v_var (i := 7) rfl (by leaf_len) (by decide) (by decide))) l_nil rfl) rfl) rfl) (ss_cons (s_set (i := 5) c rfl (by mem_news) (v_bin (o_mul c.cK) (v_var (i := 5) rfl (by leaf_len) (by decide) (by decide)) (v_var (i := 7) rfl (by leaf_len) (by decide) (by decide))) rfl (.inl rfl)) (ss_nil))))) (ss_nil)) rfl) (ss_cons (s_ret (v_tup (l_cons (v_var (i := 1) rfl (by leaf_len) (by decide) (by decide)) (l_cons (v_var (i := 2) rfl (by leaf_len) (by decide) (by decide)) (l_cons (v_var (i := 3) rfl (by leaf_len) (by decide) (by decide)) (l_cons (v_var (i := 4) rfl (by leaf_len) (by decide) (by decide)) (l_cons (v_var (i := 5) rfl (by leaf_len) (by decide) (by decide)) l_nil rfl) rfl) rfl) rfl) rfl) (by decide))) ss_nil))⟩
def sem__law_four : List D → M D := runFn 1 8 pk__law_four.1
theorem ok__law_four (T : Facts P w K mg base ad) : FnA P w K mg base (GG K ad) 2 (ad 34) sem__law_four := by
  obtain ⟨fd, F⟩ := T.f__law_four
  exact fna_rule F sc__law_four (F.binds fun _ _ _ _ _ _ us hl => match us, hl with | [_], _ => rfl) rfl (pk__law_four.2 P w K mg base ad T) rfl rfl (by decide)
def pk__law_pair : Σ' ms : MS, ∀ (P : Program) (w : World) (K : PySem.W.Frag) (mg : Str → Option Value) (base : Heap) (ad : Nat → Addr), Facts P w K mg base ad → Body P w K mg base (GG K ad) 0 (ad 35) ["_law_top", "_law_bottom", "_law_one", "_law_two"] "_law_pair" st__law_pair ms :=
  ⟨_, fun P w K mg base ad T cdv A fr s H E c => ss_cons (s_par (i := 2) (j := 3) c rfl rfl (by decide) rfl rfl (l_cons (v_var (i := 0) rfl (by leaf_len) (by decide) (by decide)) (l_cons (v_var (i := 1) rfl (by leaf_len) (by decide) (by decide)) l_nil rfl) rfl) rfl) (ss_cons (s_while c (b_cmp (o_gt) (v_var (i := 3) rfl (by leaf_len) (by decide) (by decide)) v_int rfl) (ss_cons (s_par (i := 2) (j := 3) c rfl rfl (by decide) rfl rfl (l_cons (v_var (i := 3) rfl (by leaf_len) (by decide) (by decide)) (l_cons (v_bin (o_mod) (v_callTy (c_int) (by rfl) T.z_int (by decide +kernel) (l_cons (v_var (i := 2) rfl (by leaf_len) (by decide) (by decide)) l_nil rfl) rfl (by decide) (by decide)) (v_var (i := 3) rfl (by leaf_len) (by decide) (by decide))) l_nil rfl) rfl) rfl) (ss_nil))) (ss_cons (s_ret (v_tup (l_cons (v_bin (o_fdiv) (v_var (i := 0) rfl (by leaf_len) (by decide) (by decide)) (v_var (i := 2) rfl (by leaf_len) (by decide) (by decide))) (l_cons (v_bin (o_fdiv) (v_var (i := 1) rfl (by leaf_len) (by decide) (by decide)) (v_var (i := 2) rfl (by leaf_len) (by decide) (by decide))) l_nil rfl) rfl) (by decide))) ss_nil))⟩
def sem__law_pair : List D → M D := runFn 2 4 pk__law_pair.1
theorem ok__law_pair (T : Facts P w K mg base ad) : FnA P w K mg base (GG K ad) 2 (ad 35) sem__law_pair := by
  obtain ⟨fd, F⟩ := T.f__law_pair
  exact fna_rule F sc__law_pair (F.binds fun _ _ _ _ _ _ us hl => match us, hl with | [_, _], _ => rfl) rfl (pk__law_pair.2 P w K mg base ad T) rfl rfl (by decide)
def pk__law_trace : Σ' ms : MS, ∀ (P : Program) (w : World) (K : PySem.W.Frag) (mg : Str → Option Value) (base : Heap) (ad : Nat → Addr), Facts P w K mg base ad → Body P w K mg base (GG K ad) 2 (ad 36) ["_law_row_here", "_law_a", "_law_b", "_law_c", "_law_d", "_law_by"] "_law_trace" st__law_trace ms :=
  ⟨_, fun P w K mg base ad T cdv A fr s H E c => ss_cons (s_asg (v_calls (FnA.call c ((ok__law_four T).mono (by decide))) (by rfl) T.g__law_four (l_cons (v_var (i := 0) rfl (by leaf_len) (by decide) (by decide)) l_nil rfl) rfl (by decide)) (g_tup c.cK c.calm (gs_cons (g_name (i := 1) c.nd rfl (by mem_news) (.inl rfl)) (gs_cons (g_name (i := 2) c.nd rfl (by mem_news) (.inl rfl)) (gs_cons (g_name (i := 3) c.nd rfl (by mem_news) (.inl rfl)) (gs_cons (g_name (i := 4) c.nd rfl (by mem_news) (.inl rfl)) (gs_cons (g_name (i := 5) c.nd rfl (by mem_news) (.inl rfl)) gs_nil rfl) rfl) rfl) rfl) rfl) rfl rfl) rfl rfl rfl) (ss_cons (s_ret (v_calls (FnA.call c ((ok__law_pair T).mono (by decide))) (by rfl) T.g__law_pair (l_cons (v_bin (o_add c.cK) (v_var (i := 1) rfl (by leaf_len) (by decide) (by decide)) (v_var (i := 4) rfl (by leaf_len) (by decide) (by decide))) (l_cons (v_var (i := 5) rfl (by leaf_len) (by decide) (by decide)) l_nil rfl) rfl) rfl (by decide))) ss_nil)⟩
def sem__law_trace : List D → M D := runFn 1 6 pk__law_trace.1
theorem ok__law_trace (T : Facts P w K mg base ad) : FnA P w K mg base (GG K ad) 4 (ad 36) sem__law_trace := by
  obtain ⟨fd, F⟩ := T.f__law_trace
  exact fna_rule F sc__law_trace (F.binds fun _ _ _ _ _ _ us hl => match us, hl with | [_], _ => rfl) rfl (pk__law_trace.2 P w K mg base ad T) rfl rfl (by decide)
def pk__law_root_bottom : Σ' ms : MS, ∀ (P : Program) (w : World) (K : PySem.W.Frag) (mg : Str → Option Value) (base : Heap) (ad : Nat → Addr), Facts P w K mg base ad → Body P w K mg base (GG K ad) 0 (ad 37) ["_law_bottom", "_law_many", "_law_part", "_law_worth", "_law_turn"] "_law_root_bottom" st__law_root_bottom ms :=
  ⟨_, fun P w K mg base ad T cdv A fr s H E c => ss_cons (s_for c (i_rng2 (by rfl) T.z_range (l_cons v_int (l_cons v_int l_nil rfl) rfl) rfl rfl) (g_name (i := 2) c.nd rfl (by mem_news) (.inl rfl)) (ss_cons (s_set (i := 3) c rfl (by mem_news) v_int rfl (.inl rfl)) (ss_cons (s_for c (i_rng1 (by rfl) T.z_range (l_cons (v_var (i := 1) rfl (by leaf_len) (by decide) (by decide)) l_nil rfl) rfl) (g_name (i := 4) c.nd rfl (by mem_news) (.inl rfl)) (ss_cons (s_set (i := 3) c rfl (by mem_news) (v_bin (o_mul c.cK) (v_var (i := 3) rfl (by leaf_len) (by decide) (by decide)) (v_var (i := 2) rfl (by leaf_len) (by decide) (by decide))) rfl (.inl rfl)) (ss_nil)) rfl) (ss_cons (s_if (b_cmp (o_eq c.cK c.rm) (v_var (i := 3) rfl (by leaf_len) (by decide) (by decide)) (v_var (i := 0) rfl (by leaf_len) (by decide) (by decide)) rfl) (ss_cons (s_ret (v_var (i := 2) rfl (by leaf_len) (by decide) (by decide))) ss_nil) (ss_nil)) (ss_cons (s_if (b_cmp (o_gt) (v_var (i := 3) rfl (by leaf_len) (by decide) (by decide)) (v_var (i := 0) rfl (by leaf_len) (by decide) (by decide)) rfl) (ss_cons (s_ret v_none) ss_nil) (ss_nil)) (ss_nil))))) rfl) (ss_cons (s_ret v_none) ss_nil)⟩
def sem__law_root_bottom : List D → M D := runFn 2 5 pk__law_root_bottom.1
theorem ok__law_root_bottom (T : Facts P w K mg base ad) : FnA P w K mg base (GG K ad) 2 (ad 37) sem__law_root_bottom := by
  obtain ⟨fd, F⟩ := T.f__law_root_bottom
  exact fna_rule F sc__law_root_bottom (F.binds fun _ _ _ _ _ _ us hl => match us, hl with | [_, _], _ => rfl) rfl (pk__law_root_bottom.2 P w K mg base ad T) rfl rfl (by decide)
def pk__law_powers : Σ' ms : MS, ∀ (P : Program) (w : World) (K : PySem.W.Frag) (mg : Str → Option Value) (base : Heap) (ad : Nat → Addr), Facts P w K mg base ad → Body P w K mg base (GG K ad) 2 (ad 38) ["_law_top", "_law_bottom", "_law_many", "_law_here", "_law_ahead", "_law_turn", "_law_under", "_law_x", "_law_found"] "_law_powers" st__law_powers ms :=
  ⟨_, fun P w K mg base ad T cdv A fr s H E c => ss_cons (s_par (i := 3) (j := 4) c rfl rfl (by decide) rfl rfl (l_cons (v_lst (l_cons v_int (l_cons v_int l_nil rfl) rfl) (by decide)) (l_cons (v_lst (l_cons v_int (l_cons v_int l_nil rfl) rfl) (by decide)) l_nil rfl) rfl) rfl) (ss_cons (s_for c (i_rng1 (by rfl) T.z_range (l_cons (v_bin (o_sub) (v_var (i := 2) rfl (by leaf_len) (by decide) (by decide)) v_int) l_nil rfl) rfl) (g_name (i := 5) c.nd rfl (by mem_news) (.inl rfl)) (ss_cons (s_set (i := 6) c rfl (by mem_news) (v_bin (o_mul c.cK) (v_var (i := 1) rfl (by leaf_len) (by decide) (by decide)) (v_ix c.cK (v_var (i := 3) rfl (by leaf_len) (by decide) (by decide)) v_int rfl)) rfl (.inl rfl)) (ss_cons (s_set (i := 7) c rfl (by mem_news) (v_bin (o_sub) (v_bin (o_mul c.cK) (v_bin (o_mul c.cK) (v_var (i := 0) rfl (by leaf_len) (by decide) (by decide)) (v_ix c.cK (v_var (i := 3) rfl (by leaf_len) (by decide) (by decide)) v_int rfl)) (v_ix c.cK (v_var (i := 4) rfl (by leaf_len) (by decide) (by decide)) v_int rfl)) (v_bin (o_mul c.cK) (v_ix c.cK (v_var (i := 4) rfl (by leaf_len) (by decide) (by decide)) v_int rfl) (v_var (i := 6) rfl (by leaf_len) (by decide) (by decide)))) rfl (.inl rfl)) (ss_cons (s_set (i := 8) c rfl (by mem_news) (v_calls (FnA.call c ((ok__law_pair T).mono (by decide))) (by rfl) T.g__law_pair (l_cons (v_callB (c_abs) (by rfl) T.z_abs (by decide +kernel) (l_cons (v_var (i := 7) rfl (by leaf_len) (by decide) (by decide)) l_nil rfl) rfl (by decide) (by decide)) (l_cons (v_bin (o_mul c.cK) (v_var (i := 6) rfl (by leaf_len) (by decide) (by decide)) (v_ix c.cK (v_var (i := 4) rfl (by leaf_len) (by decide) (by decide)) v_int rfl)) l_nil rfl) rfl) rfl (by decide)) rfl (.inl rfl)) (ss_cons (s_par (i := 3) (j := 4) c rfl rfl (by decide) rfl rfl (l_cons (v_lst (l_cons (v_ite (b_cmp (o_ge) (v_var (i := 7) rfl (by leaf_len) (by decide) (by decide)) v_int rfl) (v_ix c.cK (v_var (i := 8) rfl (by leaf_len) (by decide) (by decide)) v_int rfl) (v_neg (v_ix c.cK (v_var (i := 8) rfl (by leaf_len) (by decide) (by decide)) v_int rfl))) (l_cons (v_ix c.cK (v_var (i := 8) rfl (by leaf_len) (by decide) (by decide)) v_int rfl) l_nil rfl) rfl) (by decide)) (l_cons (v_var (i := 3) rfl (by leaf_len) (by decide) (by decide)) l_nil rfl) rfl) rfl) (ss_nil))))) rfl) (ss_cons (s_ret (v_tup (l_cons (v_var (i := 3) rfl (by leaf_len) (by decide) (by decide)) (l_cons (v_var (i := 4) rfl (by leaf_len) (by decide) (by decide)) l_nil rfl) rfl) (by decide))) ss_nil))⟩
def sem__law_powers : List D → M D := runFn 3 9 pk__law_powers.1
theorem ok__law_powers (T : Facts P w K mg base ad) : FnA P w K mg base (GG K ad) 4 (ad 38) sem__law_powers := by
  obtain ⟨fd, F⟩ := T.f__law_powers
  exact fna_rule F sc__law_powers (F.binds fun _ _ _ _ _ _ us hl => match us, hl with | [_, _, _], _ => rfl) rfl (pk__law_powers.2 P w K mg base ad T) rfl rfl (by decide)
def pk__law_power_trace : Σ' ms : MS, ∀ (P : Program) (w : World) (K : PySem.W.Frag) (mg : Str → Option Value) (base : Heap) (ad : Nat → Addr), Facts P w K mg base ad → Body P w K mg base (GG K ad) 4 (ad 39) ["_law_top", "_law_bottom", "_law_many", "_law_here", "_law_ahead", "_law_under", "_law_over"] "_law_power_trace" st__law_power_trace ms :=
  ⟨_, fun P w K mg base ad T cdv A fr s H E c => ss_cons (s_asg (v_calls (FnA.call c ((ok__law_powers T).mono (by decide))) (by rfl) T.g__law_powers (l_cons (v_var (i := 0) rfl (by leaf_len) (by decide) (by decide)) (l_cons (v_var (i := 1) rfl (by leaf_len) (by decide) (by decide)) (l_cons (v_var (i := 2) rfl (by leaf_len) (by decide) (by decide)) l_nil rfl) rfl) rfl) rfl (by decide)) (g_tup c.cK c.calm (gs_cons (g_name (i := 3) c.nd rfl (by mem_news) (.inl rfl)) (gs_cons (g_name (i := 4) c.nd rfl (by mem_news) (.inl rfl)) gs_nil rfl) rfl) rfl rfl) rfl rfl rfl) (ss_cons (s_set (i := 5) c rfl (by mem_news) (v_bin (o_mul c.cK) (v_var (i := 1) rfl (by leaf_len) (by decide) (by decide)) (v_ix c.cK (v_var (i := 3) rfl (by leaf_len) (by decide) (by decide)) v_int rfl)) rfl (.inl rfl)) (ss_cons (s_set (i := 6) c rfl (by mem_news) (v_bin (o_sub) (v_bin (o_mul c.cK) (v_bin (o_mul c.cK) (v_var (i := 0) rfl (by leaf_len) (by decide) (by decide)) (v_ix c.cK (v_var (i := 3) rfl (by leaf_len) (by decide) (by decide)) v_int rfl)) (v_ix c.cK (v_var (i := 4) rfl (by leaf_len) (by decide) (by decide)) v_int rfl)) (v_bin (o_mul c.cK) (v_bin (o_mul c.cK) v_int (v_ix c.cK (v_var (i := 4) rfl (by leaf_len) (by decide) (by decide)) v_int rfl)) (v_var (i := 5) rfl (by leaf_len) (by decide) (by decide)))) rfl (.inl rfl)) (ss_cons (s_ret (v_calls (FnA.call c ((ok__law_pair T).mono (by decide))) (by rfl) T.g__law_pair (l_cons (v_var (i := 6) rfl (by leaf_len) (by decide) (by decide)) (l_cons (v_bin (o_mul c.cK) (v_var (i := 5) rfl (by leaf_len) (by decide) (by decide)) (v_ix c.cK (v_var (i := 4) rfl (by leaf_len) (by decide) (by decide)) v_int rfl)) l_nil rfl) rfl) rfl (by decide))) ss_nil)))⟩
def sem__law_power_trace : List D → M D := runFn 3 7 pk__law_power_trace.1
theorem ok__law_power_trace (T : Facts P w K mg base ad) : FnA P w K mg base (GG K ad) 6 (ad 39) sem__law_power_trace := by
  obtain ⟨fd, F⟩ := T.f__law_power_trace
  exact fna_rule F sc__law_power_trace (F.binds fun _ _ _ _ _ _ us hl => match us, hl with | [_, _, _], _ => rfl) rfl (pk__law_power_trace.2 P w K mg base ad T) rfl rfl (by decide)
def pk__law_is_power : Σ' ms : MS, ∀ (P : Program) (w : World) (K : PySem.W.Frag) (mg : Str → Option Value) (base : Heap) (ad : Nat → Addr), Facts P w K mg base ad → Body P w K mg base (GG K ad) 6 (ad 40) ["_law_row_here", "_law_many", "_law_goal", "_law_part", "_law_least", "_law_over", "_law_middle", "_law_told", "_law_here", "_law_ahead", "_law_a", "_law_b", "_law_c", "_law_d", "_law_by", "_law_need", "_law_spare"] "_law_is_power" st__law_is_power ms :=
  ⟨_, fun P w K mg base ad T cdv A fr s H E c => ss_cons (s_set (i := 2) c rfl (by mem_news) (v_calls (FnA.call c ((ok__law_trace T).mono (by decide))) (by rfl) T.g__law_trace (l_cons (v_var (i := 0) rfl (by leaf_len) (by decide) (by decide)) l_nil rfl) rfl (by decide)) rfl (.inl rfl)) (ss_cons (s_set (i := 3) c rfl (by mem_news) (v_calls (FnA.call c ((ok__law_root_bottom T).mono (by decide))) (by rfl) T.g__law_root_bottom (l_cons (v_ix c.cK (v_var (i := 2) rfl (by leaf_len) (by decide) (by decide)) v_int rfl) (l_cons (v_var (i := 1) rfl (by leaf_len) (by decide) (by decide)) l_nil rfl) rfl) rfl (by decide)) rfl (.inl rfl)) (ss_cons (s_if (b_cmp (o_is) (v_var (i := 3) rfl (by leaf_len) (by decide) (by decide)) v_none rfl) (ss_cons (s_ret v_bool) ss_nil) (ss_nil)) (ss_cons (s_if (b_of (w_and (b_cmp (o_eq c.cK c.rm) (v_var (i := 3) rfl (by leaf_len) (by decide) (by decide)) v_int rfl) (w_and1 (b_cmp (o_gt) (v_ix c.cK (v_calls (FnA.call c ((ok__law_power_trace T).mono (by decide))) (by rfl) T.g__law_power_trace (l_cons v_int (l_cons v_int (l_cons (v_var (i := 1) rfl (by leaf_len) (by decide) (by decide)) l_nil rfl) rfl) rfl) rfl (by decide)) v_int rfl) (v_ix c.cK (v_var (i := 2) rfl (by leaf_len) (by decide) (by decide)) v_int rfl) rfl)))) (ss_cons (s_ret v_bool) ss_nil) (ss_nil)) (ss_cons (s_par (i := 4) (j := 5) c rfl rfl (by decide) rfl rfl (l_cons (v_bin (o_mul c.cK) v_int (v_var (i := 3) rfl (by leaf_len) (by decide) (by decide))) (l_cons (v_bin (o_add c.cK) (v_ix c.cK (v_var (i := 2) rfl (by leaf_len) (by decide) (by decide)) v_int rfl) v_int) l_nil rfl) rfl) rfl) (ss_cons (s_while c (b_cmp (o_gt) (v_bin (o_sub) (v_var (i := 5) rfl (by leaf_len) (by decide) (by decide)) (v_var (i := 4) rfl (by leaf_len) (by decide) (by decide))) v_int rfl) (ss_cons (s_set (i := 6) c rfl (by mem_news) (v_bin (o_fdiv) (v_bin (o_add c.cK) (v_var (i := 4) rfl (by leaf_len) (by decide) (by decide)) (v_var (i := 5) rfl (by leaf_len) (by decide) (by decide))) v_int) rfl (.inl rfl)) (ss_cons (s_set (i := 7) c rfl (by mem_news) (v_calls (FnA.call c ((ok__law_power_trace T).mono (by decide))) (by rfl) T.g__law_power_trace (l_cons (v_var (i := 6) rfl (by leaf_len) (by decide) (by decide)) (l_cons (v_var (i := 3) rfl (by leaf_len) (by decide) (by decide)) (l_cons (v_var (i := 1) rfl (by leaf_len) (by decide) (by decide)) l_nil rfl) rfl) rfl) rfl (by decide)) rfl (.inl rfl)) (ss_cons (s_if (b_cmp (o_le) (v_bin (o_mul c.cK) (v_ix c.cK (v_var (i := 7) rfl (by leaf_len) (by decide) (by decide)) v_int rfl) (v_ix c.cK (v_var (i := 2) rfl (by leaf_len) (by decide) (by decide)) v_int rfl)) (v_bin (o_mul c.cK) (v_ix c.cK (v_var (i := 2) rfl (by leaf_len) (by decide) (by decide)) v_int rfl) (v_ix c.cK (v_var (i := 7) rfl (by leaf_len) (by decide) (by decide)) v_int rfl)) rfl) (ss_cons (s_set (i := 4) c rfl (by mem_news) (v_var (i := 6) rfl (by leaf_len) (by decide) (by decide)) rfl (.inl rfl)) (ss_nil)) (ss_cons (s_set (i := 5) c rfl (by mem_news) (v_var (i := 6) rfl (by leaf_len) (by decide) (by decide)) rfl (.inl rfl)) (ss_nil))) (ss_nil))))) (ss_cons (s_if (b_of (w_or (b_cmp (o_eq c.cK c.rm) (v_var (i := 4) rfl (by leaf_len) (by decide) (by decide)) (v_bin (o_mul c.cK) v_int (v_var (i := 3) rfl (by leaf_len) (by decide) (by decide))) rfl) (w_or1 (b_cmp (o_ne c.cK c.rm) (v_calls (FnA.call c ((ok__law_power_trace T).mono (by decide))) (by rfl) T.g__law_power_trace (l_cons (v_var (i := 4) rfl (by leaf_len) (by decide) (by decide)) (l_cons (v_var (i := 3) rfl (by leaf_len) (by decide) (by decide)) (l_cons (v_var (i := 1) rfl (by leaf_len) (by decide) (by decide)) l_nil rfl) rfl) rfl) rfl (by decide)) (v_var (i := 2) rfl (by leaf_len) (by decide) (by decide)) rfl)))) (ss_cons (s_ret v_bool) ss_nil) (ss_nil)) (ss_cons (s_asg (v_calls (FnA.call c ((ok__law_powers T).mono (by decide))) (by rfl) T.g__law_powers (l_cons (v_var (i := 4) rfl (by leaf_len) (by decide) (by decide)) (l_cons (v_var (i := 3) rfl (by leaf_len) (by decide) (by decide)) (l_cons (v_var (i := 1) rfl (by leaf_len) (by decide) (by decide)) l_nil rfl) rfl) rfl) rfl (by decide)) (g_tup c.cK c.calm (gs_cons (g_name (i := 8) c.nd rfl (by mem_news) (.inl rfl)) (gs_cons (g_name (i := 9) c.nd rfl (by mem_news) (.inl rfl)) gs_nil rfl) rfl) rfl rfl) rfl rfl rfl) (ss_cons (s_asg (v_calls (FnA.call c ((ok__law_four T).mono (by decide))) (by rfl) T.g__law_four (l_cons (v_var (i := 0) rfl (by leaf_len) (by decide) (by decide)) l_nil rfl) rfl (by decide)) (g_tup c.cK c.calm (gs_cons (g_name (i := 10) c.nd rfl (by mem_news) (.inl rfl)) (gs_cons (g_name (i := 11) c.nd rfl (by mem_news) (.inl rfl)) (gs_cons (g_name (i := 12) c.nd rfl (by mem_news) (.inl rfl)) (gs_cons (g_name (i := 13) c.nd rfl (by mem_news) (.inl rfl)) (gs_cons (g_name (i := 14) c.nd rfl (by mem_news) (.inl rfl)) gs_nil rfl) rfl) rfl) rfl) rfl) rfl rfl) rfl rfl rfl) (ss_cons (s_set (i := 15) c rfl (by mem_news) (v_bin (o_mul c.cK) (v_bin (o_mul c.cK) (v_ix c.cK (v_var (i := 8) rfl (by leaf_len) (by decide) (by decide)) v_int rfl) (v_var (i := 14) rfl (by leaf_len) (by decide) (by decide))) (v_ix c.cK (v_var (i := 9) rfl (by leaf_len) (by decide) (by decide)) v_int rfl)) rfl (.inl rfl)) (ss_cons (s_set (i := 16) c rfl (by mem_news) (v_bin (o_mul c.cK) (v_ix c.cK (v_var (i := 9) rfl (by leaf_len) (by decide) (by decide)) v_int rfl) (v_var (i := 14) rfl (by leaf_len) (by decide) (by decide))) rfl (.inl rfl)) (ss_cons (s_ret (v_cmp (o_ge) (v_callB (c_min c.calm) (by rfl) T.z_min (by decide +kernel) (l_cons (v_bin (o_mul c.cK) (v_bin (o_add c.cK) (v_bin (o_mul c.cK) (v_var (i := 10) rfl (by leaf_len) (by decide) (by decide)) (v_ix c.cK (v_var (i := 9) rfl (by leaf_len) (by decide) (by decide)) v_int rfl)) (v_var (i := 16) rfl (by leaf_len) (by decide) (by decide))) (v_ix c.cK (v_var (i := 8) rfl (by leaf_len) (by decide) (by decide)) v_int rfl)) (l_cons (v_bin (o_mul c.cK) (v_bin (o_add c.cK) (v_bin (o_mul c.cK) (v_var (i := 13) rfl (by leaf_len) (by decide) (by decide)) (v_ix c.cK (v_var (i := 9) rfl (by leaf_len) (by decide) (by decide)) v_int rfl)) (v_var (i := 16) rfl (by leaf_len) (by decide) (by decide))) (v_ix c.cK (v_var (i := 8) rfl (by leaf_len) (by decide) (by decide)) v_int rfl)) l_nil rfl) rfl) rfl (by decide) (by decide)) (v_var (i := 15) rfl (by leaf_len) (by decide) (by decide)) rfl)) ss_nil)))))))))))⟩
def sem__law_is_power : List D → M D := runFn 2 17 pk__law_is_power.1
theorem ok__law_is_power (T : Facts P w K mg base ad) : FnA P w K mg base (GG K ad) 8 (ad 40) sem__law_is_power := by
  obtain ⟨fd, F⟩ := T.f__law_is_power
  exact fna_rule F sc__law_is_power (F.binds fun _ _ _ _ _ _ us hl => match us, hl with | [_, _], _ => rfl) rfl (pk__law_is_power.2 P w K mg base ad T) rfl rfl (by decide)
def pk__law_right : Σ' ms : MS, ∀ (P : Program) (w : World) (K : PySem.W.Frag) (mg : Str → Option Value) (base : Heap) (ad : Nat → Addr), Facts P w K mg base ad → Body P w K mg base (GG K ad) 16 (ad 41) ["_law_cup_here", "_law_turn", "_law_row_here", "_law_many", "_law_mine", "_law_told", "_law_more", "_law_again", "_law_word", "_law_ohms"] "_law_right" st__law_right ms :=
  ⟨_, fun P w K mg base ad T cdv A fr s H E c => ss_cons (s_for c (i_rng1 (by rfl) T.z_range (l_cons v_int l_nil rfl) rfl) (g_name (i := 1) c.nd rfl (by mem_news) (.inl rfl)) (ss_cons (s_set (i := 2) c rfl (by mem_news) (v_calls (FnA.call c ((ok__law_mixed T).mono (by decide))) (by rfl) T.g__law_mixed (l_cons (v_var (i := 0) rfl (by leaf_len) (by decide) (by decide)) (l_cons v_int l_nil rfl) rfl) rfl (by decide)) rfl (.inl rfl)) (ss_cons (s_set (i := 3) c rfl (by mem_news) (v_bin (o_add c.cK) v_int (v_calls (FnA.call c ((ok__law_sip T).mono (by decide))) (by rfl) T.g__law_sip (l_cons (v_var (i := 0) rfl (by leaf_len) (by decide) (by decide)) (l_cons (v_bin (o_fdiv) v_int (v_callB (c_len c.cK) (by rfl) T.z_len (by decide +kernel) (l_cons (v_var (i := 2) rfl (by leaf_len) (by decide) (by decide)) l_nil rfl) rfl (by decide) (by decide))) l_nil rfl) rfl) rfl (by decide))) rfl (.inl rfl)) (ss_cons (s_set (i := 4) c rfl (by mem_news) (v_calls (FnA.call c ((ok__law_read T).mono (by decide))) (by rfl) T.g__law_read (l_cons (v_bin (o_mul c.cK) (v_var (i := 2) rfl (by leaf_len) (by decide) (by decide)) (v_var (i := 3) rfl (by leaf_len) (by decide) (by decide))) l_nil rfl) rfl (by decide)) rfl (.inl rfl)) (ss_cons (s_set (i := 5) c rfl (by mem_news) (v_calls (FnA.call c ((ok_repetition T).mono (by decide))) (by rfl) T.g_repetition (l_cons (v_var (i := 4) rfl (by leaf_len) (by decide) (by decide)) l_nil rfl) rfl (by decide)) rfl (.inl rfl)) (ss_cons (s_for c (i_rng2 (by rfl) T.z_range (l_cons (v_bin (o_add c.cK) (v_ix c.cK (v_var (i := 5) rfl (by leaf_len) (by decide) (by decide)) v_int rfl) v_int) (l_cons v_int l_nil rfl) rfl) rfl rfl) (g_name (i := 6) c.nd rfl (by mem_news) (.inl rfl)) (ss_cons (s_if (b_val (v_calls (FnA.call c ((ok__law_is_power T).mono (by decide))) (by rfl) T.g__law_is_power (l_cons (v_bin (o_mul c.cK) (v_var (i := 2) rfl (by leaf_len) (by decide) (by decide)) (v_var (i := 3) rfl (by leaf_len) (by decide) (by decide))) (l_cons (v_var (i := 6) rfl (by leaf_len) (by decide) (by decide)) l_nil rfl) rfl) rfl (by decide)) (fun _ => rfl)) (ss_cons (s_ret v_bool) ss_nil) (ss_nil)) (ss_nil)) rfl) (ss_cons (s_if (b_of (w_and (b_cmp (o_gt) (v_ix c.cK (v_var (i := 5) rfl (by leaf_len) (by decide) (by decide)) v_int rfl) v_int rfl) (w_and1 (b_not (b_val (v_calls (FnA.call c ((ok__law_is_power T).mono (by decide))) (by rfl) T.g__law_is_power (l_cons (v_bin (o_mul c.cK) (v_var (i := 2) rfl (by leaf_len) (by decide) (by decide)) (v_var (i := 3) rfl (by leaf_len) (by decide) (by decide))) (l_cons (v_ix c.cK (v_var (i := 5) rfl (by leaf_len) (by decide) (by decide)) v_int rfl) l_nil rfl) rfl) rfl (by decide)) (fun _ => rfl)))))) (ss_cons (s_ret v_bool) ss_nil) (ss_nil)) (ss_cons (s_if (b_val (v_callB (c_all c.calm) (by rfl) T.z_all (by decide +kernel) (l_cons (v_lc c (own := [("_law_word", 8), ("_law_ohms", 9)]) (i_seq c (v_ix c.cK (v_var (i := 5) rfl (by leaf_len) (by decide) (by decide)) v_int rfl)) (blkOk_by (N := ["_law_cup_here", "_law_turn", "_law_row_here", "_law_many", "_law_mine", "_law_told", "_law_more", "_law_again", "_law_word", "_law_ohms"]) (sc := defScope st__law_right) (by decide +kernel)) (fun s H C cl fp => blkP c fun c => (p_tup c.cK c.calm (ps_consP (p_name (i := 8) c.nd rfl (by mem_news) (.inr rfl)) (ps_consP (p_name (i := 9) c.nd rfl (by mem_news) (.inr rfl)) ps_nilP rfl) rfl) rfl rfl)) (fun s H C cl fp => blkT c fun c => t_nil) (fun s H C cl fp => blkV c fun c => (v_and (v_cmp (o_eq c.cK c.rm) (v_ix c.cK (v_var (i := 9) rfl (by leaf_len) (by decide) (by decide)) v_int rfl) v_int rfl) (v_one (v_cmp (o_lt) (v_ix c.cK (v_var (i := 9) rfl (by leaf_len) (by decide) (by decide)) v_int rfl) v_int rfl)))) rfl (by decide)) l_nil rfl) rfl (by decide) (by decide)) (fun _ => rfl)) (ss_cons (s_set (i := 7) c rfl (by mem_news) (v_calls (FnA.call c ((ok_repetition T).mono (by decide))) (by rfl) T.g_repetition (l_cons (v_calls (FnA.call c ((ok__law_read T).mono (by decide))) (by rfl) T.g__law_read (l_cons (v_lc c (own := [("_law_word", 8), ("_law_ohms", 9)]) (i_seq c (v_ix c.cK (v_var (i := 5) rfl (by leaf_len) (by decide) (by decide)) v_int rfl)) (blkOk_by (N := ["_law_cup_here", "_law_turn", "_law_row_here", "_law_many", "_law_mine", "_law_told", "_law_more", "_law_again", "_law_word", "_law_ohms"]) (sc := defScope st__law_right) (by decide +kernel)) (fun s H C cl fp => blkP c fun c => (p_tup c.cK c.calm (ps_consP (p_name (i := 8) c.nd rfl (by mem_news) (.inr rfl)) (ps_consP (p_name (i := 9) c.nd rfl (by mem_news) (.inr rfl)) ps_nilP rfl) rfl) rfl rfl)) (fun s H C cl fp => blkT c fun c => t_nil) (fun s H C cl fp => blkV c fun c => (v_tup (l_cons (v_var (i := 8) rfl (by leaf_len) (by decide) (by decide)) (l_cons (v_ix c.cK (v_var (i := 9) rfl (by leaf_len) (by decide) (by decide)) v_int rfl) l_nil rfl) rfl) (by decide))) rfl (by decide)) l_nil rfl) rfl (by decide)) l_nil rfl) rfl (by decide)) rfl (.inl rfl)) (ss_cons (s_if (b_cmp (o_ne c.cK c.rm) (v_callB (c_repr c.cK c.rm) (by rfl) T.z_repr (by decide +kernel) (l_cons (v_var (i := 7) rfl (by leaf_len) (by decide) (by decide)) l_nil rfl) rfl (by decide) (by decide)) (v_callB (c_repr c.cK c.rm) (by rfl) T.z_repr (by decide +kernel) (l_cons (v_tup (l_cons v_int (l_cons (v_ix c.cK (v_var (i := 5) rfl (by leaf_len) (by decide) (by decide)) v_int rfl) l_nil rfl) rfl) (by decide)) l_nil rfl) rfl (by decide) (by decide)) rfl) (ss_cons (s_ret v_bool) ss_nil) (ss_nil)) (ss_nil))) (ss_nil)) (ss_nil)))))))) rfl) (ss_cons (s_ret v_bool) ss_nil)⟩
def sem__law_right : List D → M D := runFn 1 10 pk__law_right.1
theorem ok__law_right (T : Facts P w K mg base ad) : FnA P w K mg base (GG K ad) 18 (ad 41) sem__law_right := by
  obtain ⟨fd, F⟩ := T.f__law_right
  exact fna_rule F sc__law_right (F.binds fun _ _ _ _ _ _ us hl => match us, hl with | [_], _ => rfl) rfl (pk__law_right.2 P w K mg base ad T) rfl rfl (by decide)
def pk__law_cup : Σ' ms : MS, ∀ (P : Program) (w : World) (K : PySem.W.Frag) (mg : Str → Option Value) (base : Heap) (ad : Nat → Addr), Facts P w K mg base ad → Body P w K mg base (GG K ad) 0 (ad 42) ["_law_script", "_law_spot", "_law_cell", "_law_one"] "_law_cup" st__law_cup ms :=
  ⟨_, fun P w K mg base ad T cdv A fr s H E c => ss_cons (s_set (i := 2) c rfl (by mem_news) (v_ite (b_cmp (o_lt) (v_var (i := 1) rfl (by leaf_len) (by decide) (by decide)) (v_callB (c_len c.cK) (by rfl) T.z_len (by decide +kernel) (l_cons (v_var (i := 0) rfl (by leaf_len) (by decide) (by decide)) l_nil rfl) rfl (by decide) (by decide)) rfl) (v_ix c.cK (v_var (i := 0) rfl (by leaf_len) (by decide) (by decide)) (v_var (i := 1) rfl (by leaf_len) (by decide) (by decide)) rfl) (v_bin (o_add c.cK) (v_bin (o_mul c.cK) v_int (v_var (i := 1) rfl (by leaf_len) (by decide) (by decide))) v_int)) rfl (.inl rfl)) (ss_cons (s_for c (i_seq c (v_ite (b_cmp (o_ge) (v_var (i := 1) rfl (by leaf_len) (by decide) (by decide)) (v_callB (c_len c.cK) (by rfl) T.z_len (by decide +kernel) (l_cons (v_var (i := 0) rfl (by leaf_len) (by decide) (by decide)) l_nil rfl) rfl (by decide) (by decide)) rfl) (v_slice c.cK (v_var (i := 0) rfl (by leaf_len) (by decide) (by decide)) q_none (q_some v_int)) (v_lst l_nil (by decide)))) (g_name (i := 3) c.nd rfl (by mem_news) (.inl rfl)) (ss_cons (s_set (i := 2) c rfl (by mem_news) (v_bin (o_mod) (v_callTy (c_int) (by rfl) T.z_int (by decide +kernel) (l_cons (v_bin (o_add c.cK) (v_bin (o_mul c.cK) (v_var (i := 2) rfl (by leaf_len) (by decide) (by decide)) v_int) (v_var (i := 3) rfl (by leaf_len) (by decide) (by decide))) l_nil rfl) rfl (by decide) (by decide)) v_int) rfl (.inl rfl)) (ss_nil)) rfl) (ss_cons (s_ret (v_shr (o_lst (l_cons (v_bin (o_mod) (v_callTy (c_int) (by rfl) T.z_int (by decide +kernel) (l_cons (v_bin (o_add c.cK) (v_bin (o_add c.cK) (v_bin (o_mul c.cK) (v_var (i := 2) rfl (by leaf_len) (by decide) (by decide)) v_int) (v_bin (o_mul c.cK) v_int (v_var (i := 1) rfl (by leaf_len) (by decide) (by decide)))) v_int) l_nil rfl) rfl (by decide) (by decide)) v_int) (l_cons (v_ite (b_of (w_or (b_cmp (o_lt) (v_var (i := 2) rfl (by leaf_len) (by decide) (by decide)) v_int rfl) (w_or1 (b_cmp (o_ge) (v_var (i := 2) rfl (by leaf_len) (by decide) (by decide)) (v_bin (o_pow) v_int v_int) rfl)))) (v_callB (c_abs) (by rfl) T.z_abs (by decide +kernel) (l_cons (v_var (i := 2) rfl (by leaf_len) (by decide) (by decide)) l_nil rfl) rfl (by decide) (by decide)) v_int) l_nil rfl) rfl) (by decide)))) ss_nil))⟩
def sem__law_cup : List D → M D := runFn 2 4 pk__law_cup.1
theorem ok__law_cup (T : Facts P w K mg base ad) : FnA P w K mg base (GG K ad) 2 (ad 42) sem__law_cup := by
  obtain ⟨fd, F⟩ := T.f__law_cup
  exact fna_rule F sc__law_cup (F.binds fun _ _ _ _ _ _ us hl => match us, hl with | [_, _], _ => rfl) rfl (pk__law_cup.2 P w K mg base ad T) rfl rfl (by decide)
def pk_law : Σ' ms : MS, ∀ (P : Program) (w : World) (K : PySem.W.Frag) (mg : Str → Option Value) (base : Heap) (ad : Nat → Addr), Facts P w K mg base ad → Body P w K mg base (GG K ad) 18 (ad 43) ["_law_script", "_law_told", "_law_spot"] "law" st_law ms :=
  ⟨_, fun P w K mg base ad T cdv A fr s H E c => ss_cons (s_own (i := 1) c rfl (Or.inl rfl) (o_lst (l_cons (v_ix c.cK (v_calls (FnA.call c ((ok_repetition T).mono (by decide))) (by rfl) T.g_repetition (l_cons (v_calls (ClA.call c ((mk_Pattern T).mono (by decide))) (by rfl) T.k_Pattern (l_cons (v_tup (l_cons v_str (l_cons v_int l_nil rfl) rfl) (by decide)) (l_cons (v_tup (l_cons v_str (l_cons v_int l_nil rfl) rfl) (by decide)) (l_cons (v_tup (l_cons v_str (l_cons v_int l_nil rfl) rfl) (by decide)) l_nil rfl) rfl) rfl) rfl (by decide)) l_nil rfl) rfl (by decide)) v_int rfl) l_nil rfl) (by decide)) rfl (.inl rfl) (by decide)) (ss_cons (s_app (i := 1) rfl (by leaf_len) (by decide) (by decide) (v_ix c.cK (v_calls (FnA.call c ((ok_repetition T).mono (by decide))) (by rfl) T.g_repetition (l_cons (v_calls (ClA.call c ((mk_Pattern T).mono (by decide))) (by rfl) T.k_Pattern (l_cons (v_tup (l_cons v_str (l_cons v_int l_nil rfl) rfl) (by decide)) (l_cons (v_tup (l_cons v_str (l_cons v_int l_nil rfl) rfl) (by decide)) l_nil rfl) rfl) rfl (by decide)) l_nil rfl) rfl (by decide)) v_int rfl) rfl rfl) (ss_cons (s_app (i := 1) rfl (by leaf_len) (by decide) (by decide) (v_ix c.cK (v_calls (FnA.call c ((ok_repetition T).mono (by decide))) (by rfl) T.g_repetition (l_cons (v_calls (ClA.call c ((mk_Pattern T).mono (by decide))) (by rfl) T.k_Pattern (l_cons (v_tup (l_cons v_str (l_cons v_int l_nil rfl) rfl) (by decide)) (l_cons (v_tup (l_cons v_str (l_cons v_int l_nil rfl) rfl) (by decide)) (l_cons (v_tup (l_cons v_str (l_cons v_int l_nil rfl) rfl) (by decide)) (l_cons (v_tup (l_cons v_str (l_cons v_int l_nil rfl) rfl) (by decide)) l_nil rfl) rfl) rfl) rfl) rfl (by decide)) l_nil rfl) rfl (by decide)) v_int rfl) rfl rfl) (ss_frz (i := 1) (ss_cons (s_if (b_cmp (o_ne c.cK c.rm) (v_var (i := 1) rfl (by leaf_len) (by decide) (by decide)) (v_lst (l_cons v_int (l_cons v_int (l_cons v_int l_nil rfl) rfl) rfl) (by decide)) rfl) (ss_cons (s_ret v_bool) ss_nil) (ss_nil)) (ss_cons (s_ret (v_callB (c_all c.calm) (by rfl) T.z_all (by decide +kernel) (l_cons (v_lc c (own := [("_law_spot", 2)]) (i_rng1 (by rfl) T.z_range (l_cons (v_callB (c_max c.calm) (by rfl) T.z_max (by decide +kernel) (l_cons v_int (l_cons (v_callB (c_min c.calm) (by rfl) T.z_min (by decide +kernel) (l_cons (v_callB (c_len c.cK) (by rfl) T.z_len (by decide +kernel) (l_cons (v_var (i := 0) rfl (by leaf_len) (by decide) (by decide)) l_nil rfl) rfl (by decide) (by decide)) (l_cons v_int l_nil rfl) rfl) rfl (by decide) (by decide)) l_nil rfl) rfl) rfl (by decide) (by decide)) l_nil rfl) rfl) (blkOk_by (N := ["_law_script", "_law_told", "_law_spot"]) (sc := defScope st_law) (by decide +kernel)) (fun s H C cl fp => blkP c fun c => (p_name (i := 2) c.nd rfl (by mem_news) (.inr rfl))) (fun s H C cl fp => blkT c fun c => t_nil) (fun s H C cl fp => blkV c fun c => (v_calls (FnA.call c ((ok__law_right T).mono (by decide))) (by rfl) T.g__law_right (l_cons (v_calls (FnA.call c ((ok__law_cup T).mono (by decide))) (by rfl) T.g__law_cup (l_cons (v_var (i := 0) rfl (by leaf_len) (by decide) (by decide)) (l_cons (v_var (i := 2) rfl (by leaf_len) (by decide) (by decide)) l_nil rfl) rfl) rfl (by decide)) l_nil rfl) rfl (by decide))) rfl (by decide)) l_nil rfl) rfl (by decide) (by decide))) ss_nil)))))⟩
def sem_law : List D → M D := runFn 1 3 pk_law.1
theorem ok_law (T : Facts P w K mg base ad) : FnA P w K mg base (GG K ad) 20 (ad 43) sem_law := by
  obtain ⟨fd, F⟩ := T.f_law
  exact fna_rule F sc_law (F.binds fun _ _ _ _ _ _ us hl => match us, hl with | [_], _ => rfl) rfl (pk_law.2 P w K mg base ad T) rfl rfl (by decide)
end K35
set_option maxRecDepth 100000
set_option maxHeartbeats 1000000
set_option exponentiation.threshold 4000
namespace K35
open PySem Ev
theorem runS_expr {α : Type} {g : List SV → M α} {sd : List SV} {S : List Ob} {N : List SV → List Ob → Prop} {R : D → List Ob → Prop} {B C : List SV → List Ob → Prop} : RunS (exS g fun _ => nextS) sd S N R B C ↔ Ev.Run (g sd) S fun _ S' => N sd S' := by
  rw [runS_ex]
  exact Iff.rfl
theorem gcd_step (x y : Int) (hx : 0 ≤ x) (hy : 0 < y) : Int.gcd y (x % y) = Int.gcd x y := by
  show Nat.gcd y.natAbs (x % y).natAbs = Nat.gcd x.natAbs y.natAbs
  rw [Int.natAbs_emod_of_nonneg hx, Nat.gcd_comm y.natAbs, ← Nat.gcd_rec, Nat.gcd_comm]
def Left (x y : Int) (n : Nat) : Prop := ∃ m : Nat, x * y < 2 ^ m ∧ (if x < y then m + 2 else m + 1) ≤ n
theorem left_step {x y : Int} {n : Nat} (hx : 0 ≤ x) (hy : 0 < y) (h : Left x y n) : ∃ n', n' < n ∧ Left y (x % y) n' := by
  obtain ⟨m, h1, h2⟩ := h
  have r0 := Int.emod_nonneg x (show y ≠ 0 by omega)
  have r1 := Int.emod_lt_of_pos x hy
  by_cases l : x < y
  · rw [if_pos l] at h2
    refine ⟨m + 1, by omega, m, ?_, ?_⟩
    · rw [Int.emod_eq_of_lt hx l, Int.mul_comm]
      exact h1
    · rw [if_neg (by omega)]
      exact Nat.le_refl _
  · rw [if_neg l] at h2
    have m0 : m ≠ 0 := by
      rintro rfl
      have z : 0 < x * y := Int.mul_pos (by omega) hy
      simp at h1
      omega
    obtain ⟨m', rfl⟩ : ∃ m', m = m' + 1 := ⟨m - 1, by omega⟩
    refine ⟨m' + 1, by omega, m', ?_, ?_⟩
    · have r2 : x % y ≤ x - y := by
        have q : 1 ≤ x / y := Int.le_ediv_of_mul_le hy (by omega)
        have e := Int.emod_add_mul_ediv x y
        have e2 : y * 1 ≤ y * (x / y) := Int.mul_le_mul_of_nonneg_left q (by omega)
        omega
      have r3 : 2 * (x % y) < x := by omega
      have r4 : y * (2 * (x % y)) < y * x := Int.mul_lt_mul_of_pos_left r3 hy
      have e5 : y * (2 * (x % y)) = 2 * (y * (x % y)) := by grind
      have e6 : y * x = x * y := Int.mul_comm _ _
      have e7 : (2 : Int) ^ (m' + 1) = 2 * 2 ^ m' := by rw [Int.pow_succ, Int.mul_comm]
      omega
    · rw [if_neg (by omega)]
      exact Nat.le_refl _
theorem left_start {x y : Int} (hx : 0 ≤ x) (hy : 0 ≤ y) (bx : x < 2 ^ 1000) (by_ : y < 2 ^ 1000) : ∃ n, n < bigW ∧ Left x y n := by
  refine ⟨2002, by decide, 2000, ?_, by split <;> omega⟩
  have a : x * y ≤ x * 2 ^ 1000 := Int.mul_le_mul_of_nonneg_left (by omega) hx
  have b : x * 2 ^ 1000 < 2 ^ 1000 * 2 ^ 1000 := Int.mul_lt_mul_of_pos_right bx (by decide)
  have c : (2 : Int) ^ 1000 * 2 ^ 1000 = 2 ^ 2000 := by decide
  omega
theorem common_ok (a b : Int) (ha : 0 ≤ a) (hb : 0 ≤ b) (sa : a < 2 ^ 1000) (sb : b < 2 ^ 1000) : sem_common [.int a, .int b] = M.pure (.int (Int.gcd a b)) := by
  refine pure_of fun S => ?_
  obtain ⟨n, hn, hl⟩ := left_start ha hb sa sb
  unfold sem_common
  rw [run_fn]
  refine ⟨rfl, ?_⟩
  unfold pk_common
  rw [runS_seq]
  refine iter_rule (J := fun n sd S' => S' = S ∧ ∃ x y : Int, sd = [.val (.int x), .val (.int y)] ∧ 0 ≤ x ∧ 0 ≤ y ∧ Int.gcd x y = Int.gcd a b ∧ Left x y n) ?_ bigW n _ _ hn ⟨rfl, a, b, rfl, ha, hb, rfl, hl⟩
  rintro n sd S' ⟨rfl, x, y, rfl, hx, hy, hg, hn⟩
  simp only [run_pure, run_bind, run_ite, run_noErr, run_stuck, runS_next, runS_stuck, runS_seq, runS_ret, runS_par, runS_own, runS_for, runS_if, runS_tgt, runS_expr, setT, tupT, consT, getv, on1, on2, toB_bl, add_int, sub_int, cmp_int, int_int, List.getElem?_cons_zero, List.getElem?_cons_succ, List.set_cons_zero, List.set_cons_succ, List.length_cons, List.length_nil, if_true, reduceIte, Nat.reduceAdd, Nat.reduceEqDiff]
  by_cases h : 0 < y
  · simp only [h, decide_true, if_true]
    try simp only [run_pure, run_bind, run_ite, run_noErr, run_stuck, runS_next, runS_stuck, runS_seq, runS_ret, runS_par, runS_own, runS_for, runS_if, runS_tgt, runS_expr, setT, tupT, consT, getv, on1, on2, toB_bl, add_int, sub_int, cmp_int, int_int, List.getElem?_cons_zero, List.getElem?_cons_succ, List.set_cons_zero, List.set_cons_succ, List.length_cons, List.length_nil, if_true, reduceIte, Nat.reduceAdd, Nat.reduceEqDiff]
    simp only [mod_int h]
    try simp only [run_pure, run_bind, run_ite, run_noErr, run_stuck, runS_next, runS_stuck, runS_seq, runS_ret, runS_par, runS_own, runS_for, runS_if, runS_tgt, runS_expr, setT, tupT, consT, getv, on1, on2, toB_bl, add_int, sub_int, cmp_int, int_int, List.getElem?_cons_zero, List.getElem?_cons_succ, List.set_cons_zero, List.set_cons_succ, List.length_cons, List.length_nil, if_true, reduceIte, Nat.reduceAdd, Nat.reduceEqDiff]
    obtain ⟨n', l', h'⟩ := left_step hx h hn
    exact ⟨n', l', trivial, y, x % y, rfl, hy, Int.emod_nonneg x (by omega), (gcd_step x y hx h).trans hg, h'⟩
  · have y0 : y = 0 := by omega
    subst y0
    simp only [h, decide_false]
    try simp only [run_pure, run_bind, run_ite, run_noErr, run_stuck, runS_next, runS_stuck, runS_seq, runS_ret, runS_par, runS_own, runS_for, runS_if, runS_tgt, runS_expr, setT, tupT, consT, getv, on1, on2, toB_bl, add_int, sub_int, cmp_int, int_int, List.getElem?_cons_zero, List.getElem?_cons_succ, List.set_cons_zero, List.set_cons_succ, List.length_cons, List.length_nil, if_true, reduceIte, Nat.reduceAdd, Nat.reduceEqDiff]
    simp only [Int.gcd_zero] at hg
    refine ⟨?_, trivial⟩
    rw [← hg]
    congr 1
    omega
def lowT (t : Int) (b : Int) : Int := t / (Int.gcd t b : Int)
def lowB (t : Int) (b : Int) : Int := b / (Int.gcd t b : Int)
theorem divOk_gcd {t b : Int} (ht : 0 ≤ t) (hb : 0 ≤ b) (h : 0 < t + b) (st : t < 2 ^ 1000) (sb : b < 2 ^ 1000) : divOk (Int.gcd t b : Int) = true := by
  have g0 : 0 < Int.gcd t b := by
    rw [Int.gcd_pos_iff]
    omega
  have g1 : Int.gcd t b < 2 ^ 1000 := by
    by_cases e : t = 0
    · subst e
      rw [Int.gcd_zero_left]
      omega
    · have := Nat.le_of_dvd (by omega) (Int.gcd_dvd_natAbs_left t b)
      omega
  unfold divOk
  rw [Bool.and_eq_true]
  refine ⟨decide_eq_true (by omega), decide_eq_true ?_⟩
  rw [Int.natAbs_natCast]
  have := (Nat.log2_lt (by omega)).mpr g1
  omega
theorem lowest_ok (t b : Int) (ht : 0 ≤ t) (hb : 0 ≤ b) (h : 0 < t + b) (st : t < 2 ^ 1000) (sb : b < 2 ^ 1000) : sem_lowest [.int t, .int b] = M.pure (.tup [.int (lowT t b), .int (lowB t b)]) := by
  refine pure_of fun S => ?_
  have d := divOk_gcd ht hb h st sb
  unfold sem_lowest
  rw [run_fn]
  refine ⟨rfl, ?_⟩
  show RunS pk_lowest.1 [.val (.int t), .val (.int b), .no] S _ _ _ _
  unfold pk_lowest
  simp only [run_pure, run_bind, run_ite, run_noErr, run_stuck, runS_next, runS_stuck, runS_seq, runS_ret, runS_par, runS_own, runS_for, runS_if, runS_tgt, runS_expr, setT, tupT, consT, getv, on1, on2, toB_bl, add_int, sub_int, cmp_int, int_int, List.getElem?_cons_zero, List.getElem?_cons_succ, List.set_cons_zero, List.set_cons_succ, List.length_cons, List.length_nil, if_true, reduceIte, Nat.reduceAdd, Nat.reduceEqDiff]
  simp only [common_ok t b ht hb st sb]
  simp only [run_pure, run_bind, run_ite, run_noErr, run_stuck, runS_next, runS_stuck, runS_seq, runS_ret, runS_par, runS_own, runS_for, runS_if, runS_tgt, runS_expr, setT, tupT, consT, getv, on1, on2, toB_bl, add_int, sub_int, cmp_int, int_int, List.getElem?_cons_zero, List.getElem?_cons_succ, List.set_cons_zero, List.set_cons_succ, List.length_cons, List.length_nil, if_true, reduceIte, Nat.reduceAdd, Nat.reduceEqDiff]
  simp only [fdiv_int d]
  try simp only [run_pure, run_bind, run_ite, run_noErr, run_stuck, runS_next, runS_stuck, runS_seq, runS_ret, runS_par, runS_own, runS_for, runS_if, runS_tgt, runS_expr, setT, tupT, consT, getv, on1, on2, toB_bl, add_int, sub_int, cmp_int, int_int, List.getElem?_cons_zero, List.getElem?_cons_succ, List.set_cons_zero, List.set_cons_succ, List.length_cons, List.length_nil, if_true, reduceIte, Nat.reduceAdd, Nat.reduceEqDiff]
  exact ⟨rfl, trivial⟩
def Sm (k : Nat) (x : Int) : Prop := 0 ≤ x ∧ x < 2 ^ k
theorem Sm.mono {j k : Nat} {x : Int} (h : Sm j x) (l : j ≤ k) : Sm k x := ⟨h.1, Int.lt_of_lt_of_le h.2 (by exact_mod_cast Nat.pow_le_pow_right (by decide) l)⟩
theorem Sm.mul {j k : Nat} {x y : Int} (h : Sm j x) (l : Sm k y) : Sm (j + k) (x * y) := by
  refine ⟨Int.mul_nonneg h.1 l.1, ?_⟩
  have a : x * y ≤ x * 2 ^ k := Int.mul_le_mul_of_nonneg_left (by have := l.2; omega) h.1
  have p : (0 : Int) < 2 ^ k := Int.pow_pos (by decide)
  have b : x * 2 ^ k < 2 ^ j * 2 ^ k := Int.mul_lt_mul_of_pos_right h.2 p
  rw [Int.pow_add]
  omega
theorem Sm.add {k : Nat} {x y : Int} (h : Sm k x) (l : Sm k y) : Sm (k + 1) (x + y) := by
  have a := h.1
  have b := h.2
  have c := l.1
  have d := l.2
  refine ⟨by omega, ?_⟩
  rw [Int.pow_succ]
  omega
theorem Sm.nat {k : Nat} {x : Int} (h : Sm k x) : x.natAbs < 2 ^ k := by
  have a := h.1
  have b := h.2
  have e : ((x.natAbs : Nat) : Int) = x := by omega
  have c : ((x.natAbs : Nat) : Int) < ((2 ^ k : Nat) : Int) := by
    rw [e]
    simpa using b
  exact_mod_cast c
theorem mulS {j k : Nat} {x y : Int} (h : Sm j x) (l : Sm k y) (c : j + k ≤ 134217728) : dMul (.int x) (.int y) = M.pure (.int (x * y)) := mul_int (mulOk_by h.nat l.nat c)
structure Mx where
  a : Int
  b : Int
  c : Int
  d : Int
def Mx.D (m : Mx) : Ev.D := .tup [.int m.a, .int m.b, .int m.c, .int m.d]
def Mx.mul (m n : Mx) : Mx := ⟨m.a * n.a + m.b * n.c, m.a * n.b + m.b * n.d, m.c * n.a + m.d * n.c, m.c * n.b + m.d * n.d⟩
structure Mx.S (k : Nat) (m : Mx) : Prop where
  a : Sm k m.a
  b : Sm k m.b
  c : Sm k m.c
  d : Sm k m.d
theorem joined_ok {k : Nat} (m n : Mx) (hm : m.S k) (hn : n.S k) (hk : k ≤ 10000) : sem_joined [m.D, n.D] = M.pure (m.mul n).D := by
  refine pure_of fun S => ?_
  have l : k + k ≤ 134217728 := by omega
  unfold sem_joined
  rw [run_fn]
  refine ⟨rfl, ?_⟩
  show RunS pk_joined.1 [.val m.D, .val n.D, .no, .no, .no, .no, .no, .no, .no, .no] S _ _ _ _
  unfold pk_joined Mx.D
  simp only [run_pure, run_bind, run_ite, run_noErr, run_stuck, runS_next, runS_stuck, runS_seq, runS_ret, runS_par, runS_own, runS_for, runS_if, runS_tgt, runS_expr, setT, tupT, consT, getv, on1, on2, toB_bl, add_int, sub_int, cmp_int, int_int, List.getElem?_cons_zero, List.getElem?_cons_succ, List.set_cons_zero, List.set_cons_succ, List.length_cons, List.length_nil, if_true, reduceIte, Nat.reduceAdd, Nat.reduceEqDiff]
  simp only [mulS hm.a hn.a l, mulS hm.b hn.c l, mulS hm.a hn.b l, mulS hm.b hn.d l, mulS hm.c hn.a l, mulS hm.d hn.c l, mulS hm.c hn.b l, mulS hm.d hn.d l]
  simp only [run_pure, run_bind, run_ite, run_noErr, run_stuck, runS_next, runS_stuck, runS_seq, runS_ret, runS_par, runS_own, runS_for, runS_if, runS_tgt, runS_expr, setT, tupT, consT, getv, on1, on2, toB_bl, add_int, sub_int, cmp_int, int_int, List.getElem?_cons_zero, List.getElem?_cons_succ, List.set_cons_zero, List.set_cons_succ, List.length_cons, List.length_nil, if_true, reduceIte, Nat.reduceAdd, Nat.reduceEqDiff]
  exact ⟨rfl, trivial⟩
structure Pc where
  rail : Bool
  o : Int
def Pc.ok (p : Pc) : Prop := 1 ≤ p.o ∧ p.o ≤ 12
def Pc.w (p : Pc) : Str := if p.rail then "rail" else "rung"
def Pc.D (p : Pc) : Ev.D := .tup [.str p.w, .int p.o]
def Pc.m (p : Pc) : Mx := if p.rail then ⟨1, p.o, 0, 1⟩ else ⟨p.o, 0, 1, p.o⟩
def rowD (r : List Pc) : Ev.D := .tup (r.map Pc.D)
theorem Pc.sm {p : Pc} (h : p.ok) : Sm 4 p.o := ⟨by have := h.1; omega, by have := h.2; show p.o < 16; omega⟩
theorem Pc.ms {p : Pc} (h : p.ok) : p.m.S 4 := by
  have s := Pc.sm h
  have z : Sm 4 0 := ⟨by decide, by decide⟩
  have u : Sm 4 1 := ⟨by decide, by decide⟩
  unfold Pc.m
  split
  · exact ⟨u, s, z, u⟩
  · exact ⟨s, z, u, s⟩
theorem Mx.S.mul {j k : Nat} {m n : Mx} (h : m.S j) (l : n.S k) : (m.mul n).S (j + k + 1) :=
  ⟨(h.a.mul l.a).add (h.b.mul l.c), (h.a.mul l.b).add (h.b.mul l.d), (h.c.mul l.a).add (h.d.mul l.c), (h.c.mul l.b).add (h.d.mul l.d)⟩
theorem Mx.S.mono {j k : Nat} {m : Mx} (h : m.S j) (l : j ≤ k) : m.S k := ⟨h.a.mono l, h.b.mono l, h.c.mono l, h.d.mono l⟩
def chainM : Mx → Int → List Pc → Mx × Int
  | m, t, [] => (m, t)
  | m, t, p :: r => chainM (m.mul p.m) (if p.rail then t else t * p.o) r
def one : Mx := ⟨1, 0, 0, 1⟩
theorem eq_str (x y : Str) : dEq false (.str x) (.str y) = M.pure (.bl (decide (x = y))) := rfl
theorem rail_eq : decide (("rail" : Str) = "rail") = true := by decide
theorem rung_ne : decide (("rung" : Str) = "rail") = false := by decide
theorem chain_ok (r : List Pc) (hr : ∀ p ∈ r, p.ok) (hl : r.length ≤ 8) : sem_chain_of [rowD r] = M.pure (.tup [(chainM one 1 r).1.D, .int (chainM one 1 r).2]) := by
  refine pure_of fun S => ?_
  unfold sem_chain_of
  rw [run_fn]
  refine ⟨rfl, ?_⟩
  show RunS pk_chain_of.1 [.val (rowD r), .no, .no, .no, .no] S _ _ _ _
  unfold pk_chain_of rowD
  simp only [run_pure, run_bind, run_ite, run_noErr, run_stuck, runS_next, runS_stuck, runS_seq, runS_ret, runS_par, runS_own, runS_for, runS_if, runS_tgt, runS_expr, setT, tupT, consT, getv, on1, on2, toB_bl, add_int, sub_int, cmp_int, int_int, List.getElem?_cons_zero, List.getElem?_cons_succ, List.set_cons_zero, List.set_cons_succ, List.length_cons, List.length_nil, if_true, reduceIte, Nat.reduceAdd, Nat.reduceEqDiff]
  unfold seqOf
  simp only [run_pure, run_bind, run_ite, run_noErr, run_stuck, runS_next, runS_stuck, runS_seq, runS_ret, runS_par, runS_own, runS_for, runS_if, runS_tgt, runS_expr, setT, tupT, consT, getv, on1, on2, toB_bl, add_int, sub_int, cmp_int, int_int, List.getElem?_cons_zero, List.getElem?_cons_succ, List.set_cons_zero, List.set_cons_succ, List.length_cons, List.length_nil, if_true, reduceIte, Nat.reduceAdd, Nat.reduceEqDiff]
  refine loop_rule (J := fun ds sd S' => S' = S ∧ ∃ (r' : List Pc) (m : Mx) (t : Int) (k : Nat) (u v : SV), ds = r'.map Pc.D ∧ sd = [.val (.tup (r.map Pc.D)), .val m.D, .val (.int t), u, v] ∧ chainM m t r' = chainM one 1 r ∧ m.S k ∧ Sm k t ∧ k + 5 * r'.length ≤ 100 ∧ ∀ p ∈ r', p.ok) ?_ ?_ _ _ _ ?_
  · rintro d ds sd S' ⟨rfl, r', m, t, k, u, v, e, rfl, ch, hm, ht, hk, ho⟩
    rcases r' with _ | ⟨p, r'⟩
    · cases e
    rw [List.map_cons] at e
    cases e
    have hp := ho p List.mem_cons_self
    have hk : k + 5 * (r'.length + 1) ≤ 100 := by simpa using hk
    refine ⟨_, _, rfl, ?_⟩
    have jm := joined_ok m p.m (hm.mono (by omega : k ≤ k + 4)) ((Pc.ms hp).mono (by omega : 4 ≤ k + 4)) (by omega)
    have hm2 : (m.mul p.m).S (k + 5) := hm.mul (Pc.ms hp)
    have hr2 : ∀ q ∈ r', q.ok := fun q hq => ho q (List.mem_cons_of_mem _ hq)
    rcases p with ⟨_ | _, o⟩
    · simp only [run_pure, run_bind, run_ite, run_noErr, run_stuck, runS_next, runS_stuck, runS_seq, runS_ret, runS_par, runS_own, runS_for, runS_if, runS_tgt, runS_expr, setT, tupT, consT, getv, on1, on2, toB_bl, add_int, sub_int, cmp_int, int_int, List.getElem?_cons_zero, List.getElem?_cons_succ, List.set_cons_zero, List.set_cons_succ, List.length_cons, List.length_nil, if_true, reduceIte, Nat.reduceAdd, Nat.reduceEqDiff]
      simp only [eq_str, Pc.w, Bool.false_eq_true, if_false, rung_ne]
      simp only [run_pure, run_bind, run_ite, run_noErr, run_stuck, runS_next, runS_stuck, runS_seq, runS_ret, runS_par, runS_own, runS_for, runS_if, runS_tgt, runS_expr, setT, tupT, consT, getv, on1, on2, toB_bl, add_int, sub_int, cmp_int, int_int, List.getElem?_cons_zero, List.getElem?_cons_succ, List.set_cons_zero, List.set_cons_succ, List.length_cons, List.length_nil, if_true, reduceIte, Nat.reduceAdd, Nat.reduceEqDiff]
      rw [if_neg Bool.false_ne_true]
      have jm : sem_joined [m.D, .tup [.int o, .int 0, .int 1, .int o]] = M.pure (m.mul (Pc.m ⟨false, o⟩)).D := jm
      have so : Sm 4 o := Pc.sm hp
      rw [jm]
      simp only [run_pure, run_bind, run_ite, run_noErr, run_stuck, runS_next, runS_stuck, runS_seq, runS_ret, runS_par, runS_own, runS_for, runS_if, runS_tgt, runS_expr, setT, tupT, consT, getv, on1, on2, toB_bl, add_int, sub_int, cmp_int, int_int, List.getElem?_cons_zero, List.getElem?_cons_succ, List.set_cons_zero, List.set_cons_succ, List.length_cons, List.length_nil, if_true, reduceIte, Nat.reduceAdd, Nat.reduceEqDiff]
      rw [mulS ht so (by omega)]
      simp only [run_pure, run_bind, run_ite, run_noErr, run_stuck, runS_next, runS_stuck, runS_seq, runS_ret, runS_par, runS_own, runS_for, runS_if, runS_tgt, runS_expr, setT, tupT, consT, getv, on1, on2, toB_bl, add_int, sub_int, cmp_int, int_int, List.getElem?_cons_zero, List.getElem?_cons_succ, List.set_cons_zero, List.set_cons_succ, List.length_cons, List.length_nil, if_true, reduceIte, Nat.reduceAdd, Nat.reduceEqDiff]
      exact ⟨trivial, r', _, _, k + 5, _, _, rfl, rfl, ch, hm2, (ht.mul so).mono (by omega), by omega, hr2⟩
    · simp only [run_pure, run_bind, run_ite, run_noErr, run_stuck, runS_next, runS_stuck, runS_seq, runS_ret, runS_par, runS_own, runS_for, runS_if, runS_tgt, runS_expr, setT, tupT, consT, getv, on1, on2, toB_bl, add_int, sub_int, cmp_int, int_int, List.getElem?_cons_zero, List.getElem?_cons_succ, List.set_cons_zero, List.set_cons_succ, List.length_cons, List.length_nil, if_true, reduceIte, Nat.reduceAdd, Nat.reduceEqDiff]
      simp only [eq_str, Pc.w, if_true, rail_eq]
      simp only [run_pure, run_bind, run_ite, run_noErr, run_stuck, runS_next, runS_stuck, runS_seq, runS_ret, runS_par, runS_own, runS_for, runS_if, runS_tgt, runS_expr, setT, tupT, consT, getv, on1, on2, toB_bl, add_int, sub_int, cmp_int, int_int, List.getElem?_cons_zero, List.getElem?_cons_succ, List.set_cons_zero, List.set_cons_succ, List.length_cons, List.length_nil, if_true, reduceIte, Nat.reduceAdd, Nat.reduceEqDiff]
      rw [if_pos (decide_eq_true trivial)]
      have jm : sem_joined [m.D, .tup [.int 1, .int o, .int 0, .int 1]] = M.pure (m.mul (Pc.m ⟨true, o⟩)).D := jm
      rw [jm]
      simp only [run_pure, run_bind, run_ite, run_noErr, run_stuck, runS_next, runS_stuck, runS_seq, runS_ret, runS_par, runS_own, runS_for, runS_if, runS_tgt, runS_expr, setT, tupT, consT, getv, on1, on2, toB_bl, add_int, sub_int, cmp_int, int_int, List.getElem?_cons_zero, List.getElem?_cons_succ, List.set_cons_zero, List.set_cons_succ, List.length_cons, List.length_nil, if_true, reduceIte, Nat.reduceAdd, Nat.reduceEqDiff]
      exact ⟨trivial, r', _, _, k + 5, _, _, rfl, rfl, ch, hm2, ht.mono (by omega), by omega, hr2⟩
  · rintro sd S' ⟨rfl, r', m, t, k, u, v, e, rfl, ch, hm, ht, hk, ho⟩
    rcases r' with _ | ⟨p, r'⟩
    · simp only [run_pure, run_bind, run_ite, run_noErr, run_stuck, runS_next, runS_stuck, runS_seq, runS_ret, runS_par, runS_own, runS_for, runS_if, runS_tgt, runS_expr, setT, tupT, consT, getv, on1, on2, toB_bl, add_int, sub_int, cmp_int, int_int, List.getElem?_cons_zero, List.getElem?_cons_succ, List.set_cons_zero, List.set_cons_succ, List.length_cons, List.length_nil, if_true, reduceIte, Nat.reduceAdd, Nat.reduceEqDiff]
      have ch : (m, t) = chainM one 1 r := ch
      rw [← ch]
      exact ⟨rfl, trivial⟩
    · cases e
  · exact ⟨rfl, r, one, 1, 1, _, _, rfl, rfl, rfl, ⟨⟨by decide, by decide⟩, ⟨by decide, by decide⟩, ⟨by decide, by decide⟩, ⟨by decide, by decide⟩⟩, ⟨by decide, by decide⟩, by omega, hr⟩
def Mx.top (m : Mx) (t b : Int) : Int := m.a * t + m.b * b
def Mx.bot (m : Mx) (t b : Int) : Int := m.c * t + m.d * b
theorem isa_int_int (kn : Nat → Bool) (sb : Nat → Nat → Option Bool) (i : Int) : dIsa kn sb (.int i) (.ty .int) = M.pure (.bl true) := rfl
theorem isa_int_bool (kn : Nat → Bool) (sb : Nat → Nat → Option Bool) (i : Int) : dIsa kn sb (.int i) (.ty .bool) = M.pure (.bl false) := rfl
theorem isa_int_tup (kn : Nat → Bool) (sb : Nat → Nat → Option Bool) (i : Int) : dIsa kn sb (.int i) (.ty .tuple) = M.pure (.bl false) := rfl
theorem isa_tup_tup (kn : Nat → Bool) (sb : Nat → Nat → Option Bool) (ds : List D) : dIsa kn sb (.tup ds) (.ty .tuple) = M.pure (.bl true) := rfl
theorem isa_str_str (kn : Nat → Bool) (sb : Nat → Nat → Option Bool) (x : Str) : dIsa kn sb (.str x) (.ty .str) = M.pure (.bl true) := rfl
theorem is_integer_ok (i : Int) : sem_is_integer [.int i] = M.pure (.bl true) := by
  refine pure_of fun S => ?_
  unfold sem_is_integer
  rw [run_fn]
  refine ⟨rfl, ?_⟩
  show RunS pk_is_integer.1 [.val (.int i)] S _ _ _ _
  unfold pk_is_integer
  simp only [run_pure, run_bind, run_ite, run_noErr, run_stuck, runS_next, runS_stuck, runS_seq, runS_ret, runS_par, runS_own, runS_for, runS_if, runS_tgt, runS_expr, setT, tupT, consT, getv, on1, on2, toB_bl, add_int, sub_int, cmp_int, int_int, List.getElem?_cons_zero, List.getElem?_cons_succ, List.set_cons_zero, List.set_cons_succ, List.length_cons, List.length_nil, if_true, reduceIte, Nat.reduceAdd, Nat.reduceEqDiff]
  simp only [isa_int_int, isa_int_bool]
  simp only [run_pure, run_bind, run_ite, run_noErr, run_stuck, runS_next, runS_stuck, runS_seq, runS_ret, runS_par, runS_own, runS_for, runS_if, runS_tgt, runS_expr, setT, tupT, consT, getv, on1, on2, toB_bl, add_int, sub_int, cmp_int, int_int, List.getElem?_cons_zero, List.getElem?_cons_succ, List.set_cons_zero, List.set_cons_succ, List.length_cons, List.length_nil, if_true, reduceIte, Nat.reduceAdd, Nat.reduceEqDiff]
  simp
theorem len_tup (ds : List D) : dLen (.tup ds) = M.pure (.int ds.length) := rfl
theorem eq_int (i j : Int) : dEq false (.int i) (.int j) = M.pure (.bl (decide (i = j))) := rfl
theorem ne_int (i j : Int) : dEq true (.int i) (.int j) = M.pure (.bl (!decide (i = j))) := rfl
def LoadT (t b : Int) : Prop := 0 ≤ t ∧ t ≤ 10 ^ 12 ∧ 0 ≤ b ∧ b ≤ 10 ^ 12 ∧ (b = 0 → t = 1)
theorem eq_open : dEq false (.tup [.int 1, .int 0]) (.tup [.int 1, .int 0]) = M.pure (.bl true) := by
  with_unfolding_all rfl
section
variable {S : List Ob} {c m n : Nat} {ms : MS} {ds : List D} {Q : D → List Ob → Prop} {sd : List SV} {N : List SV → List Ob → Prop} {R : D → List Ob → Prop} {B C : List SV → List Ob → Prop}
theorem run_mkFn : Run (mkFn c m n ms ds) S Q ↔ ds.length + 1 = m ∧ RunS ms (slots n (.own (.ins c []) :: ds.map .val)) S (fun sd S' => match sd[0]? with | some (SV.own (Ob.ins c' es)) => if c' = c then Q (.ins c es) S' else False | _ => False) (fun _ _ => False) (fun _ _ => False) (fun _ _ => False) := by
  unfold Ev.Run mkFn RunS
  by_cases h : ds.length + 1 = m
  · simp only [h, if_true, true_and]
    rcases ms (slots n (.own (.ins c []) :: ds.map .val)) S with _ | ⟨sd | _ | _ | _ | _, S'⟩
    · exact Iff.rfl
    · unfold mkR
      simp only
      rcases sd[0]? with _ | _ | _ | ⟨_ | _ | ⟨c', es⟩⟩
      · exact Iff.rfl
      · exact Iff.rfl
      · exact Iff.rfl
      · exact Iff.rfl
      · exact Iff.rfl
      · simp only
        by_cases e : c' = c
        · rw [if_pos e, if_pos e]
        · rw [if_neg e, if_neg e]
    · exact Iff.rfl
    · exact Iff.rfl
    · exact Iff.rfl
    · exact Iff.rfl
  · simp only [h, if_false, false_and]
theorem runS_setF {i : Nat} {tbl : Nat → Option Nat} {g : List SV → M D} : RunS (setFS i tbl g) sd S N R B C ↔ Run (g sd) S fun d S' => match sd[i]? with
    | some (SV.own (Ob.ins c ds)) => (match tbl c with
      | some j => (match putL ds j d with
        | some es => N (sd.set i (.own (.ins c es))) S'
        | none => False)
      | none => False)
    | _ => False := by
  unfold setFS
  rw [runS_ex]
  unfold Ev.Run
  rcases g sd S with _ | ⟨_ | d, S'⟩
  · exact Iff.rfl
  · exact Iff.rfl
  · unfold RunS
    simp only
    rcases sd[i]? with _ | _ | _ | ⟨_ | _ | ⟨c', es⟩⟩
    · exact Iff.rfl
    · exact Iff.rfl
    · exact Iff.rfl
    · exact Iff.rfl
    · exact Iff.rfl
    · simp only
      rcases tbl c' with _ | j
      · exact Iff.rfl
      · simp only
        rcases putL es j d with _ | es2
        · exact Iff.rfl
        · exact Iff.rfl
end
def patD (r : List Pc) : D := .ins 1 [rowD r, (chainM one 1 r).1.D, .int (chainM one 1 r).2]
theorem row_ok (d : D) : sem_RowX_initX [d] = M.pure (.ins 0 [d]) := by
  refine pure_of fun S => ?_
  unfold sem_RowX_initX
  rw [run_mkFn]
  refine ⟨rfl, ?_⟩
  show RunS pk_RowX_initX.1 [.own (.ins 0 []), .val d] S _ _ _ _
  unfold pk_RowX_initX
  simp only [run_pure, run_bind, run_ite, run_noErr, run_stuck, runS_next, runS_stuck, runS_seq, runS_ret, runS_par, runS_own, runS_for, runS_if, runS_tgt, runS_expr, setT, tupT, consT, getv, on1, on2, toB_bl, add_int, sub_int, cmp_int, int_int, List.getElem?_cons_zero, List.getElem?_cons_succ, List.set_cons_zero, List.set_cons_succ, List.length_cons, List.length_nil, if_true, reduceIte, Nat.reduceAdd, Nat.reduceEqDiff, Bool.not_true, Bool.not_false, Bool.false_eq_true, if_false, decide_true, decide_false, Bool.true_eq_false, and_true, true_and, runS_setF]
  rfl
theorem isa_row (d : D) : dIsa (fun c => decide (c < 2)) (fun a b => if a < 2 ∧ b < 2 then some (decide (a = b)) else none) (.ins 0 [d]) (.cls 0) = M.pure (.bl true) := rfl
theorem attr_told (d : D) : attr (tab [(0, .fld 0)]) (.ins 0 [d]) = M.pure d := rfl
theorem pat_of_row (r : List Pc) (hr : ∀ p ∈ r, p.ok) (hl : r.length ≤ 8) : sem_PatternX_initX [.ins 0 [rowD r]] = M.pure (patD r) := by
  refine pure_of fun S => ?_
  unfold sem_PatternX_initX mkStar
  rw [if_pos (show 1 ≤ [D.ins 0 [rowD r]].length + 1 ∧ [D.ins 0 [rowD r]].length + 1 < 1 + lim from (show 1 ≤ 2 ∧ 2 < 1 + lim by decide))]
  rw [run_mkFn]
  refine ⟨rfl, ?_⟩
  show RunS pk_PatternX_initX.1 [.own (.ins 1 []), .val (.tup [.ins 0 [rowD r]])] S _ _ _ _
  unfold pk_PatternX_initX
  have l1 : ([D.ins 0 [rowD r]].length : Int) = 1 := rfl
  have i0 : dIx (.tup [.ins 0 [rowD r]]) (.int 0) = M.pure (.ins 0 [rowD r]) := ix_tup rfl
  simp only [run_pure, run_bind, run_ite, run_noErr, run_stuck, runS_next, runS_stuck, runS_seq, runS_ret, runS_par, runS_own, runS_for, runS_if, runS_tgt, runS_expr, setT, tupT, consT, getv, on1, on2, toB_bl, add_int, sub_int, cmp_int, int_int, List.getElem?_cons_zero, List.getElem?_cons_succ, List.set_cons_zero, List.set_cons_succ, List.length_cons, List.length_nil, if_true, reduceIte, Nat.reduceAdd, Nat.reduceEqDiff, Bool.not_true, Bool.not_false, Bool.false_eq_true, if_false, decide_true, decide_false, Bool.true_eq_false, and_true, true_and, runS_setF, len_tup, eq_int, l1, i0, isa_row, attr_told]
  rw [if_pos (by decide)]
  show Ev.Run (sem_chain_of [rowD r]) S _
  rw [chain_ok r hr hl]
  exact ⟨rfl, rfl⟩
theorem attr_row (r : List Pc) : attr (tab [(1, .fld 0)]) (patD r) = M.pure (rowD r) := rfl
theorem attr_chain (r : List Pc) : attr (tab [(1, .fld 1)]) (patD r) = M.pure (chainM one 1 r).1.D := rfl
theorem attr_scale (r : List Pc) : attr (tab [(1, .fld 2)]) (patD r) = M.pure (.int (chainM one 1 r).2) := rfl
theorem chain_sm : ∀ (r : List Pc) (m : Mx) (t : Int) (k : Nat), (∀ p ∈ r, p.ok) → m.S k → Sm k t → (chainM m t r).1.S (k + 5 * r.length) ∧ Sm (k + 5 * r.length) (chainM m t r).2
  | [], m, t, k, _, hm, ht => ⟨hm, ht⟩
  | p :: r, m, t, k, hr, hm, ht => by
    have hp := hr p List.mem_cons_self
    have z := chain_sm r (m.mul p.m) (if p.rail then t else t * p.o) (k + 5) (fun q hq => hr q (List.mem_cons_of_mem _ hq)) (hm.mul (Pc.ms hp)) (by
      split
      · exact ht.mono (by omega)
      · exact (ht.mul (Pc.sm hp)).mono (by omega))
    have e : k + 5 * (p :: r).length = k + 5 + 5 * r.length := by rw [List.length_cons]; omega
    rw [e]
    exact z
theorem one_sm : one.S 1 := ⟨⟨by decide, by decide⟩, ⟨by decide, by decide⟩, ⟨by decide, by decide⟩, ⟨by decide, by decide⟩⟩
def Row (r : List Pc) : Prop := (∀ p ∈ r, p.ok) ∧ r.length ≤ 8
theorem Row.sm {r : List Pc} (h : Row r) : (chainM one 1 r).1.S 50 ∧ Sm 50 (chainM one 1 r).2 := by
  have z := chain_sm r one 1 1 h.1 one_sm ⟨by decide, by decide⟩
  have l := h.2
  exact ⟨z.1.mono (by omega), z.2.mono (by omega)⟩
def shows (r : List Pc) (t b : Int) : Int × Int := (lowT ((chainM one 1 r).1.top t b) ((chainM one 1 r).1.bot t b), lowB ((chainM one 1 r).1.top t b) ((chainM one 1 r).1.bot t b))
def pairD (p : Int × Int) : D := .tup [.int p.1, .int p.2]
theorem low_sm {k : Nat} {t b : Int} (ht : Sm k t) (hb : Sm k b) (h : 0 < t + b) : Sm k (lowT t b) ∧ Sm k (lowB t b) := by
  have g0 : 0 < Int.gcd t b := by
    rw [Int.gcd_pos_iff]
    have := ht.1
    have := hb.1
    omega
  have a := Int.ediv_le_self (Int.gcd t b : Int) ht.1
  have b2 := Int.ediv_le_self (Int.gcd t b : Int) hb.1
  have c := Int.ediv_nonneg ht.1 (show (0 : Int) ≤ (Int.gcd t b : Int) by omega)
  have d := Int.ediv_nonneg hb.1 (show (0 : Int) ≤ (Int.gcd t b : Int) by omega)
  exact ⟨⟨c, Int.lt_of_le_of_lt a ht.2⟩, ⟨d, Int.lt_of_le_of_lt b2 hb.2⟩⟩
theorem row_app (r q : List Pc) : dAdd (rowD r) (rowD q) = if r.length + q.length ≤ lim then M.pure (rowD (r ++ q)) else M.stuck := by
  show (if (r.map Pc.D).length + (q.map Pc.D).length ≤ lim then M.pure (D.tup (r.map Pc.D ++ q.map Pc.D)) else M.stuck) = _
  rw [List.length_map, List.length_map, ← List.map_append]
  rfl
theorem isa_pat (r : List Pc) : dIsa (fun c => decide (c < 2)) (fun a b => if a < 2 ∧ b < 2 then some (decide (a = b)) else none) (patD r) (.cls 1) = M.pure (.bl true) := rfl
end K35
set_option maxRecDepth 100000
set_option maxHeartbeats 1000000
namespace K35
open PySem Ev
theorem pc_all {P : Pc → Prop} (h1 : ∀ b, P ⟨b, 1⟩) (h2 : ∀ b, P ⟨b, 2⟩) (h3 : ∀ b, P ⟨b, 3⟩) (h4 : ∀ b, P ⟨b, 4⟩) (h5 : ∀ b, P ⟨b, 5⟩) (h6 : ∀ b, P ⟨b, 6⟩) (h7 : ∀ b, P ⟨b, 7⟩) (h8 : ∀ b, P ⟨b, 8⟩) (h9 : ∀ b, P ⟨b, 9⟩)
    (h10 : ∀ b, P ⟨b, 10⟩) (h11 : ∀ b, P ⟨b, 11⟩) (h12 : ∀ b, P ⟨b, 12⟩) {p : Pc} (h : p.ok) : P p := by
  obtain ⟨b, o⟩ := p
  obtain ⟨l, u⟩ := h
  have l : 1 ≤ o := l
  have u : o ≤ 12 := u
  rcases (by omega : o = 1 ∨ o = 2 ∨ o = 3 ∨ o = 4 ∨ o = 5 ∨ o = 6 ∨ o = 7 ∨ o = 8 ∨ o = 9 ∨ o = 10 ∨ o = 11 ∨ o = 12) with e | e | e | e | e | e | e | e | e | e | e | e <;> subst e
  · exact h1 b
  · exact h2 b
  · exact h3 b
  · exact h4 b
  · exact h5 b
  · exact h6 b
  · exact h7 b
  · exact h8 b
  · exact h9 b
  · exact h10 b
  · exact h11 b
  · exact h12 b
def Pc.text (p : Pc) : Str := p.w ++ " " ++ (toString p.o : String)
theorem piece_read {p : Pc} (h : p.ok) : ∀ S, sem_piece_in [.str p.text] S = some (.ok p.D, S) := by
  intro S
  revert S
  refine pc_all (P := fun p => ∀ S, sem_piece_in [.str p.text] S = some (.ok p.D, S)) ?_ ?_ ?_ ?_ ?_ ?_ ?_ ?_ ?_ ?_ ?_ ?_ h <;> (intro b S; cases b <;> kernel_rfl)
theorem text_len {p : Pc} (h : p.ok) : p.text.length ≤ 7 := by
  refine pc_all (P := fun p => p.text.length ≤ 7) ?_ ?_ ?_ ?_ ?_ ?_ ?_ ?_ ?_ ?_ ?_ ?_ h <;> (intro b; cases b <;> decide +kernel)
theorem text_comma {p : Pc} (h : p.ok) : 44 ∉ p.text.cps.toList := by
  refine pc_all (P := fun p => 44 ∉ p.text.cps.toList) ?_ ?_ ?_ ?_ ?_ ?_ ?_ ?_ ?_ ?_ ?_ ?_ h <;> (intro b; cases b <;> decide +kernel)
theorem comp_map {t : TgP} {tt : List SV → M Bool} {fe : List SV → M D} {sdw : List SV} {g : D → D} : ∀ (ds acc : List D), (∀ d ∈ ds, ∃ sd1, t d sdw = some sd1 ∧ tt sd1 = M.pure true ∧ fe sd1 = M.pure (g d)) → acc.length + ds.length ≤ lim → compS t tt fe sdw ds acc = M.pure (acc ++ ds.map g)
  | [], acc, _, _ => by rw [List.map_nil, List.append_nil]; rfl
  | d :: ds, acc, h, hl => by
    obtain ⟨sd1, e1, e2, e3⟩ := h d List.mem_cons_self
    rw [List.length_cons] at hl
    unfold compS
    rw [e1]
    simp only
    rw [e2, e3]
    show (if acc.length < lim then compS t tt fe sdw ds (acc ++ [g d]) else M.stuck) = _
    rw [if_pos (by omega), comp_map ds (acc ++ [g d]) (fun d hd => h d (List.mem_cons_of_mem _ hd)) (by rw [List.length_append]; simp; omega), List.append_assoc]
    rfl
theorem comp_mapL {α : Type} {t : TgP} {tt : List SV → M Bool} {fe : List SV → M D} {sdw : List SV} {f g : α → D} : ∀ (r : List α) (acc : List D), (∀ x ∈ r, ∃ sd1, t (f x) sdw = some sd1 ∧ tt sd1 = M.pure true ∧ fe sd1 = M.pure (g x)) → acc.length + r.length ≤ lim → compS t tt fe sdw (r.map f) acc = M.pure (acc ++ r.map g)
  | [], acc, _, _ => by rw [List.map_nil, List.map_nil, List.append_nil]; rfl
  | x :: r, acc, h, hl => by
    obtain ⟨sd1, e1, e2, e3⟩ := h x List.mem_cons_self
    rw [List.length_cons] at hl
    rw [List.map_cons]
    unfold compS
    rw [e1]
    simp only
    rw [e2, e3]
    show (if acc.length < lim then compS t tt fe sdw (r.map f) (acc ++ [g x]) else M.stuck) = _
    rw [if_pos (by omega), comp_mapL r (acc ++ [g x]) (fun d hd => h d (List.mem_cons_of_mem _ hd)) (by rw [List.length_append]; simp; omega), List.append_assoc]
    rfl
theorem txts_map : ∀ ys : List Str, txts (ys.map D.str) = some ys
  | [] => rfl
  | y :: ys => by
    rw [List.map_cons]
    unfold txts
    rw [txts_map ys]
    rfl
def rowText (r : List Pc) : Str := Txt.join ", " (r.map Pc.text)
theorem sum_text : ∀ r : List Pc, (∀ p ∈ r, p.ok) → ((r.map Pc.text).map (·.length)).sum ≤ 7 * r.length
  | [], _ => Nat.le_refl _
  | p :: r, h => by
    have a := text_len (h p List.mem_cons_self)
    have b := sum_text r fun q hq => h q (List.mem_cons_of_mem _ hq)
    rw [List.map_cons, List.map_cons, List.sum_cons, List.length_cons]
    omega
theorem join_row (r : List Pc) (h : Row r) : dJoin ", " (.lst (r.map fun p => D.str p.text)) = M.pure (.str (rowText r)) := by
  have e : (r.map fun p => D.str p.text) = (r.map Pc.text).map D.str := by rw [List.map_map]; rfl
  have l := sum_text r h.1
  have l2 := h.2
  rw [e]
  unfold dJoin
  simp only [txts_map]
  rw [if_pos]
  · rfl
  · have e2 : (", " : Str).length = 2 := by decide
    rw [e2, List.length_map]
    omega
theorem text_made {p : Pc} (h : p.ok) : ∀ S, M.bind (dAdd (.str p.w) (.str " ")) (fun x => M.bind (dStr (.int p.o)) fun y => dAdd x y) S = some (.ok (.str p.text), S) := by
  refine pc_all (P := fun p => ∀ S, M.bind (dAdd (.str p.w) (.str " ")) (fun x => M.bind (dStr (.int p.o)) fun y => dAdd x y) S = some (.ok (.str p.text), S)) ?_ ?_ ?_ ?_ ?_ ?_ ?_ ?_ ?_ ?_ ?_ ?_ h <;> (intro b S; cases b <;> kernel_rfl)
theorem words_ok (r : List Pc) (h : Row r) : sem__law_words [.lst (r.map Pc.D)] = M.pure (.str (rowText r)) := by
  refine pure_of fun S => ?_
  unfold sem__law_words
  rw [run_fn]
  refine ⟨rfl, ?_⟩
  show RunS pk__law_words.1 [.val (.lst (r.map Pc.D)), .no, .no] S _ _ _ _
  unfold pk__law_words
  simp only [runS_seq, runS_ret, run_bind, run_pure, getv, List.getElem?_cons_zero, List.getElem?_cons_succ]
  unfold lcS
  simp only [run_bind, run_pure, getv, List.getElem?_cons_zero, List.getElem?_cons_succ]
  unfold seqOf
  simp only [run_bind, run_pure]
  rw [comp_mapL (g := fun p => D.str p.text)]
  · show Ev.Run (isStr (.str ", ")) S _
    show Ev.Run (dJoin ", " (.lst ([] ++ r.map fun p => D.str p.text))) S _
    rw [List.nil_append, join_row r h]
    exact ⟨rfl, rfl⟩
  · intro p hp
    refine ⟨[.val (.lst (r.map Pc.D)), .val (.str p.w), .val (.int p.o)], rfl, rfl, ?_⟩
    funext S
    exact text_made (h.1 p hp) S
  · have := h.2
    show 0 + r.length ≤ lim
    unfold lim
    omega
theorem row_text_len (r : List Pc) (h : Row r) : (rowText r).length ≤ 1000 := by
  have a := sum_text r h.1
  have b := h.2
  unfold rowText
  rw [TL.join_eq]
  have c := StrLaws.join_length_le ", " (r.map Pc.text)
  have e2 : (", " : Str).length = 2 := by decide
  rw [List.length_map, e2] at c
  omega
theorem split_row (r : List Pc) (h : Row r) (hne : r ≠ []) : dSplit (rowText r) (.str ", ") = M.pure (.lst (r.map fun p => D.str p.text)) := by
  have l := row_text_len r h
  show (if ((", " : Str).length == 0) = false ∧ (rowText r).length + 2 ≤ lim then M.pure (D.lst ((Txt.split (rowText r) ", ").map .str)) else M.stuck) = _
  rw [if_pos ⟨by decide, by unfold lim; omega⟩]
  unfold rowText
  rw [TL.split_join (s := 44) (S := [32]) rfl (by decide +kernel) (by simpa using hne) (fun q hq => by
    obtain ⟨p, hp, rfl⟩ := List.mem_map.mp hq
    exact text_comma (h.1 p hp)), List.map_map]
  rfl
def pP (p : Pc) : PyData := .tuple [.str p.w, .int p.o]
theorem toPs_row : ∀ r : List Pc, toPs (r.map Pc.D) = some (r.map pP)
  | [] => rfl
  | p :: r => by
    rw [List.map_cons, List.map_cons]
    unfold toPs
    rw [toPs_row r]
    rfl
theorem lay_row : ∀ r : List Pc, PyData.canLayAll0 (r.map pP) = true
  | [] => rfl
  | p :: r => by
    rw [List.map_cons]
    unfold PyData.canLayAll0
    rw [lay_row r, Bool.and_true]
    obtain ⟨b, o⟩ := p
    cases b <;> kernel_rfl
theorem depth_row : ∀ r : List Pc, PyData.depthAll (r.map pP) ≤ 1
  | [] => by decide
  | p :: r => by
    rw [List.map_cons]
    unfold PyData.depthAll
    have a := depth_row r
    have b : PyData.depth (pP p) = 1 := rfl
    omega
theorem none_in (r : List Pc) : dIn false .non (.lst (r.map Pc.D)) = M.pure (.bl false) := by
  have sh : SeqAt.shaped (.list (r.map pP)) = true := by
    unfold SeqAt.shaped
    rw [Bool.and_eq_true]
    refine ⟨?_, decide_eq_true ?_⟩
    · unfold PyData.canLay0
      exact lay_row r
    · unfold PyData.depth
      have := depth_row r
      omega
  have none_ : ((r.map pP).any fun z => PyData.eqv z .none) = false := by
    rw [List.any_eq_false]
    intro z hz
    obtain ⟨p, _, rfl⟩ := List.mem_map.mp hz
    unfold pP
    simp [PyData.eqv]
  unfold dIn
  simp only [toPs_row]
  show (match some PyData.none, some (r.map pP) with
    | some p, some ps => if SeqAt.shaped p = true ∧ SeqAt.shaped (.list ps) = true then M.pure (D.bl (if false = true then !(ps.any fun z => PyData.eqv z p) else ps.any fun z => PyData.eqv z p)) else M.stuck
    | _, _ => M.stuck) = _
  simp only
  rw [if_pos ⟨by decide +kernel, sh⟩, none_]
  rfl
theorem len_lst (ds : List D) : dLen (.lst ds) = M.pure (.int ds.length) := rfl
theorem pattern_in_ok (r : List Pc) (h : Row r) (hne : r ≠ []) : sem_pattern_in [.str (rowText r)] = M.pure (patD r) := by
  refine pure_of fun S => ?_
  unfold sem_pattern_in
  rw [run_fn]
  refine ⟨rfl, ?_⟩
  show RunS pk_pattern_in.1 [.val (.str (rowText r)), .no, .no] S _ _ _ _
  unfold pk_pattern_in
  have gt : decide ((8 : Int) < ((r.length : Nat) : Int)) = false := decide_eq_false (by have := h.2; omega)
  have pat := pat_of_row r h.1 h.2
  simp only [runS_seq, runS_tgt, run_bind, run_pure, getv, List.getElem?_cons_zero, List.getElem?_cons_succ]
  unfold lcS
  simp only [run_bind, run_pure, getv, List.getElem?_cons_zero, List.getElem?_cons_succ]
  show Ev.Run (dSplit (rowText r) (.str ", ")) S _
  rw [split_row r h hne]
  simp only [run_bind, run_pure]
  unfold seqOf
  simp only [run_bind, run_pure]
  rw [comp_mapL (g := Pc.D)]
  · simp only [run_pure, setT, List.set_cons_zero, List.set_cons_succ, List.nil_append]
    have tu : dTuple (.lst (r.map Pc.D)) = M.pure (rowD r) := rfl
    have gt2 : decide ((8 : Int) < (((r.map Pc.D).length : Nat) : Int)) = false := by rw [List.length_map]; exact gt
    simp only [runS_if, runS_seq, runS_ret, runS_next, run_bind, run_pure, run_ite, getv, List.getElem?_cons_zero, List.getElem?_cons_succ, none_in r, toB_bl, Bool.false_eq_true, if_false, on1, len_lst, cmp_int, gt2, tu, row_ok, pat]
    trivial
  · intro p hp
    refine ⟨[.val (.str (rowText r)), .no, .val (.str p.text)], rfl, rfl, ?_⟩
    funext S
    exact piece_read (h.1 p hp) S
  · have := h.2
    show 0 + r.length ≤ lim
    unfold lim
    omega
theorem is_pat (r : List Pc) : dIs false (patD r) .non = M.pure (.bl false) := rfl
theorem read_ok (r : List Pc) (h : Row r) (hne : r ≠ []) : sem_Pattern_read [.str (rowText r)] = M.pure (patD r) := by
  refine pure_of fun S => ?_
  unfold sem_Pattern_read
  rw [run_fn]
  refine ⟨rfl, ?_⟩
  show RunS pk_Pattern_read.1 [.val (.str (rowText r)), .no] S _ _ _ _
  unfold pk_Pattern_read
  simp only [runS_seq, runS_tgt, runS_if, runS_ret, runS_next, run_bind, run_pure, run_ite, getv, setT, List.getElem?_cons_zero, List.getElem?_cons_succ, List.set_cons_zero, List.set_cons_succ, on2, isa_str_str, toB_bl, if_true, pattern_in_ok r h hne, is_pat, Bool.false_eq_true, if_false]
  trivial
theorem law_read_ok (r : List Pc) (h : Row r) (hne : r ≠ []) : sem__law_read [.lst (r.map Pc.D)] = M.pure (patD r) := by
  refine pure_of fun S => ?_
  unfold sem__law_read
  rw [run_fn]
  refine ⟨rfl, ?_⟩
  show RunS pk__law_read.1 [.val (.lst (r.map Pc.D))] S _ _ _ _
  unfold pk__law_read
  simp only [runS_seq, runS_ret, run_bind, run_pure, getv, List.getElem?_cons_zero, List.getElem?_cons_succ, words_ok r h, read_ok r h hne]
  trivial
end K35
set_option maxRecDepth 100000
set_option maxHeartbeats 1000000
namespace K35
open PySem Ev
def Cup (S : List Ob) (n : Nat) : Prop := ∃ a b : Int, S[n]? = some (.lst [.int a, .int b]) ∧ Sm 31 a ∧ 0 ≤ b
theorem ix_ref {S : List Ob} {n : Nat} {ds : List D} {i : Int} {d : D} {P : D → List Ob → Prop} (h : S[n]? = some (.lst ds)) (hi : L2.atI ds i = some d) : Ev.Run (dIx (.ref n) (.int i)) S P ↔ P d S := by
  have e : dIx (.ref n) (.int i) S = some (.ok d, S) := by
    show (match S[n]? with
      | some (.lst ds) => (match L2.atI ds i with | some x => (some (Except.ok x, S) : Option (Except Exn D × List Ob)) | none => none)
      | _ => none) = _
    rw [h]
    simp only
    rw [hi]
  unfold Ev.Run
  rw [e]
theorem item_set {S : List Ob} {n i : Nat} {j : Int} {ds : List D} {d : D} {sd : List SV} (h0 : sd[0]? = some (.val (.ref n))) (h : S[n]? = some (.lst ds)) (hi : L2.ixN ds.length j = some i) : itemT (getv 0) (fun _ => M.pure (.int j)) d sd S = some (sd, S.set n (.lst (ds.set i d))) := by
  unfold itemT getv
  rw [h0]
  show (match S[n]? with
    | some (.lst ds) => (match L2.ixN ds.length j with | some i => some (sd, S.set n (.lst (ds.set i d))) | none => none)
    | _ => none) = _
  rw [h]
  simp only
  rw [hi]
theorem set_get {S : List Ob} {n : Nat} {o p : Ob} (h : S[n]? = some o) : (S.set n p)[n]? = some p := List.getElem?_set_self (List.getElem?_eq_some_iff.mp h).1
theorem sip_ok (S : List Ob) (n : Nat) (many : Int) (h : Cup S n) (hm : 0 < many) (hm2 : many ≤ 1000) : Ev.Run (sem__law_sip [.ref n, .int many]) S fun d S' => ∃ r, d = .int r ∧ 0 ≤ r ∧ r < many ∧ Cup S' n := by
  obtain ⟨a, b, hS, ha, hb⟩ := h
  unfold sem__law_sip
  rw [run_fn]
  refine ⟨rfl, ?_⟩
  show RunS pk__law_sip.1 [.val (.ref n), .val (.int many), .no] S _ _ _ _
  unfold pk__law_sip
  simp only [runS_seq, runS_tgt, runS_if, runS_ret, runS_next, run_bind, run_pure, run_ite, getv, List.getElem?_cons_zero, List.getElem?_cons_succ, List.set_cons_zero, List.set_cons_succ, on1, on2]
  rw [ix_ref hS (show L2.atI [D.int a, D.int b] 0 = some (.int a) from rfl)]
  rw [mulS ha (show Sm 20 48271 from ⟨by decide, by decide⟩) (by decide)]
  simp only [run_pure, add_int, int_int, mod_int (show (0 : Int) < 2147483629 by decide)]
  rw [item_set (j := 0) (i := 0) rfl hS rfl]
  have hS1 := set_get (p := .lst [.int ((a * 48271 + 11) % 2147483629), .int b]) hS
  simp only [List.getElem?_cons_zero, List.getElem?_cons_succ, run_pure, List.set_cons_zero, List.set_cons_succ]
  rw [ix_ref hS1 (show L2.atI [D.int ((a * 48271 + 11) % 2147483629), D.int b] 1 = some (.int b) from rfl)]
  have s1 : Sm 31 ((a * 48271 + 11) % 2147483629) := ⟨Int.emod_nonneg _ (by decide), Int.lt_trans (Int.emod_lt_of_pos _ (by decide)) (by decide)⟩
  simp only [cmp_int, run_pure, toB_bl]
  by_cases b0 : 0 < b
  · rw [if_pos (decide_eq_true b0)]
    rw [ix_ref hS1 (show L2.atI [D.int ((a * 48271 + 11) % 2147483629), D.int b] 1 = some (.int b) from rfl)]
    have dm : dDivmod (.int b) (.int many) = M.pure (.tup [.int (b / many), .int (b % many)]) := by
      show (if divmOk b many = true then M.pure (D.tup [.int (b / many), .int (b % many)]) else M.stuck) = _
      rw [if_pos]
      unfold divmOk
      rw [Bool.and_eq_true]
      refine ⟨decide_eq_true hm, ?_⟩
      rw [PyProof.noPylong_small (by omega)]
      rfl
    rw [dm]
    simp only [run_pure, tupT, consT, List.length_cons, List.length_nil, Nat.reduceAdd, if_true]
    rw [item_set (j := 1) (i := 1) rfl hS1 rfl]
    simp only [setT, List.set_cons_zero, List.set_cons_succ, List.getElem?_cons_zero, List.getElem?_cons_succ, run_pure]
    refine ⟨b % many, rfl, Int.emod_nonneg _ (by omega), Int.emod_lt_of_pos _ hm, _, _, set_get hS1, s1, Int.ediv_nonneg hb (by omega)⟩
  · rw [if_neg (by simpa using b0)]
    rw [ix_ref hS1 (show L2.atI [D.int ((a * 48271 + 11) % 2147483629), D.int b] 0 = some (.int _) from rfl)]
    rw [fdiv_int (show divOk 1021 = true by decide +kernel)]
    simp only [run_pure, int_int, mod_int hm]
    exact ⟨_, rfl, Int.emod_nonneg _ (by omega), Int.emod_lt_of_pos _ hm, _, _, hS1, s1, hb⟩
theorem law_pair_ok (t b : Int) (ht : 0 ≤ t) (hb : 0 ≤ b) (h : 0 < t + b) (st : t < 2 ^ 1000) (sb : b < 2 ^ 1000) : sem__law_pair [.int t, .int b] = M.pure (pairD (lowT t b, lowB t b)) := by
  refine pure_of fun S => ?_
  obtain ⟨n, hn, hl⟩ := left_start ht hb st sb
  have dv := divOk_gcd ht hb h st sb
  unfold sem__law_pair
  rw [run_fn]
  refine ⟨rfl, ?_⟩
  show RunS pk__law_pair.1 [.val (.int t), .val (.int b), .no, .no] S _ _ _ _
  unfold pk__law_pair
  simp only [runS_seq, runS_par, run_bind, run_pure, getv, List.getElem?_cons_zero, List.getElem?_cons_succ, List.set_cons_zero, List.set_cons_succ]
  refine iter_rule (J := fun n sd S' => S' = S ∧ ∃ x y : Int, sd = [.val (.int t), .val (.int b), .val (.int x), .val (.int y)] ∧ 0 ≤ x ∧ 0 ≤ y ∧ Int.gcd x y = Int.gcd t b ∧ Left x y n) ?_ bigW n _ _ hn ⟨rfl, t, b, rfl, ht, hb, rfl, hl⟩
  rintro n sd S' ⟨rfl, x, y, rfl, hx, hy, hg, hn⟩
  simp only [run_bind, run_pure, getv, List.getElem?_cons_zero, List.getElem?_cons_succ, cmp_int, toB_bl]
  by_cases h0 : 0 < y
  · simp only [h0, decide_true, if_true, runS_seq, runS_par, runS_next, run_bind, run_pure, getv, List.getElem?_cons_zero, List.getElem?_cons_succ, List.set_cons_zero, List.set_cons_succ, on1, int_int, mod_int h0]
    obtain ⟨n', l', h'⟩ := left_step hx h0 hn
    exact ⟨n', l', trivial, y, x % y, rfl, hy, Int.emod_nonneg x (by omega), (gcd_step x y hx h0).trans hg, h'⟩
  · have y0 : y = 0 := by omega
    subst y0
    have xg : x = (Int.gcd t b : Int) := by
      rw [← hg, Int.gcd_zero]
      omega
    subst xg
    simp only [h0, decide_false, Bool.false_eq_true, if_false, runS_seq, runS_ret, run_bind, run_pure, getv, List.getElem?_cons_zero, List.getElem?_cons_succ, fdiv_int dv]
    exact ⟨rfl, trivial⟩
theorem low_pos {t b : Int} (ht : 0 ≤ t) (hb : 0 ≤ b) (h : 0 < t + b) : 0 < lowT t b + lowB t b := by
  have g0 : 0 < Int.gcd t b := by
    rw [Int.gcd_pos_iff]
    omega
  have e1 : lowT t b * (Int.gcd t b : Int) = t := Int.ediv_mul_cancel (Int.gcd_dvd_left t b)
  have e2 : lowB t b * (Int.gcd t b : Int) = b := Int.ediv_mul_cancel (Int.gcd_dvd_right t b)
  have p1 : 0 ≤ lowT t b := Int.ediv_nonneg ht (by omega)
  have p2 : 0 ≤ lowB t b := Int.ediv_nonneg hb (by omega)
  by_cases z : lowT t b + lowB t b = 0
  · have z1 : lowT t b = 0 := by omega
    have z2 : lowB t b = 0 := by omega
    rw [z1, Int.zero_mul] at e1
    rw [z2, Int.zero_mul] at e2
    omega
  · omega
theorem low_scale {t b k : Int} (hk : 0 < k) : lowT (k * t) (k * b) = lowT t b ∧ lowB (k * t) (k * b) = lowB t b := by
  have e : (Int.gcd (k * t) (k * b) : Int) = k * (Int.gcd t b : Int) := by
    rw [Int.gcd_mul_left]
    have : ((k.natAbs : Nat) : Int) = k := by omega
    rw [Int.natCast_mul, this]
  unfold lowT lowB
  rw [e, Int.mul_ediv_mul_of_pos _ _ hk, Int.mul_ediv_mul_of_pos _ _ hk]
  exact ⟨rfl, rfl⟩
theorem low_cross {t b t2 b2 : Int} (ht : 0 ≤ t) (hb : 0 ≤ b) (h : 0 < t + b) (ht2 : 0 ≤ t2) (hb2 : 0 ≤ b2) (h2 : 0 < t2 + b2) (e : t * b2 = t2 * b) : lowT t b = lowT t2 b2 ∧ lowB t b = lowB t2 b2 := by
  have a1 : (t + b) * t2 = (t2 + b2) * t := by grind
  have a2 : (t + b) * b2 = (t2 + b2) * b := by grind
  have z1 := low_scale (t := t2) (b := b2) h
  have z2 := low_scale (t := t) (b := b) h2
  rw [a1, a2] at z1
  exact ⟨z2.1.symm.trans z1.1, z2.2.symm.trans z1.2⟩
end K35
set_option maxRecDepth 100000
set_option maxHeartbeats 1000000
namespace K35
open PySem Ev
def stepV (p : Pc) (v : Int × Int) : Int × Int := if p.rail then (v.1 + p.o * v.2, v.2) else if v.2 = 0 then (p.o, 1) else (p.o * v.1, p.o * v.2 + v.1)
def frontV (r : List Pc) (v : Int × Int) : Int × Int := r.foldr stepV v
structure Vec (k : Nat) (v : Int × Int) : Prop where
  t : Sm k v.1
  b : Sm k v.2
  p : 0 < v.1 + v.2
theorem Vec.mono {j k : Nat} {v : Int × Int} (h : Vec j v) (l : j ≤ k) : Vec k v := ⟨h.t.mono l, h.b.mono l, h.p⟩
theorem step_vec {k : Nat} {p : Pc} {v : Int × Int} (hp : p.ok) (h : Vec k v) : Vec (k + 5) (stepV p v) := by
  have so := Pc.sm hp
  have t0 := h.t.1
  have b0 := h.b.1
  have pp := h.p
  have o1 := hp.1
  unfold stepV
  split
  · refine ⟨((h.t.mono (by omega : k ≤ 4 + k)).add (so.mul h.b)).mono (by omega), h.b.mono (by omega), ?_⟩
    have : p.o * v.2 ≥ 0 := Int.mul_nonneg (by omega) b0
    show 0 < v.1 + p.o * v.2 + v.2
    omega
  · split
    · refine ⟨so.mono (by omega), (show Sm 1 1 from ⟨by decide, by decide⟩).mono (by omega), ?_⟩
      show 0 < p.o + 1
      omega
    · refine ⟨(so.mul h.t).mono (by omega), ((so.mul h.b).add (h.t.mono (by omega : k ≤ 4 + k))).mono (by omega), ?_⟩
      have e1 : 0 ≤ p.o * v.1 := Int.mul_nonneg (by omega) t0
      have e2 : 0 < p.o * v.2 := Int.mul_pos (by omega) (by omega)
      show 0 < p.o * v.1 + (p.o * v.2 + v.1)
      omega
theorem front_vec : ∀ {r : List Pc} {k : Nat} {v : Int × Int}, (∀ p ∈ r, p.ok) → Vec k v → Vec (k + 5 * r.length) (frontV r v)
  | [], k, v, _, h => h
  | p :: r, k, v, hr, h => by
    have z := step_vec (hr p List.mem_cons_self) (front_vec (fun q hq => hr q (List.mem_cons_of_mem _ hq)) h)
    rw [List.length_cons]
    exact z.mono (by omega)
theorem eq_int0 (i j : Int) : dEq false (.int i) (.int j) = M.pure (.bl (decide (i = j))) := rfl
end K35
set_option maxRecDepth 100000
set_option maxHeartbeats 1000000
namespace K35
open PySem Ev
theorem Mx.ext {m n : Mx} (h1 : m.a = n.a) (h2 : m.b = n.b) (h3 : m.c = n.c) (h4 : m.d = n.d) : m = n := by
  cases m
  cases n
  simp at h1 h2 h3 h4
  simp [h1, h2, h3, h4]
theorem Mx.assoc (m n o : Mx) : (m.mul n).mul o = m.mul (n.mul o) := by
  apply Mx.ext <;> (simp only [Mx.mul]; grind)
theorem Mx.one_mul (m : Mx) : one.mul m = m := by
  apply Mx.ext <;> (simp only [Mx.mul, one]; grind)
theorem Mx.mul_one (m : Mx) : m.mul one = m := by
  apply Mx.ext <;> (simp only [Mx.mul, one]; grind)
def mat (r : List Pc) : Mx := (chainM one 1 r).1
theorem chain_from : ∀ (r : List Pc) (m : Mx) (t : Int), (chainM m t r).1 = m.mul (mat r)
  | [], m, t => (Mx.mul_one m).symm
  | p :: r, m, t => by
    show (chainM (m.mul p.m) _ r).1 = m.mul (chainM (one.mul p.m) _ r).1
    rw [chain_from r, chain_from r, Mx.one_mul, Mx.assoc]
theorem mat_cons (p : Pc) (r : List Pc) : mat (p :: r) = p.m.mul (mat r) := by
  show (chainM (one.mul p.m) _ r).1 = _
  rw [chain_from, Mx.one_mul]
theorem mat_app : ∀ (r q : List Pc), mat (r ++ q) = (mat r).mul (mat q)
  | [], q => (Mx.one_mul _).symm
  | p :: r, q => by rw [List.cons_append, mat_cons, mat_app r q, mat_cons, Mx.assoc]
theorem top_mul (m n : Mx) (t b : Int) : (m.mul n).top t b = m.top (n.top t b) (n.bot t b) := by
  simp only [Mx.mul, Mx.top, Mx.bot]
  grind
theorem bot_mul (m n : Mx) (t b : Int) : (m.mul n).bot t b = m.bot (n.top t b) (n.bot t b) := by
  simp only [Mx.mul, Mx.top, Mx.bot]
  grind
theorem mat_vec : ∀ {r : List Pc} {k : Nat} {v : Int × Int}, (∀ p ∈ r, p.ok) → Vec k v → Vec (k + 5 * r.length) ((mat r).top v.1 v.2, (mat r).bot v.1 v.2) ∧ (mat r).top v.1 v.2 * (frontV r v).2 = (frontV r v).1 * (mat r).bot v.1 v.2
  | [], k, v, _, h => by
    have e1 : (mat []).top v.1 v.2 = v.1 := by show 1 * v.1 + 0 * v.2 = v.1; omega
    have e2 : (mat []).bot v.1 v.2 = v.2 := by show 0 * v.1 + 1 * v.2 = v.2; omega
    rw [e1, e2]
    exact ⟨h, rfl⟩
  | p :: r, k, v, hr, h => by
    have hp := hr p List.mem_cons_self
    have hr2 : ∀ q ∈ r, q.ok := fun q hq => hr q (List.mem_cons_of_mem _ hq)
    obtain ⟨z, c⟩ := mat_vec hr2 h
    have fz := front_vec hr2 h
    have so := Pc.sm hp
    have o1 := hp.1
    rw [mat_cons, top_mul, bot_mul]
    show Vec (k + 5 * (r.length + 1)) _ ∧ _ * (stepV p (frontV r v)).2 = (stepV p (frontV r v)).1 * _
    generalize (mat r).top v.1 v.2 = x at z c
    generalize (mat r).bot v.1 v.2 = y at z c
    generalize frontV r v = w at c fz
    have x0 : 0 ≤ x := z.t.1
    have y0 : 0 ≤ y := z.b.1
    have xy : 0 < x + y := z.p
    have w1 := fz.t.1
    have w2 := fz.b.1
    have wp := fz.p
    obtain ⟨b, o⟩ := p
    cases b with
    | true =>
      have e1 : (Pc.m ⟨true, o⟩).top x y = x + o * y := by show 1 * x + o * y = _; omega
      have e2 : (Pc.m ⟨true, o⟩).bot x y = y := by show 0 * x + 1 * y = _; omega
      rw [e1, e2]
      refine ⟨?_, ?_⟩
      · have q := step_vec (p := ⟨true, o⟩) hp z
        exact Vec.mono q (by omega)
      · show (x + o * y) * w.2 = (w.1 + o * w.2) * y
        grind
    | false =>
      have e1 : (Pc.m ⟨false, o⟩).top x y = o * x := by show o * x + 0 * y = _; omega
      have e2 : (Pc.m ⟨false, o⟩).bot x y = x + o * y := by show 1 * x + o * y = _; omega
      rw [e1, e2]
      have o1 : 1 ≤ o := o1
      have so : Sm 4 o := so
      refine ⟨⟨?_, ?_, ?_⟩, ?_⟩
      · exact (so.mul z.t).mono (by omega)
      · exact ((z.t.mono (by omega : _ ≤ 4 + (k + 5 * r.length))).add (so.mul z.b)).mono (by omega)
      · have a1 : 0 ≤ o * x := Int.mul_nonneg (by omega) x0
        have a2 : 0 ≤ o * y := Int.mul_nonneg (by omega) y0
        show 0 < o * x + (x + o * y)
        by_cases hx : x = 0
        · have a3 : 0 < o * y := Int.mul_pos (by omega) (by omega)
          omega
        · omega
      · unfold stepV
        simp only [Bool.false_eq_true, if_false]
        by_cases hb : w.2 = 0
        · rw [if_pos hb]
          rw [hb, Int.mul_zero] at c
          have w10 : w.1 ≠ 0 := by omega
          have y00 : y = 0 := by
            rcases Int.mul_eq_zero.mp c.symm with q | q
            · exact absurd q w10
            · exact q
          subst y00
          show o * x * 1 = o * (x + o * 0)
          grind
        · rw [if_neg hb]
          show o * x * (o * w.2 + w.1) = o * w.1 * (x + o * y)
          grind
theorem shows_front {r : List Pc} (h : Row r) {v : Int × Int} (hv : Vec 100 v) : shows r v.1 v.2 = (lowT (frontV r v).1 (frontV r v).2, lowB (frontV r v).1 (frontV r v).2) := by
  obtain ⟨z, c⟩ := mat_vec h.1 hv
  have f := front_vec h.1 hv
  have q := low_cross z.t.1 z.b.1 z.p f.t.1 f.b.1 f.p c
  exact Prod.ext q.1 q.2
def lowP (v : Int × Int) : Int × Int := (lowT v.1 v.2, lowB v.1 v.2)
theorem lowP_mul {v : Int × Int} (ht : 0 ≤ v.1) (hb : 0 ≤ v.2) (hp : 0 < v.1 + v.2) : ∃ g : Int, 0 < g ∧ g * (lowP v).1 = v.1 ∧ g * (lowP v).2 = v.2 := by
  have g0 : 0 < Int.gcd v.1 v.2 := by
    rw [Int.gcd_pos_iff]
    omega
  refine ⟨(Int.gcd v.1 v.2 : Int), by omega, ?_, ?_⟩
  · rw [Int.mul_comm]
    exact Int.ediv_mul_cancel (Int.gcd_dvd_left _ _)
  · rw [Int.mul_comm]
    exact Int.ediv_mul_cancel (Int.gcd_dvd_right _ _)
theorem top_scale (m : Mx) (g t b : Int) : m.top (g * t) (g * b) = g * m.top t b := by
  unfold Mx.top
  grind
theorem bot_scale (m : Mx) (g t b : Int) : m.bot (g * t) (g * b) = g * m.bot t b := by
  unfold Mx.bot
  grind
theorem shows_low (r : List Pc) {v : Int × Int} (ht : 0 ≤ v.1) (hb : 0 ≤ v.2) (hp : 0 < v.1 + v.2) : shows r v.1 v.2 = shows r (lowP v).1 (lowP v).2 := by
  obtain ⟨g, g0, e1, e2⟩ := lowP_mul ht hb hp
  unfold shows
  rw [← e1, ← e2, top_scale, bot_scale]
  have z := low_scale (t := (chainM one 1 r).1.top (lowP v).1 (lowP v).2) (b := (chainM one 1 r).1.bot (lowP v).1 (lowP v).2) g0
  rw [z.1, z.2]
theorem shows_app (r q : List Pc) (t b : Int) (ht : 0 ≤ (mat q).top t b) (hb : 0 ≤ (mat q).bot t b) (hp : 0 < (mat q).top t b + (mat q).bot t b) : shows (r ++ q) t b = shows r (shows q t b).1 (shows q t b).2 := by
  have z := shows_low r (v := ((mat q).top t b, (mat q).bot t b)) ht hb hp
  have e : shows (r ++ q) t b = shows r ((mat q).top t b) ((mat q).bot t b) := by
    unfold shows
    have m : (chainM one 1 (r ++ q)).1 = (mat r).mul (mat q) := mat_app r q
    rw [m, top_mul, bot_mul]
    rfl
  rw [e]
  exact z
def Mx.det (m : Mx) : Int := m.a * m.d - m.b * m.c
theorem det_mul (m n : Mx) : (m.mul n).det = m.det * n.det := by
  simp only [Mx.mul, Mx.det]
  grind
theorem det_pos : ∀ {r : List Pc}, (∀ p ∈ r, p.ok) → 0 < (mat r).det
  | [], _ => by decide
  | p :: r, h => by
    rw [mat_cons, det_mul]
    refine Int.mul_pos ?_ (det_pos fun q hq => h q (List.mem_cons_of_mem _ hq))
    have hp := h p List.mem_cons_self
    obtain ⟨b, o⟩ := p
    have o1 : 1 ≤ o := hp.1
    cases b with
    | true => show 0 < 1 * 1 - o * 0; omega
    | false =>
      show 0 < o * o - 0 * 1
      have := Int.mul_pos (show 0 < o by omega) (show 0 < o by omega)
      omega
theorem below_iff {x1 y1 x2 y2 g h : Int} (hg : 0 < g) (hh : 0 < h) : (g * x1) * (h * y2) < (h * x2) * (g * y1) ↔ x1 * y2 < x2 * y1 := by
  have e1 : (g * x1) * (h * y2) = (g * h) * (x1 * y2) := by grind
  have e2 : (h * x2) * (g * y1) = (g * h) * (x2 * y1) := by grind
  have gh : 0 < g * h := Int.mul_pos hg hh
  rw [e1, e2]
  constructor
  · intro z
    exact Int.lt_of_mul_lt_mul_left z (by omega)
  · intro z
    exact Int.mul_lt_mul_of_pos_left z gh
theorem rises {r : List Pc} (hr : ∀ p ∈ r, p.ok) {v w : Int × Int} (hv : Vec 100 v) (hw : Vec 100 w) : ((shows r v.1 v.2).1 * (shows r w.1 w.2).2 < (shows r w.1 w.2).1 * (shows r v.1 v.2).2) ↔ (v.1 * w.2 < w.1 * v.2) := by
  obtain ⟨z1, _⟩ := mat_vec hr hv
  obtain ⟨z2, _⟩ := mat_vec hr hw
  obtain ⟨g, g0, a1, a2⟩ := lowP_mul z1.t.1 z1.b.1 z1.p
  obtain ⟨h, h0, b1, b2⟩ := lowP_mul z2.t.1 z2.b.1 z2.p
  have s1 : shows r v.1 v.2 = lowP ((mat r).top v.1 v.2, (mat r).bot v.1 v.2) := rfl
  have s2 : shows r w.1 w.2 = lowP ((mat r).top w.1 w.2, (mat r).bot w.1 w.2) := rfl
  rw [s1, s2, ← below_iff (x1 := (lowP ((mat r).top v.1 v.2, (mat r).bot v.1 v.2)).1) g0 h0, a1, a2, b1, b2]
  have d := det_pos hr
  have e : (mat r).top w.1 w.2 * (mat r).bot v.1 v.2 - (mat r).top v.1 v.2 * (mat r).bot w.1 w.2 = (mat r).det * (w.1 * v.2 - v.1 * w.2) := by
    unfold Mx.top Mx.bot Mx.det
    grind
  constructor
  · intro q
    have q2 : 0 < (mat r).det * (w.1 * v.2 - v.1 * w.2) := by
      show 0 < _
      have q : (mat r).top v.1 v.2 * (mat r).bot w.1 w.2 < (mat r).top w.1 w.2 * (mat r).bot v.1 v.2 := q
      omega
    by_cases z : 0 < w.1 * v.2 - v.1 * w.2
    · omega
    · have n := Int.mul_le_mul_of_nonneg_left (show w.1 * v.2 - v.1 * w.2 ≤ 0 by omega) (show 0 ≤ (mat r).det by omega)
      rw [Int.mul_zero] at n
      omega
  · intro q
    have q2 : 0 < (mat r).det * (w.1 * v.2 - v.1 * w.2) := Int.mul_pos d (by omega)
    show (mat r).top v.1 v.2 * (mat r).bot w.1 w.2 < (mat r).top w.1 w.2 * (mat r).bot v.1 v.2
    omega
end K35
set_option maxRecDepth 100000
set_option maxHeartbeats 1000000
namespace K35
open PySem Ev
theorem time_pos : ∀ {r : List Pc} {m : Mx} {t : Int}, (∀ p ∈ r, p.ok) → 0 < t → 0 < (chainM m t r).2
  | [], _, _, _, h => h
  | p :: r, m, t, hr, h => by
    refine time_pos (r := r) (fun q hq => hr q (List.mem_cons_of_mem _ hq)) ?_
    have := (hr p List.mem_cons_self).1
    split
    · exact h
    · exact Int.mul_pos h (by omega)
def frac (x s : Int) : Int × Int := (lowT x s, lowB x s)
theorem frac_mul {x s : Int} (hx : 0 ≤ x) (hs : 0 < s) : ∃ g : Int, 0 < g ∧ g * (frac x s).1 = x ∧ g * (frac x s).2 = s := lowP_mul (v := (x, s)) hx (by show 0 ≤ s; omega) (by show 0 < x + s; omega)
theorem by_numbers_eq {A B C E s p q a0 a1 b0 b1 c0 c1 d0 d1 ga gb gc gd : Int} (h1 : 0 < ga) (h2 : 0 < gb) (h3 : 0 < gc) (h4 : 0 < gd) (hs : 0 < s) (ea : ga * a0 = A) (ea1 : ga * a1 = s) (eb : gb * b0 = B) (eb1 : gb * b1 = s) (ec : gc * c0 = C) (ec1 : gc * c1 = s) (ed : gd * d0 = E) (ed1 : gd * d1 = s) :
    (ga * gb * (gc * gd)) * ((a0 * b1 * p + b0 * a1 * q) * c1 * d1) = s * s * s * (A * p + B * q) ∧ (ga * gb * (gc * gd)) * ((c0 * d1 * p + d0 * c1 * q) * a1 * b1) = s * s * s * (C * p + E * q) := by
  subst ea eb ec ed
  constructor
  · have e : (ga * gb * (gc * gd)) * ((a0 * b1 * p + b0 * a1 * q) * c1 * d1) = ((ga * a0) * (gb * b1) * p + (gb * b0) * (ga * a1) * q) * (gc * c1) * (gd * d1) := by grind
    rw [e, ea1, eb1, ec1, ed1]
    grind
  · have e : (ga * gb * (gc * gd)) * ((c0 * d1 * p + d0 * c1 * q) * a1 * b1) = ((gc * c0) * (gd * d1) * p + (gd * d0) * (gc * c1) * q) * (ga * a1) * (gb * b1) := by grind
    rw [e, ea1, eb1, ec1, ed1]
    grind
end K35
set_option maxRecDepth 100000
set_option maxHeartbeats 1000000
namespace K35
open PySem Ev
theorem ix0 (v : Int × Int) : dIx (pairD v) (.int 0) = M.pure (.int v.1) := ix_tup rfl
theorem ix1 (v : Int × Int) : dIx (pairD v) (.int 1) = M.pure (.int v.2) := ix_tup rfl
theorem frac_sm {x s : Int} (hx : Sm 50 x) (hs : Sm 50 s) (h : 0 < s) : Sm 50 (frac x s).1 ∧ Sm 50 (frac x s).2 := low_sm hx hs (by have := hx.1; omega)
end K35
set_option maxRecDepth 100000
set_option maxHeartbeats 1000000
namespace K35
open PySem Ev
theorem ix_any {ds : List D} {i : Int} {P : D → List Ob → Prop} {S : List Ob} (h0 : 0 ≤ i) (h1 : i < ds.length) (h : ∀ d, d ∈ ds → P d S) : Ev.Run (dIx (.lst ds) (.int i)) S P := by
  have l : i.toNat < ds.length := by omega
  have e : L2.atI ds i = some ds[i.toNat] := by
    unfold L2.atI L2.ixN
    rw [if_pos h0, if_pos h1]
    exact List.getElem?_eq_getElem l
  rw [ix_lst e]
  exact h _ (List.getElem_mem l)
theorem pick_ok (S : List Ob) (n : Nat) (ds : List D) (h : Cup S n) (h0 : 0 < ds.length) (h1 : ds.length ≤ 1000) : Ev.Run (sem__law_pick [.ref n, .lst ds]) S fun d S' => d ∈ ds ∧ Cup S' n := by
  unfold sem__law_pick
  rw [run_fn]
  refine ⟨rfl, ?_⟩
  show RunS pk__law_pick.1 [.val (.ref n), .val (.lst ds)] S _ _ _ _
  unfold pk__law_pick
  simp only [runS_seq, runS_ret, run_bind, run_pure, getv, List.getElem?_cons_zero, List.getElem?_cons_succ, on1, len_lst]
  refine Ev.Run.mono (sip_ok S n ds.length h (by omega) (by omega)) ?_
  rintro d S' ⟨i, rfl, i0, i1, hc⟩
  exact ix_any i0 i1 fun d hd => ⟨hd, hc⟩
section
variable {S : List Ob} {sd : List SV} {N : List SV → List Ob → Prop} {R : D → List Ob → Prop} {B C : List SV → List Ob → Prop}
theorem runS_app {i : Nat} {g : List SV → M D} {ds : List D} (h : sd[i]? = some (.own (.lst ds))) (hl : ds.length < lim) : RunS (appS i g) sd S N R B C ↔ Ev.Run (g sd) S fun d S' => N (sd.set i (.own (.lst (ds ++ [d])))) S' := by
  have e : appS i g sd S = exS g (fun d sd S => some (.next (sd.set i (.own (.lst (ds ++ [d])))), S)) sd S := by
    unfold appS
    rw [h]
    simp only
    rw [if_pos hl]
  have z : RunS (appS i g) sd S N R B C ↔ RunS (exS g (fun d sd S => some (.next (sd.set i (.own (.lst (ds ++ [d])))), S))) sd S N R B C := by
    unfold RunS
    rw [e]
  rw [z, runS_ex]
  exact Iff.rfl
theorem runS_frz {i : Nat} {o : Ob} (h : sd[i]? = some (.own o)) : RunS (frzS i) sd S N R B C ↔ N (sd.set i (.val (frzO o))) S := by
  unfold RunS frzS
  rw [h]
end
def RowL (r : List Pc) : Prop := (∀ p ∈ r, p.ok) ∧ 1 ≤ r.length ∧ r.length ≤ 4
theorem row_draw_m (k : Int) (k0 : 0 < k) (k1 : k ≤ 8) (S : List Ob) (n : Nat) (h : Cup S n) : Ev.Run (sem__law_row [.ref n, .int k]) S fun d S' => ∃ r : List Pc, d = .lst (r.map Pc.D) ∧ (∀ p ∈ r, p.ok) ∧ 1 ≤ r.length ∧ r.length ≤ k.toNat ∧ Cup S' n := by
  unfold sem__law_row
  rw [run_fn]
  refine ⟨rfl, ?_⟩
  show RunS pk__law_row.1 [.val (.ref n), .val (.int k), .no, .no] S _ _ _ _
  unfold pk__law_row
  simp only [runS_seq, runS_own, runS_for, runS_ret, run_bind, run_pure, getv, List.getElem?_cons_zero, List.getElem?_cons_succ, List.set_cons_zero, List.set_cons_succ]
  refine Ev.Run.mono (sip_ok S n k h k0 (by omega)) ?_
  rintro d S1 ⟨m, rfl, m0, m1, h1⟩
  simp only [add_int, run_pure]
  have rg : rng1 [.int (1 + m)] = M.pure (rngD 0 (1 + m).toNat) := by
    show (if -(2 ^ 62) ≤ 1 + m ∧ 1 + m < 2 ^ 62 then M.pure (rngD 0 (1 + m).toNat) else M.stuck) = _
    rw [if_pos (by omega)]
  rw [rg]
  simp only [run_pure]
  refine loop_rule (J := fun ds sd S' => Cup S' n ∧ ∃ (r : List Pc) (u : SV), sd = [.val (.ref n), .val (.int k), .own (.lst (r.map Pc.D)), u] ∧ (∀ p ∈ r, p.ok) ∧ r.length + ds.length = (1 + m).toNat) ?_ ?_ _ _ _ ?_
  · rintro d ds sd S2 ⟨h2, r, u, rfl, ho, hl⟩
    refine ⟨_, _, rfl, ?_⟩
    rw [List.length_cons] at hl
    rw [runS_seq, runS_app (ds := r.map Pc.D) rfl (by rw [List.length_map]; unfold lim; omega)]
    simp only [run_bind, run_pure, getv, List.getElem?_cons_zero, List.getElem?_cons_succ, List.set_cons_zero, List.set_cons_succ]
    refine Ev.Run.mono (pick_ok S2 n _ h2 (by decide) (by decide)) ?_
    rintro w S3 ⟨hw, h3⟩
    refine Ev.Run.mono (sip_ok S3 n 12 h3 (by decide) (by decide)) ?_
    rintro w2 S4 ⟨o, rfl, o0, o1, h4⟩
    simp only [add_int, run_pure, runS_next]
    obtain ⟨b, rfl⟩ : ∃ b : Bool, w = .str (Pc.w ⟨b, 1 + o⟩) := by
      simp only [List.mem_cons, List.mem_nil_iff, or_false] at hw
      rcases hw with rfl | rfl
      · exact ⟨true, rfl⟩
      · exact ⟨false, rfl⟩
    refine ⟨h4, r ++ [⟨b, 1 + o⟩], .val d, ?_, ?_, ?_⟩
    · rw [List.map_append]
      rfl
    · intro p hp
      rcases List.mem_append.mp hp with q | q
      · exact ho p q
      · rw [List.mem_singleton.mp q]
        exact ⟨by show 1 ≤ 1 + o; omega, by show 1 + o ≤ 12; omega⟩
    · rw [List.length_append]
      simp
      omega
  · rintro sd S2 ⟨h2, r, u, rfl, ho, hl⟩
    simp only [List.length_nil] at hl
    rw [runS_frz (o := .lst (r.map Pc.D)) rfl]
    simp only [runS_seq, runS_ret, run_bind, run_pure, getv, List.getElem?_cons_zero, List.getElem?_cons_succ, List.set_cons_zero, List.set_cons_succ, frzO]
    exact ⟨r, rfl, ho, by omega, by omega, h2⟩
  · refine ⟨h1, [], .no, rfl, by simp, ?_⟩
    unfold rngD
    simp
theorem row_draw (S : List Ob) (n : Nat) (h : Cup S n) : Ev.Run (sem__law_row [.ref n, .int 4]) S fun d S' => ∃ r, d = .lst (r.map Pc.D) ∧ RowL r ∧ Cup S' n := by
  refine Ev.Run.mono (row_draw_m 4 (by decide) (by decide) S n h) ?_
  rintro d S' ⟨r, rfl, a, b, c, e⟩
  exact ⟨r, rfl, ⟨a, b, c⟩, e⟩
end K35
set_option maxRecDepth 100000
set_option maxHeartbeats 1000000
namespace K35
open PySem Ev
theorem Sm.log {x : Int} (h : Sm 300 x) : x.natAbs.log2 < 1920 := by
  have a := h.nat
  by_cases z : x.natAbs = 0
  · rw [z]
    decide +kernel
  · have := (Nat.log2_lt z).mpr a
    omega
def pairP (v : Int × Int) : PyData := .tuple [.int v.1, .int v.2]
theorem pair_len {v : Int × Int} (hv : Vec 300 v) : (pairP v).shown.length ≤ 4000 := by
  have a := PyProof.Rows.int_text_len_1921 hv.t.log
  have b := PyProof.Rows.int_text_len_1921 hv.b.log
  have c := tupleText_len_le [Str.ofString (toString v.1), Str.ofString (toString v.2)]
  simp only [List.map_cons, List.map_nil, List.sum_cons, List.sum_nil, List.length_cons, List.length_nil] at c
  show (tupleText [Str.ofString (toString v.1), Str.ofString (toString v.2)]).length ≤ 4000
  omega
theorem pair_show {v : Int × Int} (hv : Vec 300 v) : (pairP v).showable = true := by
  unfold pairP
  simp only [PyData.showable, PyData.showableAll, hv.t.log, hv.b.log, decide_true, Bool.and_true]
theorem repr_pair {v : Int × Int} (hv : Vec 300 v) : ∃ x, dRepr (pairD v) = M.pure (.str x) := by
  refine ⟨(pairP v).shown, ?_⟩
  show (if reprOk (pairP v) = true then M.pure (D.str _) else M.stuck) = _
  refine if_pos ?_
  have l := pair_len hv
  unfold reprOk
  rw [pair_show hv]
  have h1 : (pairP v).hasDict = false := rfl
  have h2 : (pairP v).depth = 1 := rfl
  rw [h1, h2]
  simp only [Bool.not_false, Bool.and_true, Bool.true_and, Bool.and_eq_true, decide_eq_true_eq]
  exact ⟨by decide, by unfold lim; omega⟩
theorem repr_two {v w : Int × Int} (hv : Vec 300 v) (hw : Vec 300 w) : ∃ x, dRepr (.lst [pairD v, pairD w]) = M.pure (.str x) := by
  refine ⟨(PyData.list [pairP v, pairP w]).shown, ?_⟩
  show (if reprOk (PyData.list [pairP v, pairP w]) = true then M.pure (D.str _) else M.stuck) = _
  refine if_pos ?_
  have a := pair_len hv
  have b := pair_len hw
  have c := listText_len_le [(pairP v).shown, (pairP w).shown]
  simp only [List.map_cons, List.map_nil, List.sum_cons, List.sum_nil, List.length_cons, List.length_nil] at c
  have l : (PyData.list [pairP v, pairP w]).shown.length ≤ 9000 := by
    show (listText [(pairP v).shown, (pairP w).shown]).length ≤ 9000
    omega
  have sh : (PyData.list [pairP v, pairP w]).showable = true := by
    simp only [PyData.showable, PyData.showableAll, pair_show hv, pair_show hw, Bool.and_true]
  unfold reprOk
  rw [sh]
  have h1 : (PyData.list [pairP v, pairP w]).hasDict = false := rfl
  have h2 : (PyData.list [pairP v, pairP w]).depth = 2 := rfl
  rw [h1, h2]
  simp only [Bool.not_false, Bool.and_true, Bool.true_and, Bool.and_eq_true, decide_eq_true_eq]
  exact ⟨by decide, by unfold lim; omega⟩
end K35
set_option maxRecDepth 100000
set_option maxHeartbeats 1000000
namespace K35
open PySem Ev
theorem ne_str (x : Str) : dEq true (.str x) (.str x) = M.pure (.bl false) := by
  show M.pure (D.bl (if true then !decide (x = x) else decide (x = x))) = _
  simp
theorem call_pat (r : List Pc) (g : List D → M D) (fa : M (List D)) : callD (tab [(1, g)]) fa (patD r) = M.bind fa fun ds => g (patD r :: ds) := rfl
theorem add_pat (r q : List Pc) (g : List D → M D) : ownBin (tab [(1, g)]) (patD r) (patD q) = g [patD r, patD q] := rfl
theorem is_non : dIs true .non .non = M.pure (.bl false) := rfl
theorem is_tup (ds : List D) : dIs true (.tup ds) .non = M.pure (.bl true) := rfl
theorem ne_bl (x : Bool) : dEq true (.bl x) (.bl x) = M.pure (.bl false) := by cases x <;> rfl
theorem perm2 (a b : D) : perm [0, 1] [a, b] = [a, b] := rfl
end K35
set_option maxRecDepth 100000
set_option maxHeartbeats 1000000
namespace K35
open PySem Ev
theorem ix_scr {ds : List D} {i : Int} {d : D} (h : L2.atI ds i = some d) : dIx (.scr ds) (.int i) = M.pure d := by
  funext S
  show (match L2.atI ds i with | some x => (some (Except.ok x, S) : Option (Except Exn D × List Ob)) | none => none) = _
  rw [h]
  rfl
theorem slice2 (ns : List Int) : dSl (.scr (ns.map D.int)) none (some 2) = M.pure (.lst ((ns.take 2).map D.int)) := by
  show M.pure (D.lst (cutD (ns.map D.int) none (some 2))) = _
  unfold cutD HT.sIx
  simp only [show ¬((2 : Int) < 0) by decide, if_false, List.drop_zero, Nat.sub_zero, List.length_map]
  rw [List.map_take]
  congr 2
  show List.take (min 2 ns.length) _ = _
  rw [← List.length_map (f := D.int), List.take_eq_take_iff]
  omega
theorem cup_ok (S : List Ob) (ns : List Int) (spot : Int) (h0 : 0 ≤ spot) (h1 : spot < 100) (hb : ∀ z ∈ ns, Builtin.Int.intBits z ≤ 1048576) : Wp (sem__law_cup [.scr (ns.map D.int), .int spot]) S fun d S' => d = .ref S.length ∧ Cup S' S.length := by
  have hB : ∀ z ∈ ns, Bd 1048576 z := fun z hz => bd_bits (hb z hz)
  (unfold sem__law_cup; refine Ev.go_fn rfl ?_; unfold pk__law_cup; simp only [Ev.slots, List.map_cons, List.map_nil, List.length_cons, List.length_nil, List.cons_append, List.nil_append, List.replicate, Nat.reduceSub, Nat.reduceAdd])
  refine gs_seq (gs_asg (go_use (P' := fun d S' => S' = S ∧ ∃ z, d = .int z ∧ Bd 1048576 z ∧ ((ns.length : Int) ≤ spot → 0 ≤ z ∧ z < 1000000000)) ?_ ?_))
  · (repeat regstrif_gather)
    simp only [List.length_map]
    refine ite_d (fun c => ?_) (fun c => ?_)
    · (repeat regstrif_gather)
      obtain ⟨m, rfl⟩ : ∃ m : Nat, spot = m := ⟨spot.toNat, by omega⟩
      have hm : m < ns.length := by omega
      refine go_val (r := .int ns[m]) (ix_scr (L2.atI_nat (by rw [List.getElem?_map, List.getElem?_eq_getElem hm]; rfl))) ?_
      exact ⟨rfl, _, rfl, hB _ (List.getElem_mem hm), fun z => by omega⟩
    · (repeat regstrif_gather)
      exact ⟨rfl, _, rfl, (Bd.of64 (by omega) (by omega)).mono (by decide), fun z => by omega⟩
  · rintro d S' ⟨rfl, z, rfl, bz, cz⟩
    refine gs_seq (gs_for (go_use (P' := fun l S2 => S2 = S' ∧ ∃ zs : List Int, l = zs.map D.int ∧ (∀ z ∈ zs, Bd 1048576 z) ∧ (spot < (ns.length : Int) → zs = [])) ?_ ?_))
    · (repeat regstrif_gather)
      simp only [List.length_map]
      refine ite_d (fun c => ?_) (fun c => ?_)
      · (repeat regstrif_gather)
        rw [slice2]
        (repeat regstrif_gather)
        exact ⟨rfl, _, rfl, fun z hz => hB z (List.mem_of_mem_take hz), fun z => by omega⟩
      · (repeat regstrif_gather)
        exact ⟨rfl, [], rfl, fun z hz => (List.not_mem_nil hz).elim, fun _ => rfl⟩
    · rintro l S2 ⟨rfl, zs, rfl, hz, hz0⟩
      refine gs_loop (J := fun ds sd S' => S' = S2 ∧ ∃ (ys : List Int) (u : SV) (z : Int), ds = ys.map D.int ∧ sd = [.val (.scr (ns.map D.int)), .val (.int spot), .val (.int z), u] ∧ (∀ z ∈ ys, Bd 1048576 z) ∧ (spot < (ns.length : Int) → ys = []) ∧ Bd 1048576 z ∧ ((ns.length : Int) ≤ spot → 0 ≤ z ∧ z < 1000000007)) ?_ ?_ _ _ _ ⟨rfl, zs, _, z, rfl, rfl, hz, hz0, bz, fun c => by have := cz c; omega⟩
      · rintro d ds sd S3 ⟨rfl, ys, u, z, e, rfl, hy, hy0, bz, cz⟩
        rcases ys with _ | ⟨y, ys⟩
        · cases e
        cases e
        have c : (ns.length : Int) ≤ spot := by
          by_cases c : (ns.length : Int) ≤ spot
          · exact c
          · exact absurd (hy0 (by omega)) (by simp)
        have := cz c
        refine ⟨_, _, rfl, ?_⟩
        (repeat regstrif_gather)
        have a := Int.emod_nonneg (z * 31 + y) (show (1000000007 : Int) ≠ 0 by decide)
        have b := Int.emod_lt_of_pos (z * 31 + y) (show (0 : Int) < 1000000007 by decide)
        exact ⟨rfl, ys, _, _, rfl, rfl, fun q hq => hy q (List.mem_cons_of_mem _ hq), fun z => by omega, (Bd.of64 (by omega) (by omega)).mono (by decide), fun _ => ⟨a, b⟩⟩
      · rintro sd S3 ⟨rfl, ys, u, z, e, rfl, hy, hy0, bz, cz⟩
        have p18 : dPow (.int 10) (.int 18) = M.pure (.int 1000000000000000000) := by funext S; kernel_rfl
        have b4 : Bd 13 (4099 : Int) := by unfold Bd; decide
        (repeat regstrif_gather)
        have a := Int.emod_nonneg (z * 4099 + 271 * spot + 17) (show (2147483629 : Int) ≠ 0 by decide)
        have b := Int.emod_lt_of_pos (z * 4099 + 271 * spot + 17) (show (0 : Int) < 2147483629 by decide)
        have fin : ∀ w : Int, 0 ≤ w → D.ref S3.length = D.ref S3.length ∧ Cup (S3 ++ [.lst [.int ((z * 4099 + 271 * spot + 17) % 2147483629), .int w]]) S3.length := fun w hw => ⟨rfl, _, _, List.getElem?_concat_length, ⟨a, Int.lt_trans b (by decide)⟩, hw⟩
        refine ite_d (fun c => ?_) (fun c => ?_)
        · (repeat regstrif_gather)
          exact fin _ (by omega)
        · (repeat regstrif_gather)
          rw [p18]
          (repeat regstrif_gather)
          refine ite_d (fun c => ?_) (fun c => ?_)
          · (repeat regstrif_gather)
            exact fin _ (by omega)
          · (repeat regstrif_gather)
            exact fin 0 (by omega)
end K35
set_option maxRecDepth 100000
set_option maxHeartbeats 1000000
namespace K35
open PySem Ev
def scl (r : List Pc) : Int := (chainM one 1 r).2
theorem chain_scl : ∀ (r : List Pc) (m : Mx) (t : Int), (chainM m t r).2 = t * scl r
  | [], m, t => by show t = t * 1; omega
  | p :: r, m, t => by
    have e1 : (chainM m t (p :: r)).2 = (if p.rail then t else t * p.o) * scl r := chain_scl r _ _
    have e2 : scl (p :: r) = (if p.rail then 1 else 1 * p.o) * scl r := chain_scl r _ _
    rw [e1, e2]
    split <;> grind
theorem scl_pos {r : List Pc} (h : ∀ p ∈ r, p.ok) : 0 < scl r := time_pos h (by decide)
theorem det_scl : ∀ {r : List Pc}, (mat r).det = scl r * scl r
  | [] => by decide
  | p :: r => by
    have e2 : scl (p :: r) = (if p.rail then 1 else 1 * p.o) * scl r := chain_scl r _ _
    rw [mat_cons, det_mul, det_scl (r := r), e2]
    obtain ⟨b, o⟩ := p
    cases b with
    | true =>
      have : Mx.det (Pc.m ⟨true, o⟩) = 1 := by show 1 * 1 - o * 0 = 1; omega
      rw [this]
      simp only [if_true]
      grind
    | false =>
      have : Mx.det (Pc.m ⟨false, o⟩) = o * o := by show o * o - 0 * 1 = o * o; omega
      rw [this]
      simp only [Bool.false_eq_true, if_false]
      grind
def qH (m n : Mx) : Int := n.a * m.c - m.a * n.c
def qM (m n : Mx) : Int := n.a * m.d + n.b * m.c - m.a * n.d - m.b * n.c
def qL (m n : Mx) : Int := n.b * m.d - m.b * n.d
def SameN (r q : List Pc) : Prop := (mat r).a * scl q = (mat q).a * scl r ∧ (mat r).b * scl q = (mat q).b * scl r ∧ (mat r).c * scl q = (mat q).c * scl r ∧ (mat r).d * scl q = (mat q).d * scl r
theorem mat_nn {r : List Pc} (h : Row r) : 0 ≤ (mat r).a ∧ 0 ≤ (mat r).b ∧ 0 ≤ (mat r).c ∧ 0 ≤ (mat r).d := ⟨h.sm.1.a.1, h.sm.1.b.1, h.sm.1.c.1, h.sm.1.d.1⟩
theorem ad_pos {m : Mx} (ha : 0 ≤ m.a) (hb : 0 ≤ m.b) (hc : 0 ≤ m.c) (hd : 0 ≤ m.d) (h : 0 < m.det) : 0 < m.a ∧ 0 < m.d := by
  have bc : 0 ≤ m.b * m.c := Int.mul_nonneg hb hc
  have z : 0 < m.a * m.d := by unfold Mx.det at h; omega
  constructor
  · by_cases c : m.a = 0
    · rw [c, Int.zero_mul] at z; omega
    · omega
  · by_cases c : m.d = 0
    · rw [c, Int.mul_zero] at z; omega
    · omega
theorem sq_eq {x y : Int} (hx : 0 ≤ x) (hy : 0 ≤ y) (h : x * x = y * y) : x = y := by
  rcases Int.lt_trichotomy x y with l | l | l
  · have a : x * x ≤ x * y := Int.mul_le_mul_of_nonneg_left (by omega) hx
    have b : x * y < y * y := Int.mul_lt_mul_of_pos_right l (by omega)
    omega
  · exact l
  · have a : y * y ≤ y * x := Int.mul_le_mul_of_nonneg_left (by omega) hy
    have b : y * x < x * x := Int.mul_lt_mul_of_pos_right l (by omega)
    omega
theorem same_iff {r q : List Pc} (hr : Row r) (hq : Row q) : SameN r q ↔ qH (mat r) (mat q) = 0 ∧ qM (mat r) (mat q) = 0 ∧ qL (mat r) (mat q) = 0 := by
  have dr := det_scl (r := r)
  have dq := det_scl (r := q)
  have pr := det_pos hr.1
  have pq := det_pos hq.1
  have sr := scl_pos hr.1
  have sq := scl_pos hq.1
  obtain ⟨a0, b0, c0, d0⟩ := mat_nn hr
  obtain ⟨e0, f0, g0, h0⟩ := mat_nn hq
  obtain ⟨a1, d1⟩ := ad_pos a0 b0 c0 d0 pr
  obtain ⟨e1, h1⟩ := ad_pos e0 f0 g0 h0 pq
  unfold SameN qH qM qL
  unfold Mx.det at dr dq pr pq
  generalize (mat r).a = a at *
  generalize (mat r).b = b at *
  generalize (mat r).c = c at *
  generalize (mat r).d = d at *
  generalize (mat q).a = e at *
  generalize (mat q).b = f at *
  generalize (mat q).c = g at *
  generalize (mat q).d = h at *
  generalize scl r = s at *
  generalize scl q = t at *
  have st : s * t ≠ 0 := Int.mul_ne_zero (by omega) (by omega)
  constructor
  · rintro ⟨x1, x2, x3, x4⟩
    refine ⟨?_, ?_, ?_⟩
    · have : (s * t) * (e * c - a * g) = 0 := by grind
      rcases Int.mul_eq_zero.mp this with z | z
      · exact absurd z st
      · exact z
    · have : (s * t) * (e * d + f * c - a * h - b * g) = 0 := by grind
      rcases Int.mul_eq_zero.mp this with z | z
      · exact absurd z st
      · exact z
    · have : (s * t) * (f * d - b * h) = 0 := by grind
      rcases Int.mul_eq_zero.mp this with z | z
      · exact absurd z st
      · exact z
  · rintro ⟨y1, y2, y3⟩
    have y4 : (e * d - a * h) * (e * h - f * g) = 0 := by grind
    have y5 : e * d = a * h := by
      rcases Int.mul_eq_zero.mp y4 with z | z
      · omega
      · omega
    have y6 : b * g = f * c := by omega
    have z1 : a * t = e * s := by
      refine sq_eq (Int.mul_nonneg (by omega) (by omega)) (Int.mul_nonneg (by omega) (by omega)) ?_
      have u : a * t * (a * t) = a * a * (t * t) := by grind
      have v : e * s * (e * s) = e * e * (s * s) := by grind
      rw [u, v, ← dr, ← dq]
      grind
    have z4 : d * t = h * s := by
      have : e * (d * t - h * s) = 0 := by grind
      rcases Int.mul_eq_zero.mp this with z | z
      · omega
      · omega
    refine ⟨z1, ?_, ?_, z4⟩
    · have : h * (b * t - f * s) = 0 := by grind
      rcases Int.mul_eq_zero.mp this with z | z
      · omega
      · omega
    · have : e * (c * t - g * s) = 0 := by grind
      rcases Int.mul_eq_zero.mp this with z | z
      · omega
      · omega
theorem frac_iff {x s y t : Int} (hx : 0 ≤ x) (hs : 0 < s) (hy : 0 ≤ y) (ht : 0 < t) : frac x s = frac y t ↔ x * t = y * s := by
  constructor
  · intro e
    obtain ⟨g, g0, a, b⟩ := frac_mul hx hs
    obtain ⟨h, h0, c, d⟩ := frac_mul hy ht
    rw [← a, ← b, ← c, ← d, e]
    grind
  · intro e
    obtain ⟨a, b⟩ := low_cross hx (show 0 ≤ s by omega) (by omega) hy (show 0 ≤ t by omega) (by omega) e
    unfold frac
    rw [a, b]
def quad (m n : Mx) (v : Int × Int) : Int := qH m n * (v.1 * v.1) + qM m n * (v.1 * v.2) + qL m n * (v.2 * v.2)
theorem quad_eq (m n : Mx) (v : Int × Int) : quad m n v = n.top v.1 v.2 * m.bot v.1 v.2 - m.top v.1 v.2 * n.bot v.1 v.2 := by
  unfold quad qH qM qL Mx.top Mx.bot
  grind
theorem quad_low (m n : Mx) {v : Int × Int} (ht : 0 ≤ v.1) (hb : 0 ≤ v.2) (hp : 0 < v.1 + v.2) : quad m n (lowP v) < 0 ↔ quad m n v < 0 := by
  obtain ⟨g, g0, a, b⟩ := lowP_mul ht hb hp
  have e : quad m n v = g * g * quad m n (lowP v) := by
    unfold quad
    rw [← a, ← b]
    grind
  have gg : 0 < g * g := Int.mul_pos g0 g0
  rw [e]
  constructor
  · intro z
    have := Int.mul_lt_mul_of_pos_left z gg
    omega
  · intro z
    rcases Int.lt_or_le (quad m n (lowP v)) 0 with l | l
    · exact l
    · have := Int.mul_nonneg (show 0 ≤ g * g by omega) l
      omega
theorem front_low {r : List Pc} (h : Row r) {v : Int × Int} (hv : Vec 100 v) : lowP (frontV r v) = lowP ((mat r).top v.1 v.2, (mat r).bot v.1 v.2) := (shows_front h hv).symm
theorem quad_below {r q : List Pc} (hr : Row r) (hq : Row q) {v : Int × Int} (hv : Vec 100 v) : ((lowP (frontV q v)).1 * (lowP (frontV r v)).2 < (lowP (frontV r v)).1 * (lowP (frontV q v)).2) ↔ quad (mat r) (mat q) v < 0 := by
  obtain ⟨z1, _⟩ := mat_vec hr.1 hv
  obtain ⟨z2, _⟩ := mat_vec hq.1 hv
  obtain ⟨g, g0, a1, a2⟩ := lowP_mul z1.t.1 z1.b.1 z1.p
  obtain ⟨h, h0, b1, b2⟩ := lowP_mul z2.t.1 z2.b.1 z2.p
  rw [front_low hr hv, front_low hq hv, ← below_iff h0 g0, a1, a2, b1, b2, quad_eq]
  dsimp only
  constructor <;> intro z <;> omega
theorem front_eq {r q : List Pc} (hr : Row r) (hq : Row q) {v : Int × Int} (hv : Vec 100 v) : lowP (frontV r v) = lowP (frontV q v) ↔ quad (mat r) (mat q) v = 0 := by
  obtain ⟨z1, _⟩ := mat_vec hr.1 hv
  obtain ⟨z2, _⟩ := mat_vec hq.1 hv
  rw [front_low hr hv, front_low hq hv, quad_eq]
  constructor
  · intro e
    obtain ⟨g, g0, a1, a2⟩ := lowP_mul z1.t.1 z1.b.1 z1.p
    obtain ⟨h, h0, b1, b2⟩ := lowP_mul z2.t.1 z2.b.1 z2.p
    have a1 : g * (lowP ((mat r).top v.1 v.2, (mat r).bot v.1 v.2)).1 = (mat r).top v.1 v.2 := a1
    have a2 : g * (lowP ((mat r).top v.1 v.2, (mat r).bot v.1 v.2)).2 = (mat r).bot v.1 v.2 := a2
    have b1 : h * (lowP ((mat q).top v.1 v.2, (mat q).bot v.1 v.2)).1 = (mat q).top v.1 v.2 := b1
    have b2 : h * (lowP ((mat q).top v.1 v.2, (mat q).bot v.1 v.2)).2 = (mat q).bot v.1 v.2 := b2
    rw [← a1, ← a2, ← b1, ← b2, e]
    grind
  · intro e
    obtain ⟨x, y⟩ := low_cross z1.t.1 z1.b.1 z1.p z2.t.1 z2.b.1 z2.p (by dsimp only; omega)
    unfold lowP
    rw [x, y]
theorem bd_sm {k : Nat} {x : Int} (h : Sm k x) : Bd k x := .mk h.nat
theorem Row.sm41 {r : List Pc} (h : Row r) : (mat r).S 41 ∧ Sm 41 (scl r) := by
  obtain ⟨a, b⟩ := chain_sm r one 1 1 h.1 one_sm ⟨by decide, by decide⟩
  have l := h.2
  exact ⟨a.mono (by omega), b.mono (by omega)⟩
end K35
set_option maxRecDepth 100000
set_option maxHeartbeats 1000000
namespace K35
open PySem Ev
def RowN (r : List Pc) : Prop := (∀ p ∈ r, p.ok) ∧ 1 ≤ r.length ∧ r.length ≤ 8
theorem RowN.row {r : List Pc} (h : RowN r) : Row r := ⟨h.1, h.2.2⟩
theorem RowN.ne {r : List Pc} (h : RowN r) : r ≠ [] := by
  intro e
  have := h.2.1
  rw [e] at this
  simp at this
theorem sip_wp {S : List Ob} {n : Nat} {many : Int} {P : D → List Ob → Prop} (h : Cup S n) (hm : 0 < many) (hm2 : many ≤ 1000) (q : ∀ r S', 0 ≤ r → r < many → Cup S' n → P (.int r) S') : Wp (sem__law_sip [.ref n, .int many]) S P :=
  ((sip_ok S n many h hm hm2).mono fun d S' z => by obtain ⟨r, rfl, a, b, c⟩ := z; exact q r S' a b c).wp
theorem row_wp {S : List Ob} {n : Nat} {k : Int} {P : D → List Ob → Prop} (h : Cup S n) (k0 : 0 < k) (k1 : k ≤ 8) (q : ∀ r S', RowN r → (r.length : Int) ≤ k → Cup S' n → P (.lst (r.map Pc.D)) S') : Wp (sem__law_row [.ref n, .int k]) S P :=
  ((row_draw_m k k0 k1 S n h).mono fun d S' z => by obtain ⟨r, rfl, a, b, c, e⟩ := z; exact q r S' ⟨a, b, by omega⟩ (by omega) e).wp
theorem at_row {r : List Pc} {i : Int} (h0 : 0 ≤ i) (h1 : i < r.length) : ∃ p ∈ r, L2.atI (r.map Pc.D) i = some (Pc.D p) := by
  obtain ⟨m, rfl⟩ : ∃ m : Nat, i = m := ⟨i.toNat, by omega⟩
  have hm : m < r.length := by omega
  exact ⟨r[m], List.getElem_mem hm, L2.atI_nat (by rw [List.getElem?_map, List.getElem?_eq_getElem hm]; rfl)⟩
end K35
set_option maxRecDepth 100000
set_option maxHeartbeats 1000000
namespace K35
open PySem Ev
theorem go_filter {α : Type} {f g : α → D} {p : α → Bool} {t : TgP} {tt : List SV → M Bool} {fe : List SV → M D} {sdw : List SV} {S : List Ob} {P : List D → List Ob → Prop} (xs : List α)
    (step : ∀ x ∈ xs, ∃ sd1, t (f x) sdw = some sd1 ∧ tt sd1 = M.pure (p x) ∧ (p x = true → fe sd1 = M.pure (g x))) (l : xs.length ≤ lim) (h : P ((xs.filter p).map g) S) : Wp (compS t tt fe sdw (xs.map f) []) S P := by
  refine go_comp (J := fun ds acc S' => S' = S ∧ ∃ ys : List α, ds = ys.map f ∧ (∀ y ∈ ys, y ∈ xs) ∧ acc.length + ys.length ≤ lim ∧ acc ++ (ys.filter p).map g = (xs.filter p).map g) ?_ ?_ _ _ _ ⟨rfl, xs, rfl, fun _ h => h, by simpa using l, rfl⟩
  · rintro d ds acc S' ⟨rfl, ys, e, hm, hl, he⟩
    rcases ys with _ | ⟨y, ys⟩
    · cases e
    rw [List.map_cons] at e
    cases e
    obtain ⟨sd1, e1, e2, e3⟩ := step y (hm y List.mem_cons_self)
    rw [List.length_cons] at hl
    refine ⟨sd1, e1, by omega, go_val e2 ?_⟩
    cases hp : p y with
    | false =>
      rw [if_neg (by simp)]
      rw [List.filter_cons_of_neg (by simp [hp])] at he
      exact ⟨rfl, ys, rfl, fun z hz => hm z (List.mem_cons_of_mem _ hz), by omega, he⟩
    | true =>
      rw [if_pos rfl]
      rw [List.filter_cons_of_pos hp, List.map_cons] at he
      refine go_val (e3 hp) ⟨rfl, ys, rfl, fun z hz => hm z (List.mem_cons_of_mem _ hz), ?_, ?_⟩
      · rw [List.length_append, List.length_singleton]; omega
      · rw [List.append_assoc]; exact he
  · rintro acc S' ⟨rfl, ys, e, hm, hl, he⟩
    rcases ys with _ | ⟨y, ys⟩
    · rw [← he] at h
      simpa using h
    · cases e
theorem front_vec3 {r : List Pc} (h : Row r) {v : Int × Int} (hv : Vec 100 v) : Vec 300 (lowP (frontV r v)) := by
  have f := front_vec h.1 hv
  have l := h.2
  have lo := low_sm f.t f.b f.p
  exact ⟨lo.1.mono (by omega), lo.2.mono (by omega), low_pos f.t.1 f.b.1 f.p⟩
theorem eq_nil (l : List (Int × Int)) : dEq false (.lst (l.map pairD)) (.lst []) = M.pure (.bl (decide (l = []))) := by
  have h : Pln 2 (.lst (l.map pairD)) (.list (l.map fun v => PyData.tuple [.int v.1, .int v.2])) := pln_lst (pll_map fun v _ => pln_tup (pll_cons pln_int (pll_cons pln_int pll_nil)))
  refine eq_pln false h (pln_lst pll_nil) (by decide) (by decide) (P := l = []) ?_ rfl
  constructor
  · intro e
    cases l with
    | nil => rfl
    | cons x xs => simp at e
  · rintro rfl
    rfl
theorem vec_shw {k : Nat} {v : Int × Int} (h : Vec k v) (hk : k ≤ 1900) : Shw 1 4000 (pairD v) :=
  (shw_tup (shl_cons (shw_int (bd_sm h.t) (by omega)) (shl_cons (shw_int (bd_sm h.b) (by omega)) shl_nil))).mono (by decide) (by decide)
end K35
set_option maxRecDepth 100000
set_option maxHeartbeats 1000000
namespace K35
open PySem Ev
def nums (r : List Pc) : D := .tup [pairD (frac (mat r).a (scl r)), pairD (frac (mat r).b (scl r)), pairD (frac (mat r).c (scl r)), pairD (frac (mat r).d (scl r))]
def pairQ (v : Int × Int) : PyData := .tuple [.int v.1, .int v.2]
theorem pairQ_inj {v w : Int × Int} : pairQ v = pairQ w ↔ v = w := by
  obtain ⟨a, b⟩ := v
  obtain ⟨c, d⟩ := w
  simp [pairQ]
theorem nums_eq (neg : Bool) {r q : List Pc} (hr : Row r) (hq : Row q) [Decidable (SameN r q)] : dEq neg (nums r) (nums q) = M.pure (.bl (if neg then !decide (SameN r q) else decide (SameN r q))) := by
  have pp : ∀ v : Int × Int, Pln 1 (pairD v) (pairQ v) := fun v => pln_tup (pll_cons pln_int (pll_cons pln_int pll_nil))
  have sr := scl_pos hr.1
  have sq := scl_pos hq.1
  obtain ⟨a0, b0, c0, d0⟩ := mat_nn hr
  obtain ⟨e0, f0, g0, h0⟩ := mat_nn hq
  refine eq_pln neg (pln_tup (pll_cons (pp _) (pll_cons (pp _) (pll_cons (pp _) (pll_cons (pp _) pll_nil))))) (pln_tup (pll_cons (pp _) (pll_cons (pp _) (pll_cons (pp _) (pll_cons (pp _) pll_nil))))) (by decide) (by decide) (P := SameN r q) ?_ rfl
  simp only [PyData.tuple.injEq, List.cons.injEq, and_true, pairQ_inj]
  rw [frac_iff a0 sr e0 sq, frac_iff b0 sr f0 sq, frac_iff c0 sr g0 sq, frac_iff d0 sr h0 sq]
  exact Iff.rfl
instance (r q : List Pc) : Decidable (SameN r q) := by unfold SameN; exact inferInstance
end K35
set_option maxRecDepth 100000
set_option maxHeartbeats 1000000
namespace K35
open PySem Ev
abbrev Fp := Bool × (Int × Int)
def Fp.w (x : Fp) : Str := if x.1 then "rail" else "rung"
def Fp.D (x : Fp) : Ev.D := .tup [.str (Fp.w x), pairD x.2]
def stepQ (x : Fp) (v : Int × Int) : Int × Int := if x.1 then (x.2.2 * v.1 + x.2.1 * v.2, x.2.2 * v.2) else (x.2.1 * v.1, x.2.1 * v.2 + x.2.2 * v.1)
def Ra (v w : Int × Int) : Prop := v.1 * w.2 = w.1 * v.2
def Nz (v : Int × Int) : Prop := 0 ≤ v.1 ∧ 0 ≤ v.2 ∧ 0 < v.1 + v.2
theorem lowP_ra {v w : Int × Int} (hv : Nz v) (hw : Nz w) : lowP v = lowP w ↔ Ra v w := by
  constructor
  · intro e
    obtain ⟨g, g0, a, b⟩ := lowP_mul hv.1 hv.2.1 hv.2.2
    obtain ⟨h, h0, c, d⟩ := lowP_mul hw.1 hw.2.1 hw.2.2
    unfold Ra
    rw [← a, ← b, ← c, ← d, e]
    grind
  · intro e
    obtain ⟨a, b⟩ := low_cross hv.1 hv.2.1 hv.2.2 hw.1 hw.2.1 hw.2.2 e
    unfold lowP
    rw [a, b]
theorem Ra.refl (v : Int × Int) : Ra v v := rfl
theorem Ra.symm {v w : Int × Int} (h : Ra v w) : Ra w v := Eq.symm h
theorem Ra.trans {u v w : Int × Int} (hu : Nz u) (hv : Nz v) (hw : Nz w) (h : Ra u v) (l : Ra v w) : Ra u w :=
  (lowP_ra hu hw).mp (((lowP_ra hu hv).mpr h).trans ((lowP_ra hv hw).mpr l))
theorem low_ra {v : Int × Int} (h : Nz v) : Ra (lowP v) v := by
  obtain ⟨g, g0, a, b⟩ := lowP_mul h.1 h.2.1 h.2.2
  unfold Ra
  grind
theorem low_nz {v : Int × Int} (h : Nz v) : Nz (lowP v) := by
  obtain ⟨g, g0, a, b⟩ := lowP_mul h.1 h.2.1 h.2.2
  have p := low_pos h.1 h.2.1 h.2.2
  refine ⟨?_, ?_, p⟩
  · rcases Int.lt_or_le (lowP v).1 0 with z | z
    · have := Int.mul_neg_of_pos_of_neg g0 z
      have := h.1
      omega
    · exact z
  · rcases Int.lt_or_le (lowP v).2 0 with z | z
    · have := Int.mul_neg_of_pos_of_neg g0 z
      have := h.2.1
      omega
    · exact z
def Fok (x : Fp) : Prop := 0 ≤ x.2.1 ∧ 0 ≤ x.2.2 ∧ (if x.1 then 0 < x.2.2 else 0 < x.2.1)
theorem Fok.nz {x : Fp} (h : Fok x) : Nz x.2 := by
  obtain ⟨b, p, q⟩ := x
  obtain ⟨h1, h2, h3⟩ := h
  cases b <;> (simp at h1 h2 h3; refine ⟨h1, h2, ?_⟩; show 0 < p + q; omega)
theorem step_nz {x : Fp} {v : Int × Int} (hx : Fok x) (hv : Nz v) : Nz (stepQ x v) := by
  obtain ⟨b, p, q⟩ := x
  obtain ⟨t, s⟩ := v
  obtain ⟨h1, h2, h3⟩ := hx
  obtain ⟨t0, s0, ts⟩ := hv
  simp at h1 h2 t0 s0 ts
  have a := Int.mul_nonneg h2 t0
  have b' := Int.mul_nonneg h1 s0
  have c := Int.mul_nonneg h2 s0
  have d := Int.mul_nonneg h1 t0
  cases b with
  | true =>
    have h3 : 0 < q := h3
    refine ⟨by show 0 ≤ q * t + p * s; omega, by show 0 ≤ q * s; omega, ?_⟩
    show 0 < q * t + p * s + q * s
    have := Int.mul_pos h3 ts
    have e : q * (t + s) = q * t + q * s := by grind
    omega
  | false =>
    have h3 : 0 < p := h3
    refine ⟨by show 0 ≤ p * t; omega, by show 0 ≤ p * s + q * t; omega, ?_⟩
    show 0 < p * t + (p * s + q * t)
    have := Int.mul_pos h3 ts
    have e : p * (t + s) = p * t + p * s := by grind
    omega
theorem step_ra {x y : Fp} {v w : Int × Int} (hb : x.1 = y.1) (hx : Fok x) (hy : Fok y) (hv : Nz v) (hw : Nz w) (h : Ra x.2 y.2) (l : Ra v w) : Ra (stepQ x v) (stepQ y w) := by
  obtain ⟨b, p, q⟩ := x
  obtain ⟨b', p', q'⟩ := y
  obtain ⟨t, s⟩ := v
  obtain ⟨t', s'⟩ := w
  cases hb
  have h : p * q' = p' * q := h
  have l : t * s' = t' * s := l
  cases b with
  | true =>
    show (q * t + p * s) * (q' * s') = (q' * t' + p' * s') * (q * s)
    grind
  | false =>
    show (p * t) * (p' * s' + q' * t') = (p' * t') * (p * s + q * t)
    grind
def Out (x : Fp) : Prop := if x.1 then x.2.1 = 0 else x.2.2 = 0
theorem step_out {x : Fp} {v : Int × Int} (h : Out x) : Ra (stepQ x v) v := by
  obtain ⟨b, p, q⟩ := x
  obtain ⟨t, s⟩ := v
  cases b with
  | true =>
    have h : p = 0 := h
    subst h
    show (q * t + 0 * s) * s = t * (q * s)
    grind
  | false =>
    have h : q = 0 := h
    subst h
    show (p * t) * s = t * (p * s + 0 * t)
    grind
def goQ (l : List Fp) (v : Int × Int) : Int × Int := l.foldr stepQ v
theorem go_nz : ∀ {l : List Fp} {v : Int × Int}, (∀ x ∈ l, Fok x) → Nz v → Nz (goQ l v)
  | [], _, _, h => h
  | x :: l, v, hl, h => step_nz (hl x List.mem_cons_self) (go_nz (l := l) (fun y hy => hl y (List.mem_cons_of_mem _ hy)) h)
def lowF (x : Fp) : Fp := (x.1, lowP x.2)
def keep (x : Fp) : Bool := decide (0 < x.2.1) && decide (0 < x.2.2)
theorem low_fok {x : Fp} (h : Fok x) : Fok (lowF x) := by
  have n := h.nz
  obtain ⟨g, g0, a, b⟩ := lowP_mul n.1 n.2.1 n.2.2
  obtain ⟨n1, n2, n3⟩ := low_nz n
  refine ⟨n1, n2, ?_⟩
  obtain ⟨c, p, q⟩ := x
  have z : ∀ y : Int, 0 ≤ y → 0 < g * y → 0 < y := fun y h l => by
    rcases Int.lt_or_le 0 y with z | z
    · exact z
    · have : y = 0 := by omega
      rw [this, Int.mul_zero] at l
      omega
  cases c with
  | true => exact z _ n2 (by have b : g * (lowP (p, q)).2 = q := b; have : 0 < q := h.2.2; show 0 < g * (lowP (p, q)).2; omega)
  | false => exact z _ n1 (by have a : g * (lowP (p, q)).1 = p := a; have : 0 < p := h.2.2; show 0 < g * (lowP (p, q)).1; omega)
theorem out_of {x : Fp} (h : Fok x) (k : keep (lowF x) = false) : Out (lowF x) := by
  have f := low_fok h
  obtain ⟨c, p, q⟩ := x
  unfold keep at k
  rw [Bool.and_eq_false_iff, decide_eq_false_iff_not, decide_eq_false_iff_not] at k
  obtain ⟨f1, f2, f3⟩ := f
  cases c with
  | true =>
    have f3 : 0 < (lowP (p, q)).2 := f3
    have f1 : 0 ≤ (lowP (p, q)).1 := f1
    show (lowP (p, q)).1 = 0
    rcases k with k | k
    · have k : ¬ 0 < (lowP (p, q)).1 := k
      omega
    · exact absurd f3 k
  | false =>
    have f3 : 0 < (lowP (p, q)).1 := f3
    have f2 : 0 ≤ (lowP (p, q)).2 := f2
    show (lowP (p, q)).2 = 0
    rcases k with k | k
    · exact absurd f3 k
    · have k : ¬ 0 < (lowP (p, q)).2 := k
      omega
theorem go_low : ∀ {l : List Fp} {v : Int × Int}, (∀ x ∈ l, Fok x) → Nz v → Ra (goQ ((l.map lowF).filter keep) v) (goQ l v)
  | [], v, _, _ => Ra.refl v
  | x :: l, v, hl, h => by
    have hx := hl x List.mem_cons_self
    have hl2 : ∀ y ∈ l, Fok y := fun y hy => hl y (List.mem_cons_of_mem _ hy)
    have ih := go_low (l := l) hl2 h
    have n1 := go_nz (l := l) hl2 h
    have n2 : Nz (goQ ((l.map lowF).filter keep) v) := go_nz (fun y hy => by
      obtain ⟨z, hz, rfl⟩ := List.mem_map.mp (List.mem_filter.mp hy).1
      exact low_fok (hl2 z hz)) h
    have st : Ra (stepQ (lowF x) (goQ ((l.map lowF).filter keep) v)) (stepQ x (goQ l v)) := step_ra rfl (low_fok hx) hx n2 n1 (low_ra hx.nz) ih
    rw [List.map_cons]
    cases k : keep (lowF x) with
    | true =>
      rw [List.filter_cons_of_pos k]
      exact st
    | false =>
      rw [List.filter_cons_of_neg (by simp [k])]
      have o := step_out (v := goQ ((l.map lowF).filter keep) v) (out_of hx k)
      exact Ra.trans n2 (step_nz (low_fok hx) n2) (step_nz hx n1) o.symm st
theorem ad_ge : ∀ {r : List Pc}, (∀ p ∈ r, p.ok) → scl r ≤ (mat r).a ∧ scl r ≤ (mat r).d ∧ 0 ≤ (mat r).b ∧ 0 ≤ (mat r).c ∧ 0 < scl r
  | [], _ => by decide
  | p :: r, h => by
    obtain ⟨i1, i2, i3, i4, i5⟩ := ad_ge (r := r) fun q hq => h q (List.mem_cons_of_mem _ hq)
    have hp := h p List.mem_cons_self
    have e2 : scl (p :: r) = (if p.rail then 1 else 1 * p.o) * scl r := chain_scl r _ _
    obtain ⟨b, o⟩ := p
    have o1 : 1 ≤ o := hp.1
    rw [mat_cons, e2]
    cases b with
    | true =>
      have oc := Int.mul_nonneg (show 0 ≤ o by omega) i4
      have od := Int.mul_nonneg (show 0 ≤ o by omega) (show 0 ≤ (mat r).d by omega)
      simp only [Mx.mul, Pc.m, if_true]
      omega
    | false =>
      have oa := Int.mul_le_mul_of_nonneg_left i1 (show 0 ≤ o by omega)
      have od := Int.mul_le_mul_of_nonneg_left i2 (show 0 ≤ o by omega)
      have ob := Int.mul_nonneg (show 0 ≤ o by omega) i3
      have oc := Int.mul_nonneg (show 0 ≤ o by omega) i4
      have os := Int.mul_pos (show 0 < o by omega) i5
      simp only [Mx.mul, Pc.m, Bool.false_eq_true, if_false, Int.one_mul]
      omega
theorem bc_pos {r : List Pc} (h : ∀ p ∈ r, p.ok) (ne : r ≠ []) : 0 < (mat r).b + (mat r).c := by
  rcases r with _ | ⟨p, r⟩
  · exact absurd rfl ne
  obtain ⟨i1, i2, i3, i4, i5⟩ := ad_ge (r := r) fun q hq => h q (List.mem_cons_of_mem _ hq)
  have hp := h p List.mem_cons_self
  obtain ⟨b, o⟩ := p
  have o1 : 1 ≤ o := hp.1
  rw [mat_cons]
  have oa := Int.mul_pos (show 0 < o by omega) (show 0 < (mat r).a by omega)
  have od := Int.mul_pos (show 0 < o by omega) (show 0 < (mat r).d by omega)
  have ob := Int.mul_nonneg (show 0 ≤ o by omega) i3
  have oc := Int.mul_nonneg (show 0 ≤ o by omega) i4
  cases b with
  | true =>
    simp only [Mx.mul, Pc.m, if_true]
    omega
  | false =>
    simp only [Mx.mul, Pc.m, Bool.false_eq_true, if_false]
    omega
def starQ (m : Mx) (s : Int) : List Fp := if m.c = 0 then [(true, (m.b, s))] else [(true, (m.a - s, m.c)), (false, (s, m.c)), (true, (m.d - s, m.c))]
def ringQ (m : Mx) (s : Int) : List Fp := if m.b = 0 then [(false, (s, m.c))] else [(false, (m.b, m.d - s)), (true, (m.b, s)), (false, (m.b, m.a - s))]
structure Good (m : Mx) (s : Int) : Prop where
  a : s ≤ m.a
  d : s ≤ m.d
  b : 0 ≤ m.b
  c : 0 ≤ m.c
  s0 : 0 < s
  bc : 0 < m.b + m.c
  e : m.a * m.d - m.b * m.c = s * s
theorem good_of {r : List Pc} (h : ∀ p ∈ r, p.ok) (ne : r ≠ []) : Good (mat r) (scl r) := by
  obtain ⟨i1, i2, i3, i4, i5⟩ := ad_ge h
  exact ⟨i1, i2, i3, i4, i5, bc_pos h ne, det_scl⟩
theorem star_fok {m : Mx} {s : Int} (g : Good m s) : ∀ x ∈ starQ m s, Fok x := by
  obtain ⟨a, d, b, c, s0, bc, e⟩ := g
  intro x hx
  unfold starQ at hx
  split at hx
  · rw [List.mem_singleton.mp hx]
    exact ⟨b, by show 0 ≤ s; omega, s0⟩
  · simp only [List.mem_cons, List.mem_nil_iff, or_false] at hx
    rcases hx with rfl | rfl | rfl
    · exact ⟨by show 0 ≤ m.a - s; omega, c, by show 0 < m.c; omega⟩
    · exact ⟨by show 0 ≤ s; omega, c, s0⟩
    · exact ⟨by show 0 ≤ m.d - s; omega, c, by show 0 < m.c; omega⟩
theorem ring_fok {m : Mx} {s : Int} (g : Good m s) : ∀ x ∈ ringQ m s, Fok x := by
  obtain ⟨a, d, b, c, s0, bc, e⟩ := g
  intro x hx
  unfold ringQ at hx
  split at hx
  · rw [List.mem_singleton.mp hx]
    exact ⟨by show 0 ≤ s; omega, c, s0⟩
  · simp only [List.mem_cons, List.mem_nil_iff, or_false] at hx
    rcases hx with rfl | rfl | rfl
    · exact ⟨b, by show 0 ≤ m.d - s; omega, by show 0 < m.b; omega⟩
    · exact ⟨b, by show 0 ≤ s; omega, s0⟩
    · exact ⟨b, by show 0 ≤ m.a - s; omega, by show 0 < m.b; omega⟩
theorem rails_eq {m : Mx} {s : Int} (g : Good m s) (h : m.b = 0 ∨ m.c = 0) : m.a = s ∧ m.d = s := by
  obtain ⟨a, d, b, c, s0, bc, e⟩ := g
  have z : m.b * m.c = 0 := by
    rcases h with h | h
    · rw [h, Int.zero_mul]
    · rw [h, Int.mul_zero]
  have e : m.a * m.d = s * s := by omega
  have l1 : s * m.d ≤ m.a * m.d := Int.mul_le_mul_of_nonneg_right a (by omega)
  have l2 : s * s ≤ s * m.d := Int.mul_le_mul_of_nonneg_left d (by omega)
  have e1 : s * (m.d - s) = 0 := by
    have : s * (m.d - s) = s * m.d - s * s := by grind
    omega
  have dd : m.d = s := by
    rcases Int.mul_eq_zero.mp e1 with z | z <;> omega
  refine ⟨?_, dd⟩
  rw [dd] at e
  have e2 : s * (m.a - s) = 0 := by grind
  rcases Int.mul_eq_zero.mp e2 with z | z <;> omega
theorem star_ra {m : Mx} {s : Int} (g : Good m s) (v : Int × Int) : Ra (goQ (starQ m s) v) (m.top v.1 v.2, m.bot v.1 v.2) := by
  obtain ⟨t, u⟩ := v
  have e := g.e
  unfold starQ
  by_cases cz : m.c = 0
  · obtain ⟨a, d⟩ := rails_eq g (.inr cz)
    rw [if_pos cz]
    show (s * t + m.b * u) * (m.c * t + m.d * u) = (m.a * t + m.b * u) * (s * u)
    rw [cz, a, d]
    grind
  · rw [if_neg cz]
    show (m.c * (s * (m.c * t + (m.d - s) * u)) + (m.a - s) * (s * (m.c * u) + m.c * (m.c * t + (m.d - s) * u))) * (m.c * t + m.d * u) = (m.a * t + m.b * u) * (m.c * (s * (m.c * u) + m.c * (m.c * t + (m.d - s) * u)))
    generalize m.a = a at *
    generalize m.b = b at *
    generalize m.c = c at *
    generalize m.d = d at *
    have e1 : c * (s * (c * t + (d - s) * u)) + (a - s) * (s * (c * u) + c * (c * t + (d - s) * u)) = c * c * (a * t + b * u) := by
      have : b * c = a * d - s * s := by omega
      grind
    have e2 : c * (s * (c * u) + c * (c * t + (d - s) * u)) = c * c * (c * t + d * u) := by grind
    rw [e1, e2]
    grind
theorem ring_ra {m : Mx} {s : Int} (g : Good m s) (v : Int × Int) : Ra (goQ (ringQ m s) v) (m.top v.1 v.2, m.bot v.1 v.2) := by
  obtain ⟨t, u⟩ := v
  have e := g.e
  unfold ringQ
  by_cases cz : m.b = 0
  · obtain ⟨a, d⟩ := rails_eq g (.inl cz)
    rw [if_pos cz]
    show (s * t) * (m.c * t + m.d * u) = (m.a * t + m.b * u) * (s * u + m.c * t)
    rw [cz, a, d]
    grind
  · rw [if_neg cz]
    show (m.b * (s * (m.b * t) + m.b * (m.b * u + (m.a - s) * t))) * (m.c * t + m.d * u) = (m.a * t + m.b * u) * (m.b * (s * (m.b * u + (m.a - s) * t)) + (m.d - s) * (s * (m.b * t) + m.b * (m.b * u + (m.a - s) * t)))
    generalize m.a = a at *
    generalize m.b = b at *
    generalize m.c = c at *
    generalize m.d = d at *
    have e1 : b * (s * (b * t) + b * (b * u + (a - s) * t)) = b * b * (a * t + b * u) := by grind
    have e2 : b * (s * (b * u + (a - s) * t)) + (d - s) * (s * (b * t) + b * (b * u + (a - s) * t)) = b * b * (c * t + d * u) := by
      have : b * c = a * d - s * s := by omega
      grind
    rw [e1, e2]
    grind
end K35
set_option maxRecDepth 100000
set_option maxHeartbeats 1000000
namespace K35
open PySem Ev
theorem row_of_ok (l : List Fp) (hl : l.length ≤ 8) : sem_row_of (l.map Fp.D) = M.pure (.tup ((l.filter keep).map Fp.D)) := by
  refine pure_wp fun S => ?_
  unfold sem_row_of
  refine go_star0 (by rw [List.length_map]; unfold lim; omega) ?_
  unfold pk_row_of
  simp only [Ev.slots, List.map_cons, List.map_nil, List.length_cons, List.length_nil, List.cons_append, List.nil_append, List.replicate, Nat.reduceSub, Nat.reduceAdd]
  (repeat regstrif_gather)
  refine go_filter (p := keep) (f := Fp.D) (g := Fp.D) l ?_ (by unfold lim; omega) ?_
  · intro x hx
    refine ⟨_, rfl, ?_, fun _ => ?_⟩
    · refine pure_wp fun S => ?_
      unfold keep
      (repeat regstrif_gather)
      refine go_val (ix0 x.2) ?_
      (repeat regstrif_gather)
      refine ite_d (fun c => ?_) (fun c => ?_)
      · rw [decide_eq_true c]
        (repeat regstrif_gather)
        refine go_val (ix1 x.2) ?_
        (repeat regstrif_gather)
        exact ⟨by simp, rfl⟩
      · rw [decide_eq_false c]
        (repeat regstrif_gather)
        exact ⟨rfl, rfl⟩
    · refine pure_wp fun S => ?_
      (repeat regstrif_gather)
      exact ⟨rfl, rfl⟩
  · (repeat regstrif_gather)
    refine go_val (r := .tup ((l.filter keep).map Fp.D)) rfl ?_
    exact ⟨rfl, rfl⟩
theorem star_of_ok {m : Mx} {s : Int} (hm : m.S 50) (hs : Sm 50 s) (g : Good m s) : sem_star_of [m.D, .int s] = M.pure (.tup ((((starQ m s).map lowF).filter keep).map Fp.D)) := by
  refine pure_wp fun S => ?_
  have lo : ∀ t b : Int, 0 ≤ t → 0 ≤ b → 0 < t + b → t < 2 ^ 60 → b < 2 ^ 60 → sem_lowest [.int t, .int b] = M.pure (pairD (lowP (t, b))) := fun t b h1 h2 h3 b1 b2 => lowest_ok t b h1 h2 h3 (Int.lt_trans b1 (by decide +kernel)) (Int.lt_trans b2 (by decide +kernel))
  obtain ⟨a1, a2⟩ := hm.a
  obtain ⟨b1, b2⟩ := hm.b
  obtain ⟨c1, c2⟩ := hm.c
  obtain ⟨d1, d2⟩ := hm.d
  obtain ⟨s1, s2⟩ := hs
  obtain ⟨ga, gd, gb, gc, gs, gbc, ge⟩ := g
  unfold Mx.D starQ
  (unfold sem_star_of; refine Ev.go_fn rfl ?_; unfold pk_star_of; simp only [Ev.slots, List.map_cons, List.map_nil, List.length_cons, List.length_nil, List.cons_append, List.nil_append, List.replicate, Nat.reduceSub, Nat.reduceAdd])
  (repeat regstrif_gather)
  refine ite_d (fun c => ?_) (fun c => ?_)
  · rw [if_pos c]
    (repeat regstrif_gather)
    refine go_val (lo m.b s (by omega) (by omega) (by omega) (by omega) (by omega)) ?_
    (repeat regstrif_gather)
    exact go_val (row_of_ok [(true, lowP (m.b, s))] (by simp)) ⟨rfl, rfl⟩
  · rw [if_neg c]
    (repeat regstrif_gather)
    refine go_val (lo (m.a - s) m.c (by omega) (by omega) (by omega) (by omega) (by omega)) ?_
    (repeat regstrif_gather)
    refine go_val (lo s m.c (by omega) (by omega) (by omega) (by omega) (by omega)) ?_
    (repeat regstrif_gather)
    refine go_val (lo (m.d - s) m.c (by omega) (by omega) (by omega) (by omega) (by omega)) ?_
    (repeat regstrif_gather)
    exact go_val (row_of_ok [(true, lowP (m.a - s, m.c)), (false, lowP (s, m.c)), (true, lowP (m.d - s, m.c))] (by simp)) ⟨rfl, rfl⟩
def starD (r : List Pc) : D := .tup ((((starQ (mat r) (scl r)).map lowF).filter keep).map Fp.D)
def ringD (r : List Pc) : D := .tup ((((ringQ (mat r) (scl r)).map lowF).filter keep).map Fp.D)
theorem check_pat_ok (r : List Pc) : sem_check_pattern [patD r] = M.pure .non := by
  refine pure_wp fun S => ?_
  (unfold sem_check_pattern; refine Ev.go_fn rfl ?_; unfold pk_check_pattern; simp only [Ev.slots, List.map_cons, List.map_nil, List.length_cons, List.length_nil, List.cons_append, List.nil_append, List.replicate, Nat.reduceSub, Nat.reduceAdd])
  (repeat regstrif_gather)
  refine go_val (isa_pat r) ?_
  (repeat regstrif_gather)
  exact ⟨trivial, rfl⟩
theorem star_ok {r : List Pc} (h : Row r) (ne : r ≠ []) : sem_star [patD r] = M.pure (starD r) := by
  refine pure_wp fun S => ?_
  (unfold sem_star; refine Ev.go_fn rfl ?_; unfold pk_star; simp only [Ev.slots, List.map_cons, List.map_nil, List.length_cons, List.length_nil, List.cons_append, List.nil_append, List.replicate, Nat.reduceSub, Nat.reduceAdd])
  (repeat regstrif_gather)
  refine go_val (check_pat_ok r) ?_
  (repeat regstrif_gather)
  refine go_val (attr_chain r) ?_
  (repeat regstrif_gather)
  refine go_val (attr_scale r) ?_
  (repeat regstrif_gather)
  exact go_val (star_of_ok h.sm.1 h.sm.2 (good_of h.1 ne)) ⟨rfl, rfl⟩
end K35
set_option maxRecDepth 100000
set_option maxHeartbeats 2000000
namespace K35
open PySem Ev
def stepL (x : Fp) (v : Int × Int) : Int × Int := lowP (stepQ x v)
def goL (l : List Fp) (v : Int × Int) : Int × Int := l.foldr stepL v
theorem goL_fold (l : List Fp) (v : Int × Int) : goL l v = l.reverse.foldl (fun v x => stepL x v) v := by
  unfold goL
  rw [List.foldl_reverse]
theorem stepL_vec {k : Nat} {x : Fp} {v : Int × Int} (hf : Fok x) (hk : Vec 80 x.2) (hv : Vec k v) : Vec (k + 81) (stepQ x v) ∧ Vec (k + 81) (stepL x v) := by
  have n := step_nz hf ⟨hv.t.1, hv.b.1, hv.p⟩
  have s : Vec (k + 81) (stepQ x v) := by
    have a := hk.b.mul hv.t
    have b := hk.t.mul hv.b
    have c := hk.b.mul hv.b
    have d := hk.t.mul hv.t
    have ab := a.add b
    have ba := b.add a
    refine ⟨?_, ?_, n.2.2⟩
    · unfold stepQ
      split
      · exact (Sm.add a b).mono (by omega)
      · exact d.mono (by omega)
    · unfold stepQ
      split
      · exact c.mono (by omega)
      · exact (Sm.add b a).mono (by omega)
  have l := low_sm s.t s.b s.p
  exact ⟨s, l.1, l.2, low_pos s.t.1 s.b.1 s.p⟩
theorem stepL_bot0 {x : Fp} {v : Int × Int} (hf : Fok x) (hv : Nz v) (h : x.1 = false) (h0 : v.2 = 0) : lowP x.2 = stepL x v := by
  refine (lowP_ra hf.nz (step_nz hf hv)).mpr ?_
  obtain ⟨b, p, q⟩ := x
  obtain ⟨t, s⟩ := v
  have h : b = false := h
  have h0 : s = 0 := h0
  subst h h0
  show p * (p * 0 + q * t) = (p * t) * q
  grind
end K35
set_option maxRecDepth 100000
set_option maxHeartbeats 2000000
namespace K35
open PySem Ev
def starL (r : List Pc) : List Fp := ((starQ (mat r) (scl r)).map lowF).filter keep
def ringL (r : List Pc) : List Fp := ((ringQ (mat r) (scl r)).map lowF).filter keep
structure Fin (x : Fp) : Prop where
  ok : Fok x
  p : 1 ≤ x.2.1
  q : 1 ≤ x.2.2
  low : lowP x.2 = x.2
  v : Vec 80 x.2
theorem low_fin {x : Fp} (h : Fok x) (v : Vec 80 x.2) (k : keep (lowF x) = true) : Fin (lowF x) := by
  have n := h.nz
  have l := low_sm v.t v.b v.p
  unfold keep at k
  rw [Bool.and_eq_true, decide_eq_true_eq, decide_eq_true_eq] at k
  refine ⟨low_fok h, k.1, k.2, ?_, l.1, l.2, low_pos n.1 n.2.1 n.2.2⟩
  exact (lowP_ra (low_nz n) n).mpr (low_ra n)
theorem star_vec {r : List Pc} (h : Row r) (ne : r ≠ []) : ∀ x ∈ starQ (mat r) (scl r), Vec 80 x.2 := by
  obtain ⟨ga, gd, gb, gc, gs, gbc, ge⟩ := good_of h.1 ne
  obtain ⟨⟨⟨a1, a2⟩, ⟨b1, b2⟩, ⟨c1, c2⟩, ⟨d1, d2⟩⟩, s1, s2⟩ := h.sm41
  intro x hx
  unfold starQ at hx
  split at hx
  · rw [List.mem_singleton.mp hx]
    exact ⟨⟨by dsimp only; omega, by dsimp only; omega⟩, ⟨by dsimp only; omega, by dsimp only; omega⟩, by dsimp only; omega⟩
  · simp only [List.mem_cons, List.mem_nil_iff, or_false] at hx
    rcases hx with rfl | rfl | rfl
    all_goals exact ⟨⟨by dsimp only; omega, by dsimp only; omega⟩, ⟨by dsimp only; omega, by dsimp only; omega⟩, by dsimp only; omega⟩
theorem ring_vec {r : List Pc} (h : Row r) (ne : r ≠ []) : ∀ x ∈ ringQ (mat r) (scl r), Vec 80 x.2 := by
  obtain ⟨ga, gd, gb, gc, gs, gbc, ge⟩ := good_of h.1 ne
  obtain ⟨⟨⟨a1, a2⟩, ⟨b1, b2⟩, ⟨c1, c2⟩, ⟨d1, d2⟩⟩, s1, s2⟩ := h.sm41
  intro x hx
  unfold ringQ at hx
  split at hx
  · rw [List.mem_singleton.mp hx]
    exact ⟨⟨by dsimp only; omega, by dsimp only; omega⟩, ⟨by dsimp only; omega, by dsimp only; omega⟩, by dsimp only; omega⟩
  · simp only [List.mem_cons, List.mem_nil_iff, or_false] at hx
    rcases hx with rfl | rfl | rfl
    all_goals exact ⟨⟨by dsimp only; omega, by dsimp only; omega⟩, ⟨by dsimp only; omega, by dsimp only; omega⟩, by dsimp only; omega⟩
theorem star_fin {r : List Pc} (h : Row r) (ne : r ≠ []) : ∀ x ∈ starL r, Fin x := by
  intro x hx
  obtain ⟨a, b⟩ := List.mem_filter.mp hx
  obtain ⟨y, hy, rfl⟩ := List.mem_map.mp a
  exact low_fin (star_fok (good_of h.1 ne) y hy) (star_vec h ne y hy) b
theorem ring_fin {r : List Pc} (h : Row r) (ne : r ≠ []) : ∀ x ∈ ringL r, Fin x := by
  intro x hx
  obtain ⟨a, b⟩ := List.mem_filter.mp hx
  obtain ⟨y, hy, rfl⟩ := List.mem_map.mp a
  exact low_fin (ring_fok (good_of h.1 ne) y hy) (ring_vec h ne y hy) b
def Shape (b : Bool) (l : List Fp) : Prop := l.map (·.1) = [b, !b, b] ∨ l.map (·.1) = [b, !b] ∨ l.map (·.1) = [!b, b] ∨ l.map (·.1) = [!b] ∨ l.map (·.1) = [b]
theorem keep_pos {x : Fp} (h : Fok x) (h1 : 0 < x.2.1) (h2 : 0 < x.2.2) : keep (lowF x) = true := by
  have n := h.nz
  obtain ⟨g, g0, a, b⟩ := lowP_mul n.1 n.2.1 n.2.2
  have z : ∀ y : Int, 0 ≤ y → 0 < g * y → 0 < y := fun y h l => by
    rcases Int.lt_or_le 0 y with z | z
    · exact z
    · have : y = 0 := by omega
      rw [this, Int.mul_zero] at l
      omega
  obtain ⟨n1, n2, n3⟩ := low_nz n
  unfold keep
  rw [Bool.and_eq_true, decide_eq_true_eq, decide_eq_true_eq]
  exact ⟨z _ n1 (by show 0 < g * (lowP x.2).1; omega), z _ n2 (by show 0 < g * (lowP x.2).2; omega)⟩
theorem star_shape {r : List Pc} (h : Row r) (ne : r ≠ []) : Shape true (starL r) := by
  have g := good_of h.1 ne
  have f := star_fok g
  unfold starL starQ at *
  by_cases c : (mat r).c = 0
  · rw [if_pos c] at f ⊢
    have b0 : 0 < (mat r).b := by have := g.bc; omega
    have k := keep_pos (f _ List.mem_cons_self) b0 g.s0
    rw [List.map_cons, List.map_nil, List.filter_cons_of_pos k]
    exact .inr (.inr (.inr (.inr rfl)))
  · rw [if_neg c] at f ⊢
    have c0 : 0 < (mat r).c := by have := g.c; omega
    have k := keep_pos (x := (false, (scl r, (mat r).c))) (f _ (by simp)) g.s0 c0
    rw [List.map_cons, List.map_cons, List.map_cons, List.map_nil]
    cases k1 : keep (lowF (true, ((mat r).a - scl r, (mat r).c))) <;> cases k2 : keep (lowF (true, ((mat r).d - scl r, (mat r).c)))
    all_goals simp only [List.filter_cons, k, k1, k2, if_true, Bool.false_eq_true, if_false, List.filter_nil]
    · exact .inr (.inr (.inr (.inl rfl)))
    · exact .inr (.inr (.inl rfl))
    · exact .inr (.inl rfl)
    · exact .inl rfl
theorem ring_shape {r : List Pc} (h : Row r) (ne : r ≠ []) : Shape false (ringL r) := by
  have g := good_of h.1 ne
  have f := ring_fok g
  unfold ringL ringQ at *
  by_cases c : (mat r).b = 0
  · rw [if_pos c] at f ⊢
    have b0 : 0 < (mat r).c := by have := g.bc; omega
    have k := keep_pos (f _ List.mem_cons_self) g.s0 b0
    rw [List.map_cons, List.map_nil, List.filter_cons_of_pos k]
    exact .inr (.inr (.inr (.inr rfl)))
  · rw [if_neg c] at f ⊢
    have c0 : 0 < (mat r).b := by have := g.b; omega
    have k := keep_pos (x := (true, ((mat r).b, scl r))) (f _ (by simp)) c0 g.s0
    rw [List.map_cons, List.map_cons, List.map_cons, List.map_nil]
    cases k1 : keep (lowF (false, ((mat r).b, (mat r).d - scl r))) <;> cases k2 : keep (lowF (false, ((mat r).b, (mat r).a - scl r)))
    all_goals simp only [List.filter_cons, k, k1, k2, if_true, Bool.false_eq_true, if_false, List.filter_nil]
    · exact .inr (.inr (.inr (.inl rfl)))
    · exact .inr (.inr (.inl rfl))
    · exact .inr (.inl rfl)
    · exact .inl rfl
def wS (b : Bool) : Str := if b then "rail" else "rung"
theorem shape_len {b : Bool} {l : List Fp} (h : Shape b l) : 1 ≤ l.length ∧ l.length ≤ 3 := by
  have : (l.map (·.1)).length = l.length := List.length_map _
  rcases h with h | h | h | h | h <;> (rw [h] at this; simp only [List.length_cons, List.length_nil] at this; omega)
theorem goL_ra : ∀ {l : List Fp} {v : Int × Int}, (∀ x ∈ l, Fok x) → Nz v → Nz (goL l v) ∧ Ra (goL l v) (goQ l v)
  | [], v, _, h => ⟨h, Ra.refl v⟩
  | x :: l, v, hl, h => by
    have hx := hl x List.mem_cons_self
    have hl2 : ∀ y ∈ l, Fok y := fun y hy => hl y (List.mem_cons_of_mem _ hy)
    obtain ⟨n, ih⟩ := goL_ra (l := l) hl2 h
    have n1 := go_nz (l := l) hl2 h
    have n2 := step_nz hx n
    refine ⟨low_nz n2, Ra.trans (low_nz n2) n2 (step_nz hx n1) (low_ra n2) (step_ra rfl hx hx n n1 (Ra.refl _) ih)⟩
theorem goL_low : ∀ {l : List Fp} {v : Int × Int}, (∀ x ∈ l, Fok x) → Nz v → lowP v = v → lowP (goL l v) = goL l v
  | [], v, _, _, e => e
  | x :: l, v, hl, h, _ => by
    have hx := hl x List.mem_cons_self
    have hl2 : ∀ y ∈ l, Fok y := fun y hy => hl y (List.mem_cons_of_mem _ hy)
    have n2 := step_nz hx (goL_ra (l := l) hl2 h).1
    exact (lowP_ra (low_nz n2) n2).mpr (low_ra n2)
def three : List (Int × Int) := [(0, 1), (1, 1), (1, 0)]
theorem three_vec : ∀ v ∈ three, Vec 100 v ∧ lowP v = v := by
  intro v hv
  simp only [three, List.mem_cons, List.mem_nil_iff, or_false] at hv
  rcases hv with rfl | rfl | rfl <;> exact ⟨⟨⟨by decide, by decide⟩, ⟨by decide, by decide⟩, by decide⟩, by decide⟩
theorem shows_as {r : List Pc} (h : Row r) {l q : List Fp} (hq : ∀ x ∈ q, Fok x) (hl : l = (q.map lowF).filter keep) (hr : ∀ v, Ra (goQ q v) ((mat r).top v.1 v.2, (mat r).bot v.1 v.2)) {v : Int × Int} (hv : Vec 100 v) (lv : lowP v = v) : goL l v = lowP (frontV r v) := by
  have nv : Nz v := ⟨hv.t.1, hv.b.1, hv.p⟩
  have hf : ∀ x ∈ l, Fok x := by
    intro x hx
    rw [hl] at hx
    obtain ⟨a, b⟩ := List.mem_filter.mp hx
    obtain ⟨y, hy, rfl⟩ := List.mem_map.mp a
    exact low_fok (hq y hy)
  obtain ⟨mv, _⟩ := mat_vec h.1 hv
  have n0 : Nz ((mat r).top v.1 v.2, (mat r).bot v.1 v.2) := ⟨mv.t.1, mv.b.1, mv.p⟩
  obtain ⟨n1, r1⟩ := goL_ra hf nv
  have n2 := go_nz hf nv
  have n3 := go_nz hq nv
  have r2 : Ra (goQ l v) (goQ q v) := by
    rw [hl]
    exact go_low hq nv
  have r3 := Ra.trans n1 n3 n0 (Ra.trans n1 n2 n3 r1 r2) (hr v)
  rw [front_low h hv, ← (lowP_ra n1 n0).mpr r3, goL_low hf nv lv]
end K35
set_option maxRecDepth 100000
set_option maxHeartbeats 2000000
namespace K35
open PySem Ev
theorem fin_shw {x : Fp} (h : Fin x) : Shw 2 4200 (Fp.D x) := by
  have a : Shw 0 100 (.str (Fp.w x)) := by
    unfold Fp.w Shw
    obtain ⟨b, v⟩ := x
    cases b
    · exact ⟨_, rfl, rfl, by show (PyData.str (Str.ofString "rung")).canLay0 = true; decide +kernel, Nat.le_refl _, by show (PyData.str (Str.ofString "rung")).shown.length ≤ 100; decide +kernel⟩
    · exact ⟨_, rfl, rfl, by show (PyData.str (Str.ofString "rail")).canLay0 = true; decide +kernel, Nat.le_refl _, by show (PyData.str (Str.ofString "rail")).shown.length ≤ 100; decide +kernel⟩
  exact (shw_tup (shl_cons a (shl_cons (vec_shw h.v (by decide)) shl_nil))).mono (by decide) (by decide)
theorem row_shw {l : List Fp} (hl : l.length ≤ 8) (h : ∀ x ∈ l, Fin x) : Shw 3 40000 (.tup (l.map Fp.D)) := by
  refine (shw_tup (shl_all (k := 2) (n := 4200) fun d hd => ?_)).mono (by decide) ?_
  · obtain ⟨x, hx, rfl⟩ := List.mem_map.mp hd
    exact fin_shw (h x hx)
  · rw [List.length_map]
    omega
theorem words_pl (r : List Pc) : Pln 1 (.lst (r.map fun p => D.str p.w)) (.list (r.map fun p => PyData.str p.w)) := by
  have h := pll_strs (xs := r.map Pc.w) fun x hx => by
    obtain ⟨p, _, rfl⟩ := List.mem_map.mp hx
    unfold Pc.w
    split <;> decide +kernel
  rw [List.map_map, List.map_map] at h
  exact pln_lst h
theorem w_inj {p : Pc} {b : Bool} : p.w = wS b ↔ p.rail = b := by
  obtain ⟨c, o⟩ := p
  cases b <;> cases c
  · exact ⟨fun _ => rfl, fun _ => rfl⟩
  · exact ⟨fun h => absurd h (show ¬ ("rail" : Str) = "rung" by decide), fun h => by cases h⟩
  · exact ⟨fun h => absurd h (show ¬ ("rung" : Str) = "rail" by decide), fun h => by cases h⟩
  · exact ⟨fun _ => rfl, fun _ => rfl⟩
theorem words_mul (b : Bool) (n : Nat) (hn : n ≤ 8) : dMul (.lst [.str (wS b)]) (.int n) = M.pure (.lst (List.replicate n [D.str (wS b)]).flatten) := by
  show (if [D.str (wS b)].length * (n : Int).toNat ≤ lim ∧ -(2 ^ 63) ≤ (n : Int) ∧ (n : Int) < 2 ^ 63 then M.pure (D.lst (List.replicate (n : Int).toNat [D.str (wS b)]).flatten) else M.stuck) = _
  rw [Int.toNat_natCast, if_pos ⟨by rw [List.length_singleton]; unfold lim; omega, by omega, by omega⟩]
theorem words_eq (r : List Pc) (b : Bool) : dEq false (.lst (r.map fun p => D.str p.w)) (.lst (List.replicate r.length [D.str (wS b)]).flatten) = M.pure (.bl (decide (∀ p ∈ r, p.rail = b))) := by
  have e : (List.replicate r.length [D.str (wS b)]).flatten = (r.map fun _ => wS b).map D.str := by
    induction r with
    | nil => rfl
    | cons p r ih =>
      rw [List.length_cons, List.replicate_succ, List.flatten_cons, ih]
      rfl
  have q : Pln 1 (.lst ((r.map fun _ => wS b).map D.str)) (.list ((r.map fun _ => wS b).map PyData.str)) := pln_lst (pll_strs fun x hx => by
    obtain ⟨p, _, rfl⟩ := List.mem_map.mp hx
    cases b <;> decide +kernel)
  rw [e]
  refine eq_pln false (words_pl r) q (by decide) (by decide) (P := ∀ p ∈ r, p.rail = b) ?_ rfl
  rw [PyData.list.injEq, List.map_map]
  constructor
  · intro e p hp
    have := List.map_inj_left.mp e p hp
    exact w_inj.mp (by simpa using this)
  · intro e
    refine List.map_congr_left fun p hp => ?_
    show PyData.str p.w = PyData.str (wS b)
    rw [w_inj.mpr (e p hp)]
def wD (s : List Bool) : D := .lst (s.map fun b => .str (wS b))
theorem words_in (r : List Pc) (ss : List (List Bool)) : dIn false (.lst (r.map fun p => D.str p.w)) (.lst (ss.map wD)) = M.pure (.bl (decide (r.map (·.rail) ∈ ss))) := by
  have q : PlnL 1 (ss.map wD) (ss.map fun s => PyData.list (s.map fun b => .str (wS b))) := pll_map fun s _ => by
    have := pll_strs (xs := s.map wS) fun x hx => by
      obtain ⟨b, _, rfl⟩ := List.mem_map.mp hx
      cases b <;> decide +kernel
    rw [List.map_map, List.map_map] at this
    exact pln_lst this
  refine in_pln false (words_pl r) q (by decide) (by decide) (P := r.map (·.rail) ∈ ss) ?_
  have inj : ∀ (s t : List Bool), (s.map fun b => PyData.str (wS b)) = (t.map fun b => PyData.str (wS b)) → s = t := by
    intro s
    induction s with
    | nil => intro t h; cases t with
      | nil => rfl
      | cons _ _ => cases h
    | cons a s ih => intro t h; cases t with
      | nil => cases h
      | cons b t =>
        rw [List.map_cons, List.map_cons, List.cons.injEq] at h
        rw [ih t h.2]
        have : wS a = wS b := by simpa using h.1
        have ab : a = b := by cases a <;> cases b <;> first | rfl | exact absurd this (by decide)
        rw [ab]
  have e : (r.map fun p => PyData.str p.w) = ((r.map (·.rail)).map fun b => PyData.str (wS b)) := by
    rw [List.map_map]
    rfl
  rw [e]
  constructor
  · intro h
    obtain ⟨s, hs, es⟩ := List.mem_map.mp h
    rw [PyData.list.injEq] at es
    rw [← inj _ _ es]
    exact hs
  · intro h
    exact List.mem_map.mpr ⟨_, h, rfl⟩
def pm : List Pc := [⟨true, 1⟩, ⟨false, 2⟩, ⟨true, 3⟩, ⟨false, 6⟩]
end K35
set_option maxRecDepth 100000
set_option maxHeartbeats 1000000
namespace K35
open PySem Ev
def Mx.flip (m : Mx) : Mx := ⟨m.d, m.b, m.c, m.a⟩
theorem flip_mul (m n : Mx) : (m.mul n).flip = n.flip.mul m.flip := by
  simp only [Mx.flip, Mx.mul, Mx.mk.injEq]
  refine ⟨by grind, by grind, by grind, by grind⟩
theorem flip_pc (p : Pc) : p.m.flip = p.m := by
  obtain ⟨b, o⟩ := p
  cases b <;> rfl
theorem mat_one (p : Pc) : mat [p] = p.m := by
  rw [mat_cons]
  show p.m.mul one = _
  rw [Mx.mul_one]
theorem mat_rev : ∀ r : List Pc, mat r.reverse = (mat r).flip
  | [] => rfl
  | p :: r => by
    rw [List.reverse_cons, mat_app, mat_rev r, mat_one, mat_cons, flip_mul, flip_pc]
theorem scl_app : ∀ r q : List Pc, scl (r ++ q) = scl r * scl q
  | [], q => by show scl q = 1 * scl q; omega
  | p :: r, q => by
    have e1 : scl (p :: (r ++ q)) = (if p.rail then 1 else 1 * p.o) * scl (r ++ q) := chain_scl (r ++ q) _ _
    have e2 : scl (p :: r) = (if p.rail then 1 else 1 * p.o) * scl r := chain_scl r _ _
    rw [List.cons_append, e1, e2, scl_app r q]
    grind
theorem scl_rev : ∀ r : List Pc, scl r.reverse = scl r
  | [] => rfl
  | p :: r => by
    have e1 : scl [p] = (if p.rail then 1 else 1 * p.o) * scl [] := chain_scl [] _ _
    have e2 : scl (p :: r) = (if p.rail then 1 else 1 * p.o) * scl r := chain_scl r _ _
    have e3 : scl [] = 1 := rfl
    rw [List.reverse_cons, scl_app, scl_rev r, e1, e2, e3]
    grind
theorem row_rev {r : List Pc} (h : Row r) : Row r.reverse := ⟨fun p hp => h.1 p (List.mem_reverse.mp hp), by rw [List.length_reverse]; exact h.2⟩
theorem fmt_pc {p : Pc} (h : p.ok) (x : SV) : ∀ S, joinFs [fun sd => M.bind (getv 1 sd) dFmt, fun _ => M.pure (D.str " "), fun sd => M.bind (getv 2 sd) dFmt] Str.empty [x, .val (.str p.w), .val (.int p.o)] S = some (.ok (.str p.text), S) := by
  revert p
  intro p h
  refine pc_all (P := fun p => ∀ S, joinFs [fun sd => M.bind (getv 1 sd) dFmt, fun _ => M.pure (D.str " "), fun sd => M.bind (getv 2 sd) dFmt] Str.empty [x, .val (.str p.w), .val (.int p.o)] S = some (.ok (.str p.text), S)) ?_ ?_ ?_ ?_ ?_ ?_ ?_ ?_ ?_ ?_ ?_ ?_ h
  all_goals
    intro b S
    cases b <;> kernel_rfl
end K35
set_option maxRecDepth 100000
set_option maxHeartbeats 2000000
namespace K35
open PySem Ev
structure Mix (r : List Pc) (m : Int) : Prop where
  row : RowN r
  len : (r.length : Int) ≤ m
  rail : ∃ p ∈ r, p.rail = true
  rung : ∃ p ∈ r, p.rail = false
theorem mixed_ok (m : Int) (m0 : 2 ≤ m) (m1 : m ≤ 8) (S : List Ob) (n : Nat) (h : Cup S n) : Wp (sem__law_mixed [.ref n, .int m]) S fun d S' => ∃ r, d = .lst (r.map Pc.D) ∧ Mix r m ∧ Cup S' n := by
  (unfold sem__law_mixed; refine Ev.go_fn rfl ?_; unfold pk__law_mixed; simp only [Ev.slots, List.map_cons, List.map_nil, List.length_cons, List.length_nil, List.cons_append, List.nil_append, List.replicate, Nat.reduceSub, Nat.reduceAdd])
  (repeat regstrif_gather)
  refine row_wp h (by omega) (by omega) fun r S1 hr hl h1 => ?_
  (repeat regstrif_gather)
  obtain ⟨ho, l1, l8⟩ := hr
  rcases r with _ | ⟨p, r⟩
  · simp at l1
  have hp := ho p List.mem_cons_self
  rw [List.length_cons] at hl l8
  have fin : ∀ (S' : List Ob) (k o : Int) (b : Bool), b = (!p.rail) → 1 ≤ o → o ≤ 12 → 0 ≤ k → Cup S' n → ∃ q, D.lst (((p :: r).map Pc.D).take k.toNat ++ [D.tup [.str (Pc.w ⟨b, o⟩), .int o]] ++ ((p :: r).map Pc.D).drop k.toNat) = .lst (q.map Pc.D) ∧ Mix q m ∧ Cup S' n := by
    rintro S' k o b rfl o1 o2 k0 hc
    have td : (p :: r).take k.toNat ++ (p :: r).drop k.toNat = p :: r := List.take_append_drop _ _
    have ln : ((p :: r).take k.toNat).length + ((p :: r).drop k.toNat).length = r.length + 1 := by
      rw [← List.length_append, td, List.length_cons]
    have pm : p ∈ (p :: r).take k.toNat ∨ p ∈ (p :: r).drop k.toNat := by
      rw [← List.mem_append, td]
      exact List.mem_cons_self
    refine ⟨(p :: r).take k.toNat ++ [⟨!p.rail, o⟩] ++ (p :: r).drop k.toNat, ?_, ⟨⟨fun x hx => ?_, ?_, ?_⟩, ?_, ?_, ?_⟩, hc⟩
    · rw [List.map_append, List.map_append, List.map_take, List.map_drop]
      rfl
    · rcases List.mem_append.mp hx with hx | hx
      · rcases List.mem_append.mp hx with hx | hx
        · exact ho x (List.mem_of_mem_take hx)
        · rw [List.mem_singleton.mp hx]
          exact ⟨o1, o2⟩
      · exact ho x (List.mem_of_mem_drop hx)
    · simp only [List.length_append, List.length_cons, List.length_nil]
      omega
    · simp only [List.length_append, List.length_cons, List.length_nil]
      omega
    · simp only [List.length_append, List.length_cons, List.length_nil]
      omega
    · cases e : p.rail with
      | true => exact ⟨p, by simp only [List.mem_append]; rcases pm with q | q <;> simp [q], e⟩
      | false => exact ⟨⟨true, o⟩, by simp, rfl⟩
    · cases e : p.rail with
      | true => exact ⟨⟨false, o⟩, by simp, rfl⟩
      | false => exact ⟨p, by simp only [List.mem_append]; rcases pm with q | q <;> simp [q], e⟩
  refine go_val (r := .tup [.str p.w, .int p.o]) (ix_lst (show L2.atI ((p :: r).map Pc.D) ((0 : Nat) : Int) = some (Pc.D p) from L2.atI_nat rfl)) ?_
  (repeat regstrif_gather)
  obtain ⟨b, o⟩ := p
  cases b with
  | true =>
    refine ite_dt rfl ?_
    (repeat regstrif_gather)
    simp only [List.length_map, List.length_cons]
    refine sip_wp h1 (by omega) (by omega) fun k S2 k0 k1 h2 => ?_
    (repeat regstrif_gather)
    refine sip_wp h2 (by decide) (by decide) fun q S3 q0 q1 h3 => ?_
    (repeat regstrif_gather)
    exact fin S3 k (1 + q) false rfl (by omega) (by omega) k0 h3
  | false =>
    refine ite_df (show ¬ (("rung" : Str) = "rail") by decide) ?_
    (repeat regstrif_gather)
    simp only [List.length_map, List.length_cons]
    refine sip_wp h1 (by omega) (by omega) fun k S2 k0 k1 h2 => ?_
    (repeat regstrif_gather)
    refine sip_wp h2 (by decide) (by decide) fun q S3 q0 q1 h3 => ?_
    (repeat regstrif_gather)
    exact fin S3 k (1 + q) true rfl (by omega) (by omega) k0 h3
end K35
set_option maxRecDepth 100000
set_option maxHeartbeats 1000000
namespace K35
open PySem Ev
theorem left_big {k : Nat} {x y : Int} (hx : Sm k x) (hy : Sm k y) : ∃ n, n < 2 * k + 3 ∧ Left x y n := by
  refine ⟨2 * k + 2, by omega, 2 * k, ?_, by split <;> omega⟩
  have p : (0 : Int) < 2 ^ k := Int.pow_pos (by decide)
  have a : x * y ≤ x * 2 ^ k := Int.mul_le_mul_of_nonneg_left (Int.le_of_lt hy.2) hx.1
  have b : x * 2 ^ k < 2 ^ k * 2 ^ k := Int.mul_lt_mul_of_pos_right hx.2 p
  rw [Nat.two_mul, Int.pow_add]
  exact Int.lt_of_le_of_lt a b
theorem common_big {k : Nat} (a b : Int) (ha : Sm k a) (hb : Sm k b) (hk : k ≤ 100000) : sem_common [.int a, .int b] = M.pure (.int (Int.gcd a b)) := by
  refine pure_wp fun S => ?_
  obtain ⟨n, hn, hl⟩ := left_big ha hb
  (unfold sem_common; refine Ev.go_fn rfl ?_; unfold pk_common; simp only [Ev.slots, List.map_cons, List.map_nil, List.length_cons, List.length_nil, List.cons_append, List.nil_append, List.replicate, Nat.reduceSub, Nat.reduceAdd])
  (repeat regstrif_gather)
  refine gs_iter (J := fun n sd S' => S' = S ∧ ∃ x y : Int, sd = [.val (.int x), .val (.int y)] ∧ 0 ≤ x ∧ 0 ≤ y ∧ Int.gcd x y = Int.gcd a b ∧ Left x y n) ?_ n _ _ (by unfold bigW; omega) ⟨rfl, a, b, rfl, ha.1, hb.1, rfl, hl⟩
  rintro n sd S' ⟨rfl, x, y, rfl, hx, hy, hg, hn⟩
  (repeat regstrif_gather)
  refine ite_d (fun h => ?_) (fun h => ?_)
  · (repeat regstrif_gather)
    obtain ⟨n', l', h'⟩ := left_step hx h hn
    exact ⟨n', l', rfl, y, x % y, rfl, hy, Int.emod_nonneg x (by omega), (gcd_step x y hx h).trans hg, h'⟩
  · have y0 : y = 0 := by omega
    subst y0
    (repeat regstrif_gather)
    simp only [Int.gcd_zero] at hg
    refine ⟨?_, rfl⟩
    rw [← hg]
    congr 1
    omega
theorem gcd_sm {k : Nat} {a b : Int} (ha : Sm k a) (hb : Sm k b) : Sm k (Int.gcd a b : Int) := by
  by_cases z : a = 0
  · subst z
    rw [Int.gcd_zero_left]
    exact ⟨by omega, by have := hb.2; have := hb.1; omega⟩
  · have d : (Int.gcd a b : Int) ∣ a := Int.gcd_dvd_left _ _
    have l := Int.le_of_dvd (by have := ha.1; omega) d
    exact ⟨by omega, Int.lt_of_le_of_lt l ha.2⟩
theorem gcd_pos2 {a b : Int} (h : a ≠ 0 ∨ b ≠ 0) : 0 < (Int.gcd a b : Int) := by
  have : 0 < Int.gcd a b := by rw [Int.gcd_pos_iff]; exact h
  omega
theorem lowest_big {k : Nat} (t b : Int) (ht : Sm k t) (hb : Sm k b) (h : 0 < t + b) (hk : k ≤ 9000) : sem_lowest [.int t, .int b] = M.pure (pairD (lowP (t, b))) := by
  refine pure_wp fun S => ?_
  have g0 : 0 < (Int.gcd t b : Int) := gcd_pos2 (by have := ht.1; have := hb.1; omega)
  have g1 := gcd_sm ht hb
  have bg : Bd k (Int.gcd t b : Int) := bd_sm g1
  have bg : Bd 9000 (Int.gcd t b : Int) := bd_sm (g1.mono hk)
  (unfold sem_lowest; refine Ev.go_fn rfl ?_; unfold pk_lowest; simp only [Ev.slots, List.map_cons, List.map_nil, List.length_cons, List.length_nil, List.cons_append, List.nil_append, List.replicate, Nat.reduceSub, Nat.reduceAdd])
  (repeat regstrif_gather)
  refine go_val (common_big t b ht hb (by omega)) ?_
  (repeat regstrif_gather)
  exact ⟨rfl, rfl⟩
def Sc (s : Int) (m q : Mx) : Prop := m.a = s * q.a ∧ m.b = s * q.b ∧ m.c = s * q.c ∧ m.d = s * q.d
theorem Sc.refl (m : Mx) : Sc 1 m m := ⟨by omega, by omega, by omega, by omega⟩
theorem Sc.trans {s t : Int} {m n q : Mx} (h : Sc s m n) (l : Sc t n q) : Sc (s * t) m q := by
  obtain ⟨h1, h2, h3, h4⟩ := h
  obtain ⟨l1, l2, l3, l4⟩ := l
  refine ⟨?_, ?_, ?_, ?_⟩
  · rw [h1, l1, Int.mul_assoc]
  · rw [h2, l2, Int.mul_assoc]
  · rw [h3, l3, Int.mul_assoc]
  · rw [h4, l4, Int.mul_assoc]
theorem Sc.mul {s t : Int} {m n p q : Mx} (h : Sc s m p) (l : Sc t n q) : Sc (s * t) (m.mul n) (p.mul q) := by
  obtain ⟨h1, h2, h3, h4⟩ := h
  obtain ⟨l1, l2, l3, l4⟩ := l
  refine ⟨?_, ?_, ?_, ?_⟩ <;> simp only [Mx.mul, h1, h2, h3, h4, l1, l2, l3, l4] <;> grind
theorem Sc.top {s : Int} {m q : Mx} (h : Sc s m q) (t b : Int) : m.top t b = s * q.top t b := by
  obtain ⟨h1, h2, h3, h4⟩ := h
  simp only [Mx.top, h1, h2]
  grind
theorem Sc.bot {s : Int} {m q : Mx} (h : Sc s m q) (t b : Int) : m.bot t b = s * q.bot t b := by
  obtain ⟨h1, h2, h3, h4⟩ := h
  simp only [Mx.bot, h3, h4]
  grind
def Mx.pow (m : Mx) : Nat → Mx
  | 0 => one
  | n + 1 => m.mul (m.pow n)
theorem Mx.pow_add (m : Mx) (i : Nat) : ∀ j, m.pow (j + i) = (m.pow j).mul (m.pow i)
  | 0 => by rw [Nat.zero_add]; exact (Mx.one_mul _).symm
  | j + 1 => by
    rw [Nat.add_right_comm]
    show m.mul (m.pow (j + i)) = (m.mul (m.pow j)).mul _
    rw [Mx.pow_add m i j, Mx.assoc]
theorem Mx.pow_sq (m : Mx) : ∀ h, m.pow (2 * h) = (m.mul m).pow h
  | 0 => rfl
  | h + 1 => by
    show m.mul (m.mul (m.pow (2 * h))) = (m.mul m).mul _
    rw [Mx.pow_sq m h, Mx.assoc]
theorem Sc.pow {s : Int} {m q : Mx} (h : Sc s m q) : ∀ n : Nat, Sc (s ^ n) (m.pow n) (q.pow n)
  | 0 => by
    show Sc (s ^ 0) one one
    rw [Int.pow_zero]
    exact Sc.refl one
  | n + 1 => by
    rw [Int.pow_succ, Int.mul_comm]
    exact h.mul (Sc.pow h n)
structure Mx.P (m : Mx) : Prop where
  a : 0 < m.a
  b : 0 ≤ m.b
  c : 0 ≤ m.c
  d : 0 < m.d
theorem Mx.P.mul {m n : Mx} (h : m.P) (l : n.P) : (m.mul n).P := by
  have h1 := h.a
  have h2 := h.d
  have l1 := l.a
  have l2 := l.d
  refine ⟨?_, ?_, ?_, ?_⟩ <;> simp only [Mx.mul]
  · have := Int.mul_pos h1 l1
    have := Int.mul_nonneg h.b l.c
    omega
  · have := Int.mul_nonneg (Int.le_of_lt h1) l.b
    have := Int.mul_nonneg h.b (Int.le_of_lt l2)
    omega
  · have := Int.mul_nonneg h.c (Int.le_of_lt l1)
    have := Int.mul_nonneg (Int.le_of_lt h2) l.c
    omega
  · have := Int.mul_nonneg h.c l.b
    have := Int.mul_pos h2 l2
    omega
theorem Mx.P.one : (K35.one).P := ⟨by decide, by decide, by decide, by decide⟩
theorem Mx.P.pow {m : Mx} (h : m.P) : ∀ n, (m.pow n).P
  | 0 => Mx.P.one
  | n + 1 => h.mul (Mx.P.pow h n)
theorem Mx.P.vec {m : Mx} (h : m.P) {t b : Int} (ht : 0 ≤ t) (hb : 0 ≤ b) (p : 0 < t + b) : 0 ≤ m.top t b ∧ 0 ≤ m.bot t b ∧ 0 < m.top t b + m.bot t b := by
  have h1 := Int.mul_nonneg (Int.le_of_lt h.a) ht
  have h2 := Int.mul_nonneg h.b hb
  have h3 := Int.mul_nonneg h.c ht
  have h4 := Int.mul_nonneg (Int.le_of_lt h.d) hb
  have : 0 < m.a * t ∨ 0 < m.d * b := by
    rcases Int.lt_or_le 0 t with z | z
    · exact .inl (Int.mul_pos h.a z)
    · exact .inr (Int.mul_pos h.d (by omega))
  unfold Mx.top Mx.bot
  omega
theorem mat_P {r : List Pc} (h : ∀ p ∈ r, p.ok) : (mat r).P := by
  obtain ⟨h1, h2, h3, h4, h5⟩ := ad_ge h
  exact ⟨by omega, h3, h4, by omega⟩
def Mx.g (m : Mx) : Int := (Int.gcd (Int.gcd m.a m.b : Int) (Int.gcd m.c m.d : Int) : Int)
def Mx.slim (m : Mx) : Mx := ⟨m.a / m.g, m.b / m.g, m.c / m.g, m.d / m.g⟩
theorem slim_sc {m : Mx} (h : m.P) : 0 < m.g ∧ Sc m.g m m.slim := by
  have p : 0 < m.g := gcd_pos2 (.inl (by have := gcd_pos2 (b := m.b) (.inl (show m.a ≠ 0 by have := h.a; omega)); omega))
  have d1 : m.g ∣ (Int.gcd m.a m.b : Int) := Int.gcd_dvd_left _ _
  have d2 : m.g ∣ (Int.gcd m.c m.d : Int) := Int.gcd_dvd_right _ _
  have e1 : m.g ∣ m.a := Int.dvd_trans d1 (Int.gcd_dvd_left _ _)
  have e2 : m.g ∣ m.b := Int.dvd_trans d1 (Int.gcd_dvd_right _ _)
  have e3 : m.g ∣ m.c := Int.dvd_trans d2 (Int.gcd_dvd_left _ _)
  have e4 : m.g ∣ m.d := Int.dvd_trans d2 (Int.gcd_dvd_right _ _)
  exact ⟨p, (Int.mul_ediv_cancel' e1).symm, (Int.mul_ediv_cancel' e2).symm, (Int.mul_ediv_cancel' e3).symm, (Int.mul_ediv_cancel' e4).symm⟩
theorem slim_P {m : Mx} (h : m.P) : m.slim.P := by
  obtain ⟨p, s1, s2, s3, s4⟩ := slim_sc h
  have po : ∀ {x y : Int}, 0 < x → x = m.g * y → 0 < y := fun {x y} h e => by
    rcases Int.lt_or_le 0 y with z | z
    · exact z
    · have := Int.mul_nonneg (Int.le_of_lt p) (show 0 ≤ -y by omega)
      have e2 : m.g * -y = -(m.g * y) := by grind
      omega
  exact ⟨po h.a s1, Int.ediv_nonneg h.b (Int.le_of_lt p), Int.ediv_nonneg h.c (Int.le_of_lt p), po h.d s4⟩
theorem slim_S {m : Mx} {k : Nat} (h : m.S k) : m.slim.S k := by
  have q : ∀ {x : Int}, Sm k x → Sm k (x / m.g) := fun {x} h => ⟨Int.ediv_nonneg h.1 (Int.natCast_nonneg _), Int.lt_of_le_of_lt (Int.ediv_le_self _ h.1) h.2⟩
  exact ⟨q h.a, q h.b, q h.c, q h.d⟩
theorem rep_even {q r : Mx} (hr : r.P) (h : Nat) : ∃ s : Int, 0 < s ∧ Sc s (q.mul (r.pow (2 * h))) (q.mul ((r.mul r).slim.pow h)) := by
  obtain ⟨g, l⟩ := slim_sc (hr.mul hr)
  refine ⟨(r.mul r).g ^ h, Int.pow_pos g, ?_⟩
  rw [Mx.pow_sq]
  have := (Sc.refl q).mul (l.pow h)
  rw [Int.one_mul] at this
  exact this
theorem rep_odd {q r : Mx} (hq : q.P) (hr : r.P) (h : Nat) : ∃ s : Int, 0 < s ∧ Sc s (q.mul (r.pow (2 * h + 1))) ((q.mul r).slim.mul ((r.mul r).slim.pow h)) := by
  obtain ⟨g1, l1⟩ := slim_sc (hq.mul hr)
  obtain ⟨g2, l2⟩ := slim_sc (hr.mul hr)
  refine ⟨(q.mul r).g * (r.mul r).g ^ h, Int.mul_pos g1 (Int.pow_pos g2), ?_⟩
  have e : q.mul (r.pow (2 * h + 1)) = (q.mul r).mul ((r.mul r).pow h) := by
    show q.mul (r.mul (r.pow (2 * h))) = _
    rw [Mx.pow_sq, Mx.assoc]
  rw [e]
  exact l1.mul (l2.pow h)
end K35
set_option maxRecDepth 100000
set_option maxHeartbeats 2000000
namespace K35
open PySem Ev
theorem power_ok {j : Nat} {x : Int} (hx : Sm j x) (k : Nat) (hk : j * k ≤ 8000) (hj : j ≤ 8000) (h2 : k ≤ 8000) : sem_power_of [.int x, .int k] = M.pure (.int (x ^ k)) := by
  refine pure_wp fun S => ?_
  have pw : ∀ i : Nat, Sm (j * i + 1) (x ^ i) := fun i => by
    refine ⟨Int.pow_nonneg hx.1, ?_⟩
    induction i with
    | zero =>
      rw [Int.pow_zero, Nat.mul_zero]
      decide
    | succ i ih =>
      have p0 : 0 ≤ x ^ i := Int.pow_nonneg hx.1
      have m := (Sm.mul (j := j * i + 1) (k := j) ⟨p0, ih⟩ hx).2
      rw [Int.pow_succ]
      refine Int.lt_of_lt_of_le m ?_
      exact_mod_cast Nat.pow_le_pow_right (by decide) (by rw [Nat.mul_succ]; omega)
  have bx : Bd 8000 x := bd_sm (hx.mono hj)
  (unfold sem_power_of; refine Ev.go_fn rfl ?_; unfold pk_power_of; simp only [Ev.slots, List.map_cons, List.map_nil, List.length_cons, List.length_nil, List.cons_append, List.nil_append, List.replicate, Nat.reduceSub, Nat.reduceAdd])
  (repeat regstrif_gather)
  refine gs_loop (J := fun ds sd S' => S' = S ∧ ds.length ≤ k ∧ ∃ y : SV, sd = [.val (.int x), .val (.int k), .val (.int (x ^ (k - ds.length))), y]) ?_ ?_ _ _ _ ⟨rfl, by simp [rngD], _, by simp [rngD]; rfl⟩
  · rintro d ds sd S' ⟨rfl, hl, y, rfl⟩
    rw [List.length_cons] at hl ⊢
    have b1 : Bd 16000 (x ^ (k - (ds.length + 1))) := bd_sm ((pw _).mono (by
      have : j * (k - (ds.length + 1)) ≤ j * k := Nat.mul_le_mul_left _ (by omega)
      omega))
    refine ⟨_, _, rfl, ?_⟩
    (repeat regstrif_gather)
    have e : k - ds.length = (k - (ds.length + 1)) + 1 := by omega
    rw [e, Int.pow_succ]
    exact ⟨rfl, by omega, _, rfl⟩
  · rintro sd S' ⟨rfl, hl, y, rfl⟩
    (repeat regstrif_gather)
    exact ⟨rfl, rfl⟩
def bsP (f : Int → Bool) : Nat → Int → Int → Int
  | 0, lo, _ => lo
  | k + 1, lo, hi => if lo < hi then (if f ((lo + hi) / 2) = true then bsP f k ((lo + hi) / 2 + 1) hi else bsP f k lo ((lo + hi) / 2)) else lo
theorem bs_end (f : Int → Bool) (k : Nat) {lo hi : Int} (h : ¬ lo < hi) : bsP f k lo hi = lo := by
  cases k with
  | zero => rfl
  | succ k => unfold bsP; rw [if_neg h]
theorem bs_up {f : Int → Bool} {k : Nat} {lo hi : Int} (h : lo < hi) (t : f ((lo + hi) / 2) = true) : bsP f (k + 1) lo hi = bsP f k ((lo + hi) / 2 + 1) hi := by
  rw [bsP, if_pos h, if_pos t]
theorem bs_down {f : Int → Bool} {k : Nat} {lo hi : Int} (h : lo < hi) (t : ¬ f ((lo + hi) / 2) = true) : bsP f (k + 1) lo hi = bsP f k lo ((lo + hi) / 2) := by
  rw [bsP, if_pos h, if_neg t]
theorem bs_in (f : Int → Bool) : ∀ (k : Nat) {lo hi : Int}, lo ≤ hi → lo ≤ bsP f k lo hi ∧ bsP f k lo hi ≤ hi
  | 0, lo, hi, h => ⟨Int.le_refl _, h⟩
  | k + 1, lo, hi, h => by
    by_cases c : lo < hi
    · by_cases t : f ((lo + hi) / 2) = true
      · rw [bs_up c t]
        have := bs_in f k (lo := (lo + hi) / 2 + 1) (hi := hi) (by omega)
        omega
      · rw [bs_down c t]
        have := bs_in f k (lo := lo) (hi := (lo + hi) / 2) (by omega)
        omega
    · rw [bs_end f _ c]
      omega
def rootP (n : Int) (p : Nat) : Option Int :=
  if bsP (fun m => decide (m ^ p < n)) 40 1 n ^ p = n then some (bsP (fun m => decide (m ^ p < n)) 40 1 n) else none
def optD : Option Int → D
  | some x => .int x
  | none => .non
theorem rootP_ok {n : Int} (p : Nat) (h1 : 1 ≤ n) (h2 : n < 2 ^ 40) (hp : p ≤ 60) : sem_root_of_power [.int n, .int p] = M.pure (optD (rootP n p)) := by
  refine pure_wp fun S => ?_
  have pk : ∀ x : Int, 1 ≤ x → x ≤ n → sem_power_of [.int x, .int p] = M.pure (.int (x ^ p)) := fun x a b => power_ok (j := 40) ⟨by omega, by omega⟩ p (by omega) (by decide) (by omega)
  have hb := bs_in (fun m => decide (m ^ p < n)) 40 h1
  unfold rootP
  generalize hR : bsP (fun m => decide (m ^ p < n)) 40 1 n = R at hb ⊢
  have bn : Bd 40 n := .mk (by omega)
  have n40 : n - 1 < 2 ^ 40 := by omega
  obtain ⟨K, hK⟩ : ∃ K : Nat, K = 40 := ⟨_, rfl⟩
  rw [← hK] at hR n40
  (unfold sem_root_of_power; refine Ev.go_fn rfl ?_; unfold pk_root_of_power; simp only [Ev.slots, List.map_cons, List.map_nil, List.length_cons, List.length_nil, List.cons_append, List.nil_append, List.replicate, Nat.reduceSub, Nat.reduceAdd])
  (repeat regstrif_gather)
  refine gs_iter (J := fun k sd S' => S' = S ∧ ∃ (lo hi : Int) (y : SV), sd = [.val (.int n), .val (.int p), .val (.int lo), .val (.int hi), y] ∧ 1 ≤ lo ∧ lo ≤ hi ∧ hi ≤ n ∧ hi - lo < 2 ^ k ∧ bsP (fun m => decide (m ^ p < n)) k lo hi = R) ?_ K _ _ (by rw [hK]; decide) ⟨rfl, 1, n, _, rfl, by decide, h1, Int.le_refl _, n40, hR⟩
  rintro k sd S' ⟨rfl, lo, hi, y, rfl, l1, lh, hn, w, e⟩
  have b1 : Bd 40 lo := .mk (by omega)
  have b2 : Bd 40 hi := .mk (by omega)
  (repeat regstrif_gather)
  refine ite_d (fun c => ?_) (fun c => ?_)
  · rcases k with _ | k
    · simp at w
      omega
    have e2 : (2 : Int) ^ (k + 1) = 2 * 2 ^ k := by rw [Int.pow_succ, Int.mul_comm]
    have pm := pk ((lo + hi) / 2) (by omega) (by omega)
    have bm : Bd 40 ((lo + hi) / 2) := .mk (by omega)
    (repeat regstrif_gather)
    refine go_val pm ?_
    (repeat regstrif_gather)
    refine ite_d (fun t => ?_) (fun t => ?_)
    · rw [bs_up c (decide_eq_true t)] at e
      (repeat regstrif_gather)
      exact ⟨k, by omega, rfl, _, _, _, rfl, by omega, by omega, hn, by omega, e⟩
    · rw [bs_down c (by simpa using t)] at e
      (repeat regstrif_gather)
      exact ⟨k, by omega, rfl, _, _, _, rfl, l1, by omega, by omega, by omega, e⟩
  · rw [bs_end _ _ c] at e
    subst e
    (repeat regstrif_gather)
    refine go_val (pk lo l1 (by omega)) ?_
    (repeat regstrif_gather)
    refine ite_d (fun t => ?_) (fun t => ?_)
    · rw [if_pos t]
      (repeat regstrif_gather)
      exact ⟨rfl, rfl⟩
    · rw [if_neg t]
      (repeat regstrif_gather)
      exact ⟨rfl, rfl⟩
def stP (t b : Int) : Nat → Int × Int
  | 0 => (1, 0)
  | k + 1 => (t * (stP t b k).1 - b * b * (stP t b k).2, (stP t b k).1)
theorem bd_mul {j k : Nat} {x y : Int} (h : Bd j x) (l : Bd k y) : Bd (j + k) (x * y) := .mk (by
  have a := h.nat
  have b := l.nat
  rw [Int.natAbs_mul, Nat.pow_add]
  exact Nat.mul_lt_mul'' a b)
theorem bd_sub {k : Nat} {x y : Int} (h : Bd k x) (l : Bd k y) : Bd (k + 1) (x - y) := .mk (by
  have a := h.nat
  have b := l.nat
  rw [Nat.pow_succ]
  omega)
theorem stP_bd {t b : Int} (ht : Bd 41 t) (hb : Bd 41 b) : ∀ k : Nat, Bd (84 * k + 1) (stP t b k).1 ∧ Bd (84 * k + 1) (stP t b k).2
  | 0 => ⟨.mk (k := 84 * 0 + 1) (x := 1) (by decide), .mk (k := 84 * 0 + 1) (x := 0) (by decide)⟩
  | k + 1 => by
    obtain ⟨i1, i2⟩ := stP_bd ht hb k
    have m1 := (bd_mul ht i1).mono (show 41 + (84 * k + 1) ≤ 84 * k + 83 by omega)
    have m2 := (bd_mul (bd_mul hb hb) i2).mono (show 41 + 41 + (84 * k + 1) ≤ 84 * k + 83 by omega)
    exact ⟨(bd_sub m1 m2).mono (by omega), i1.mono (by omega)⟩
theorem stairs_ok {t b : Int} (ht : Bd 41 t) (hb : Bd 41 b) (k : Nat) (hk : k ≤ 60) : sem_stairs [.int t, .int b, .int ((k : Int) + 1)] = M.pure (.tup [.int (stP t b k).1, .int (stP t b k).2]) := by
  refine pure_wp fun S => ?_
  (unfold sem_stairs; refine Ev.go_fn rfl ?_; unfold pk_stairs; simp only [Ev.slots, List.map_cons, List.map_nil, List.length_cons, List.length_nil, List.cons_append, List.nil_append, List.replicate, Nat.reduceSub, Nat.reduceAdd])
  (repeat regstrif_gather)
  have ek : ((k : Int) + 1 - 1 - 0).toNat = k := by omega
  refine gs_loop (J := fun ds sd S' => S' = S ∧ ds.length ≤ k ∧ ∃ y : SV, sd = [.val (.int t), .val (.int b), .val (.int ((k : Int) + 1)), .val (.int (stP t b (k - ds.length)).1), .val (.int (stP t b (k - ds.length)).2), y]) ?_ ?_ _ _ _ ⟨rfl, by simp [rngD], _, by simp [rngD]; exact ⟨rfl, rfl, rfl⟩⟩
  · rintro d ds sd S' ⟨rfl, hl, y, rfl⟩
    rw [List.length_cons] at hl ⊢
    obtain ⟨i1, i2⟩ := stP_bd ht hb (k - (ds.length + 1))
    have b1 : Bd 8000 (stP t b (k - (ds.length + 1))).1 := i1.mono (by omega)
    have b2 : Bd 8000 (stP t b (k - (ds.length + 1))).2 := i2.mono (by omega)
    refine ⟨_, _, rfl, ?_⟩
    (repeat regstrif_gather)
    have e : k - ds.length = (k - (ds.length + 1)) + 1 := by omega
    rw [e]
    exact ⟨rfl, by omega, _, rfl⟩
  · rintro sd S' ⟨rfl, hl, y, rfl⟩
    (repeat regstrif_gather)
    exact ⟨rfl, rfl⟩
def trP (t b : Int) (k : Nat) : Int := t * (stP t b k).1 - 2 * b * b * (stP t b k).2
theorem trP_ok {t b : Int} (ht : Bd 41 t) (hb : Bd 41 b) (k : Nat) (hk : k ≤ 60) : sem_trace_of_power [.int t, .int b, .int ((k : Int) + 1)] = M.pure (.int (trP t b k)) := by
  refine pure_wp fun S => ?_
  obtain ⟨i1, i2⟩ := stP_bd ht hb k
  have b1 : Bd 8000 (stP t b k).1 := i1.mono (by omega)
  have b2 : Bd 8000 (stP t b k).2 := i2.mono (by omega)
  (unfold sem_trace_of_power; refine Ev.go_fn rfl ?_; unfold pk_trace_of_power; simp only [Ev.slots, List.map_cons, List.map_nil, List.length_cons, List.length_nil, List.cons_append, List.nil_append, List.replicate, Nat.reduceSub, Nat.reduceAdd])
  (repeat regstrif_gather)
  refine go_val (stairs_ok ht hb k hk) ?_
  (repeat regstrif_gather)
  exact ⟨rfl, rfl⟩
def trootP (top bot : Int) (k : Nat) : Option (Int × Int) :=
  match rootP bot (k + 1) with
  | none => none
  | some p => if 2 * p < bsP (fun m => decide (trP m p k < top)) 40 (2 * p) top ∧ trP (bsP (fun m => decide (trP m p k < top)) 40 (2 * p) top) p k = top then some (bsP (fun m => decide (trP m p k < top)) 40 (2 * p) top, p) else none
def opairD : Option (Int × Int) → D
  | some v => pairD v
  | none => .non
theorem rootP_some {n : Int} {p : Nat} {x : Int} (h1 : 1 ≤ n) (h : rootP n p = some x) : 1 ≤ x ∧ x ≤ n ∧ x ^ p = n := by
  have hb := bs_in (fun m => decide (m ^ p < n)) 40 h1
  unfold rootP at h
  split at h
  · rename_i e
    cases h
    exact ⟨hb.1, hb.2, e⟩
  · cases h
theorem bs_any (f : Int → Bool) : ∀ (k : Nat) (lo hi : Int), lo ≤ bsP f k lo hi ∧ (bsP f k lo hi ≤ hi ∨ bsP f k lo hi = lo)
  | k, lo, hi => by
    rcases Int.lt_or_le hi lo with z | z
    · rw [bs_end f k (by omega)]
      omega
    · have := bs_in f k z
      omega
theorem trootP_ok {top bot : Int} (k : Nat) (h1 : 1 ≤ bot) (h2 : bot < 2 ^ 39) (t1 : 0 ≤ top) (t2 : top < 2 ^ 39) (hk : k ≤ 50) : sem_trace_root [.int top, .int bot, .int ((k : Int) + 1)] = M.pure (opairD (trootP top bot k)) := by
  refine pure_wp fun S => ?_
  have rp := rootP_ok (n := bot) (k + 1) h1 (by omega) (by omega)
  have ek : (((k + 1 : Nat)) : Int) = (k : Int) + 1 := by omega
  rw [ek] at rp
  unfold trootP
  rcases hp : rootP bot (k + 1) with _ | p
  · rw [hp] at rp
    have rp : sem_root_of_power [.int bot, .int ((k : Int) + 1)] = M.pure .non := rp
    (unfold sem_trace_root; refine Ev.go_fn rfl ?_; unfold pk_trace_root; simp only [Ev.slots, List.map_cons, List.map_nil, List.length_cons, List.length_nil, List.cons_append, List.nil_append, List.replicate, Nat.reduceSub, Nat.reduceAdd])
    (repeat regstrif_gather)
    refine go_val rp ?_
    (repeat regstrif_gather)
    exact ⟨rfl, rfl⟩
  · rw [hp] at rp
    have rp : sem_root_of_power [.int bot, .int ((k : Int) + 1)] = M.pure (.int p) := rp
    obtain ⟨p1, p2, p3⟩ := rootP_some h1 hp
    have bp : Bd 41 p := .mk (by omega)
    have bt : Bd 41 top := .mk (by omega)
    have tk : ∀ m : Int, 0 ≤ m → m < 2 ^ 41 → sem_trace_of_power [.int m, .int p, .int ((k : Int) + 1)] = M.pure (.int (trP m p k)) := fun m a b => trP_ok (.mk (by omega)) bp k (by omega)
    have hb := bs_any (fun m => decide (trP m p k < top)) 40 (2 * p) top
    dsimp only
    generalize hR : bsP (fun m => decide (trP m p k < top)) 40 (2 * p) top = R at hb ⊢
    have n40 : top - 2 * p < 2 ^ 40 := by omega
    have R41 : R < 2 ^ 41 := by omega
    have kk : ∀ x : Int, 0 ≤ x → x < 2 ^ 41 → Bd 41 x := fun x a b => .mk (by omega)
    obtain ⟨K, hK⟩ : ∃ K : Nat, K = 40 := ⟨_, rfl⟩
    rw [← hK] at hR n40
    (unfold sem_trace_root; refine Ev.go_fn rfl ?_; unfold pk_trace_root; simp only [Ev.slots, List.map_cons, List.map_nil, List.length_cons, List.length_nil, List.cons_append, List.nil_append, List.replicate, Nat.reduceSub, Nat.reduceAdd])
    (repeat regstrif_gather)
    refine go_val rp ?_
    (repeat regstrif_gather)
    refine gs_iter (J := fun k2 sd S' => S' = S ∧ ∃ (lo hi : Int) (y : SV), sd = [.val (.int top), .val (.int bot), .val (.int ((k : Int) + 1)), .val (.int p), .val (.int lo), .val (.int hi), y] ∧ 2 * p ≤ lo ∧ 0 ≤ hi ∧ hi ≤ top ∧ hi - lo < 2 ^ k2 ∧ lo < 2 ^ 41 ∧ bsP (fun m => decide (trP m p k < top)) k2 lo hi = R) ?_ K _ _ (by rw [hK]; decide) ⟨rfl, 2 * p, top, _, rfl, Int.le_refl _, t1, Int.le_refl _, n40, by omega, hR⟩
    rintro k2 sd S' ⟨rfl, lo, hi, y, rfl, l1, lh, hn, w, l41, e⟩
    have b1 : Bd 41 lo := kk lo (by omega) (by omega)
    have b2 : Bd 41 hi := kk hi (by omega) (by omega)
    (repeat regstrif_gather)
    refine ite_d (fun c => ?_) (fun c => ?_)
    · rcases k2 with _ | k2
      · simp at w
        omega
      have e2 : (2 : Int) ^ (k2 + 1) = 2 * 2 ^ k2 := by rw [Int.pow_succ, Int.mul_comm]
      have pm := tk ((lo + hi) / 2) (by omega) (by omega)
      have bm : Bd 41 ((lo + hi) / 2) := kk _ (by omega) (by omega)
      (repeat regstrif_gather)
      refine go_val pm ?_
      (repeat regstrif_gather)
      refine ite_d (fun t => ?_) (fun t => ?_)
      · rw [bs_up c (decide_eq_true t)] at e
        (repeat regstrif_gather)
        exact ⟨k2, by omega, rfl, _, _, _, rfl, by omega, by omega, hn, by omega, by omega, e⟩
      · rw [bs_down c (by simpa using t)] at e
        (repeat regstrif_gather)
        exact ⟨k2, by omega, rfl, _, _, _, rfl, l1, by omega, by omega, by omega, l41, e⟩
    · rw [bs_end _ _ c] at e
      subst e
      (repeat regstrif_gather)
      refine ite_d (fun t => ?_) (fun t => ?_)
      · (repeat regstrif_gather)
        refine go_val (tk lo (by omega) R41) ?_
        (repeat regstrif_gather)
        refine ite_d (fun u => ?_) (fun u => ?_)
        · rw [if_pos ⟨t, u⟩]
          (repeat regstrif_gather)
          exact ⟨rfl, rfl⟩
        · rw [if_neg (fun z => u z.2)]
          (repeat regstrif_gather)
          exact ⟨rfl, rfl⟩
      · rw [if_neg (fun z => t z.1)]
        (repeat regstrif_gather)
        exact ⟨rfl, rfl⟩
end K35
set_option maxRecDepth 100000
set_option maxHeartbeats 2000000
namespace K35
open PySem Ev
theorem stP_pos {t b : Int} (hb : 1 ≤ b) (ht : 2 * b ≤ t) : ∀ k : Nat, 0 < (stP t b k).1 ∧ 0 ≤ (stP t b k).2 ∧ b * (stP t b k).2 ≤ (stP t b k).1
  | 0 => by
    show (0 : Int) < 1 ∧ (0 : Int) ≤ 0 ∧ b * 0 ≤ 1
    omega
  | k + 1 => by
    obtain ⟨i1, i2, i3⟩ := stP_pos hb ht k
    show 0 < t * (stP t b k).1 - b * b * (stP t b k).2 ∧ 0 ≤ (stP t b k).1 ∧ b * (stP t b k).1 ≤ t * (stP t b k).1 - b * b * (stP t b k).2
    generalize (stP t b k).1 = h at *
    generalize (stP t b k).2 = g at *
    have a1 := Int.mul_le_mul_of_nonneg_right ht (Int.le_of_lt i1)
    have a2 := Int.mul_le_mul_of_nonneg_left i3 (show 0 ≤ b by omega)
    have a3 := Int.mul_pos (show 0 < b by omega) i1
    have e1 : 2 * b * h = 2 * (b * h) := by grind
    have e2 : b * (b * g) = b * b * g := by grind
    omega
theorem st31 : ∀ k : Nat, 2 ^ k ≤ (stP 3 1 k).1 ∧ 2 * (stP 3 1 k).2 ≤ (stP 3 1 k).1
  | 0 => by decide
  | k + 1 => by
    obtain ⟨i1, i2⟩ := st31 k
    show 2 ^ (k + 1) ≤ 3 * (stP 3 1 k).1 - 1 * 1 * (stP 3 1 k).2 ∧ 2 * (stP 3 1 k).1 ≤ 3 * (stP 3 1 k).1 - 1 * 1 * (stP 3 1 k).2
    have e : (2 : Int) ^ (k + 1) = 2 * 2 ^ k := by rw [Int.pow_succ, Int.mul_comm]
    have := stP_pos (t := 3) (b := 1) (by decide) (by decide) k
    omega
theorem tr31 (k : Nat) : 2 ^ k ≤ trP 3 1 k := by
  obtain ⟨i1, i2⟩ := st31 k
  have := stP_pos (t := 3) (b := 1) (by decide) (by decide) k
  unfold trP
  omega
theorem star_big {m : Mx} {s : Int} (hm : m.S 8000) (hs : Sm 8000 s) (ga : s ≤ m.a) (gd : s ≤ m.d) (gc : 0 < m.c) (gs : 0 < s) : sem_star_of [m.D, .int s] = M.pure (.tup ((((starQ m s).map lowF).filter keep).map Fp.D)) := by
  refine pure_wp fun S => ?_
  have lo : ∀ t b : Int, Sm 8000 t → Sm 8000 b → 0 < t + b → sem_lowest [.int t, .int b] = M.pure (pairD (lowP (t, b))) := fun t b h1 h2 h3 => lowest_big t b h1 h2 h3 (by decide)
  have sa : Sm 8000 (m.a - s) := ⟨by omega, by have := hm.a.2; have := hs.1; exact Int.lt_of_le_of_lt (by omega) hm.a.2⟩
  have sd : Sm 8000 (m.d - s) := ⟨by omega, by have := hm.d.2; have := hs.1; exact Int.lt_of_le_of_lt (by omega) hm.d.2⟩
  have ba : Bd 8000 m.a := bd_sm hm.a
  have bc : Bd 8000 m.c := bd_sm hm.c
  have bd : Bd 8000 m.d := bd_sm hm.d
  have bs : Bd 8000 s := bd_sm hs
  have l1 := lo (m.a - s) m.c sa hm.c (by omega)
  have l2 := lo s m.c hs hm.c (by omega)
  have l3 := lo (m.d - s) m.c sd hm.c (by omega)
  unfold Mx.D starQ
  (unfold sem_star_of; refine Ev.go_fn rfl ?_; unfold pk_star_of; simp only [Ev.slots, List.map_cons, List.map_nil, List.length_cons, List.length_nil, List.cons_append, List.nil_append, List.replicate, Nat.reduceSub, Nat.reduceAdd])
  (repeat regstrif_gather)
  rw [if_neg (show ¬ m.c = 0 by omega)]
  · refine go_val l1 ?_
    (repeat regstrif_gather)
    refine go_val l2 ?_
    (repeat regstrif_gather)
    refine go_val l3 ?_
    (repeat regstrif_gather)
    exact go_val (row_of_ok [(true, lowP (m.a - s, m.c)), (false, lowP (s, m.c)), (true, lowP (m.d - s, m.c))] (by simp)) ⟨rfl, rfl⟩
def fndP (m : Mx) (s : Int) (v : Int × Int) (k : Nat) : Mx :=
  ⟨m.a * v.2 ^ k + s * (stP v.1 v.2 k).2 * v.2, m.b * v.2 ^ k, m.c * v.2 ^ k, m.d * v.2 ^ k + s * (stP v.1 v.2 k).2 * v.2⟩
def whlP (s : Int) (v : Int × Int) (k : Nat) : Int := (stP v.1 v.2 k).1 * s
def rrowP (m : Mx) (s : Int) (v : Int × Int) (k : Nat) : Option (List Fp) :=
  if (fndP m s v k).a < whlP s v k ∨ (fndP m s v k).d < whlP s v k then none else some (((starQ (fndP m s v k) (whlP s v k)).map lowF).filter keep)
def orowD : Option (List Fp) → D
  | some l => .tup (l.map Fp.D)
  | none => .non
theorem rrowP_ok {m : Mx} {s : Int} {v : Int × Int} (k : Nat) (hm : m.S 41) (hs : Sm 41 s) (s0 : 0 < s) (c0 : 0 < m.c) (v1 : 1 ≤ v.2) (v2 : v.2 < 2 ^ 39) (v3 : 2 * v.2 < v.1) (v4 : v.1 < 2 ^ 41) (hk : k ≤ 50) : sem_root_row [m.D, .int s, pairD v, .int ((k : Int) + 1)] = M.pure (orowD (rrowP m s v k)) := by
  refine pure_wp fun S => ?_
  have bt : Bd 41 v.1 := .mk (by omega)
  have bb : Bd 41 v.2 := .mk (by omega)
  have st := stairs_ok bt bb k (by omega)
  have pw := power_ok (j := 41) (x := v.2) ⟨by omega, by omega⟩ k (by omega) (by decide) (by omega)
  obtain ⟨p1, p2, p3⟩ := stP_pos v1 (by omega : 2 * v.2 ≤ v.1) k
  obtain ⟨q1, q2⟩ := stP_bd bt bb k
  have by0 : 0 < v.2 ^ k := Int.pow_pos (by omega)
  have byb : Sm 2100 (v.2 ^ k) := by
    refine ⟨Int.le_of_lt by0, ?_⟩
    have l : v.2 ≤ 2 ^ 39 := by omega
    have e : v.2 ^ k ≤ (2 ^ 39) ^ k := by
      have a : v.2.toNat ^ k ≤ (2 ^ 39) ^ k := Nat.pow_le_pow_left (by omega) k
      have b : v.2 = (v.2.toNat : Int) := by omega
      rw [b]
      exact_mod_cast a
    have f : ((2 : Int) ^ 39) ^ k = 2 ^ (39 * k) := Int.pow_mul.symm
    rw [f] at e
    refine Int.lt_of_le_of_lt e ?_
    exact_mod_cast Nat.pow_lt_pow_right (by decide) (by omega)
  have sh1 : Sm 4300 (stP v.1 v.2 k).1 := ⟨by omega, by
    have := (q1.mono (show 84 * k + 1 ≤ 4300 by omega)).nat
    have e : ((stP v.1 v.2 k).1.natAbs : Int) = (stP v.1 v.2 k).1 := by omega
    rw [← e]
    exact_mod_cast this⟩
  have sh2 : Sm 4300 (stP v.1 v.2 k).2 := ⟨by omega, by
    have := (q2.mono (show 84 * k + 1 ≤ 4300 by omega)).nat
    have e : ((stP v.1 v.2 k).2.natAbs : Int) = (stP v.1 v.2 k).2 := by omega
    rw [← e]
    exact_mod_cast this⟩
  have sv2 : Sm 41 v.2 := ⟨by omega, by omega⟩
  have mo := (hs.mul sh2).mul sv2
  have wh := (sh1.mul hs).mono (show 4300 + 41 ≤ 8000 by decide)
  have fa := (((hm.a.mul byb).mono (show 41 + 2100 ≤ 41 + 4300 + 41 by decide)).add mo).mono (show 41 + 4300 + 41 + 1 ≤ 8000 by decide)
  have fb := (hm.b.mul byb).mono (show 41 + 2100 ≤ 8000 by decide)
  have fc := (hm.c.mul byb).mono (show 41 + 2100 ≤ 8000 by decide)
  have fd := (((hm.d.mul byb).mono (show 41 + 2100 ≤ 41 + 4300 + 41 by decide)).add mo).mono (show 41 + 4300 + 41 + 1 ≤ 8000 by decide)
  have F : (fndP m s v k).S 8000 := ⟨fa, fb, fc, fd⟩
  have fc0 : 0 < (fndP m s v k).c := Int.mul_pos c0 by0
  have wh0 : 0 < whlP s v k := Int.mul_pos p1 s0
  have B1 : Bd 4300 (stP v.1 v.2 k).1 := bd_sm sh1
  have B2 : Bd 4300 (stP v.1 v.2 k).2 := bd_sm sh2
  have B3 : Bd 2100 (v.2 ^ k) := bd_sm byb
  have C1 : Bd 41 m.a := bd_sm hm.a
  have C2 : Bd 41 m.b := bd_sm hm.b
  have C3 : Bd 41 m.c := bd_sm hm.c
  have C4 : Bd 41 m.d := bd_sm hm.d
  have C5 : Bd 41 s := bd_sm hs
  have sb := fun h1 h2 => star_big F wh h1 h2 fc0 wh0
  have kk : ((k : Int) + 1 - 1) = k := by omega
  unfold Mx.D pairD
  (unfold sem_root_row; refine Ev.go_fn rfl ?_; unfold pk_root_row; simp only [Ev.slots, List.map_cons, List.map_nil, List.length_cons, List.length_nil, List.cons_append, List.nil_append, List.replicate, Nat.reduceSub, Nat.reduceAdd])
  (repeat regstrif_gather)
  refine go_val st ?_
  (repeat regstrif_gather)
  rw [kk]
  refine go_val pw ?_
  (repeat regstrif_gather)
  have sb : s * 0 = 0 := Int.mul_zero s
  refine ite_d (fun c1 => ?_) (fun c1 => ?_)
  · have c1' : (fndP m s v k).a < whlP s v k := c1
    (repeat regstrif_gather)
    refine ⟨?_, rfl⟩
    unfold rrowP
    rw [if_pos (.inl c1')]
    rfl
  · have c1' : ¬ (fndP m s v k).a < whlP s v k := c1
    (repeat regstrif_gather)
    refine ite_d (fun c2 => ?_) (fun c2 => ?_)
    · have c2' : (fndP m s v k).d < whlP s v k := c2
      (repeat regstrif_gather)
      refine ⟨?_, rfl⟩
      unfold rrowP
      rw [if_pos (.inr c2')]
      rfl
    · have c2' : ¬ (fndP m s v k).d < whlP s v k := c2
      have sb := star_big F wh (by show whlP s v k ≤ _; omega) (by show whlP s v k ≤ _; omega) fc0 wh0
      have sb : sem_star_of [.tup [.int (m.a * v.2 ^ k + s * (stP v.1 v.2 k).2 * v.2), .int (m.b * v.2 ^ k), .int (m.c * v.2 ^ k), .int (m.d * v.2 ^ k + s * (stP v.1 v.2 k).2 * v.2)], .int ((stP v.1 v.2 k).1 * s)] = M.pure (.tup ((((starQ (fndP m s v k) (whlP s v k)).map lowF).filter keep).map Fp.D)) := sb
      (repeat regstrif_gather)
      refine go_val sb ?_
      refine ⟨?_, rfl⟩
      unfold rrowP
      rw [if_neg (fun z => z.elim c1' c2')]
      rfl
theorem trootP_some {top bot : Int} {k : Nat} {v : Int × Int} (h1 : 1 ≤ bot) (h : trootP top bot k = some v) : 1 ≤ v.2 ∧ v.2 ≤ bot ∧ 2 * v.2 < v.1 ∧ (v.1 ≤ top ∨ v.1 = 2 * v.2) := by
  unfold trootP at h
  rcases hp : rootP bot (k + 1) with _ | p
  · rw [hp] at h
    cases h
  · rw [hp] at h
    obtain ⟨p1, p2, p3⟩ := rootP_some h1 hp
    have hb := bs_any (fun m => decide (trP m p k < top)) 40 (2 * p) top
    dsimp only at h
    split at h
    · rename_i e
      cases h
      exact ⟨p1, p2, e.1, by omega⟩
    · cases h
def mayP (top bot : Int) (k : Nat) : Bool := if 1 < bot then decide ((2 : Int) ^ (k + 1) ≤ bot) else decide (trP 3 1 k ≤ top)
theorem mayP_ok {top bot : Int} (k : Nat) (hk : k ≤ 50) : sem_may_be [.int top, .int bot, .int ((k : Int) + 1)] = M.pure (.bl (mayP top bot k)) := by
  refine pure_wp fun S => ?_
  have pw := power_ok (j := 2) (x := 2) ⟨by decide, by decide⟩ (k + 1) (by omega) (by decide) (by omega)
  have ek : (((k + 1 : Nat)) : Int) = (k : Int) + 1 := by omega
  rw [ek] at pw
  have tk := trP_ok (t := 3) (b := 1) (.mk (by decide)) (.mk (by decide)) k (by omega)
  unfold mayP
  (unfold sem_may_be; refine Ev.go_fn rfl ?_; unfold pk_may_be; simp only [Ev.slots, List.map_cons, List.map_nil, List.length_cons, List.length_nil, List.cons_append, List.nil_append, List.replicate, Nat.reduceSub, Nat.reduceAdd])
  (repeat regstrif_gather)
  refine ite_d (fun c => ?_) (fun c => ?_)
  · rw [if_pos c]
    (repeat regstrif_gather)
    refine go_val pw ?_
    (repeat regstrif_gather)
    exact ⟨rfl, rfl⟩
  · rw [if_neg c]
    (repeat regstrif_gather)
    refine go_val tk ?_
    (repeat regstrif_gather)
    exact ⟨rfl, rfl⟩
theorem mayP_end {top bot : Int} {k : Nat} (h1 : bot < 2 ^ 39) (h2 : top < 2 ^ 39) (h : mayP top bot k = true) : k < 40 := by
  rcases Nat.lt_or_ge k 40 with z | z
  · exact z
  · have p : (2 : Int) ^ 40 ≤ 2 ^ k := by exact_mod_cast Nat.pow_le_pow_right (by decide) z
    have q : (2 : Int) ^ (k + 1) = 2 * 2 ^ k := by rw [Int.pow_succ, Int.mul_comm]
    have t := tr31 k
    unfold mayP at h
    split at h
    · have := of_decide_eq_true h
      omega
    · have := of_decide_eq_true h
      omega
def repG (m : Mx) (s top bot : Int) : Nat → Nat → Int × List Fp → Int × List Fp
  | 0, _, b => b
  | f + 1, k, b => if mayP top bot k = true then repG m s top bot f (k + 1) (match trootP top bot k with
    | none => b
    | some v => match rrowP m s v k with
      | none => b
      | some l => ((k : Int) + 1, l)) else b
@[irreducible] def repB (m : Mx) (s : Int) : Int × List Fp := repG m s (lowP (m.a + m.d, s)).1 (lowP (m.a + m.d, s)).2 45 1 (1, ((starQ m s).map lowF).filter keep)
def bestD (b : Int × List Fp) : D := .tup [.int b.1, .tup (b.2.map Fp.D)]
def repD (m : Mx) (s : Int) : D := if m.c = 0 ∨ m.b = 0 then .non else bestD (repB m s)
theorem mat13 : ∀ {r : List Pc}, (∀ p ∈ r, p.ok) → (mat r).a ≤ 13 ^ r.length ∧ (mat r).b ≤ 13 ^ r.length ∧ (mat r).c ≤ 13 ^ r.length ∧ (mat r).d ≤ 13 ^ r.length
  | [], _ => by decide
  | p :: r, h => by
    have hr : ∀ q ∈ r, q.ok := fun q hq => h q (List.mem_cons_of_mem _ hq)
    obtain ⟨i1, i2, i3, i4⟩ := mat13 hr
    obtain ⟨j1, j2, j3, j4, j5⟩ := ad_ge hr
    obtain ⟨o1, o2⟩ := h p List.mem_cons_self
    have ml : ∀ x : Int, 0 ≤ x → p.o * x ≤ 12 * x := fun x hx => Int.mul_le_mul_of_nonneg_right o2 hx
    have oa := ml (mat r).a (by omega)
    have ob := ml (mat r).b (by omega)
    have oc := ml (mat r).c (by omega)
    have od := ml (mat r).d (by omega)
    have e : (13 : Int) ^ (r.length + 1) = 13 * 13 ^ r.length := by rw [Int.pow_succ, Int.mul_comm]
    rw [List.length_cons, mat_cons, e]
    obtain ⟨b, o⟩ := p
    dsimp only at oa ob oc od
    cases b with
    | true =>
      simp only [Mx.mul, Pc.m, if_true]
      omega
    | false =>
      simp only [Mx.mul, Pc.m, Bool.false_eq_true, if_false]
      omega
theorem mat_small {r : List Pc} (h : Row r) : (mat r).a ≤ 815730721 ∧ (mat r).b ≤ 815730721 ∧ (mat r).c ≤ 815730721 ∧ (mat r).d ≤ 815730721 := by
  have m := mat13 h.1
  have l : (13 : Int) ^ r.length ≤ 13 ^ 8 := by exact_mod_cast Nat.pow_le_pow_right (by decide) h.2
  have e : (13 : Int) ^ 8 = 815730721 := by decide
  omega
theorem repetition_ok {r : List Pc} (h : Row r) (ne : r ≠ []) : sem_repetition [patD r] = M.pure (repD (mat r) (scl r)) := by
  refine pure_wp fun S => ?_
  have hm : (mat r).S 41 := h.sm41.1
  have hs : Sm 41 (scl r) := h.sm41.2
  have g := good_of h.1 ne
  have s0 := g.s0
  have st := star_ok h ne
  have ms := mat_small h
  have ir : ∀ a b c d : Int, sem_is_rails [.tup [.int a, .int b, .int c, .int d]] = M.pure (.bl (decide (c = 0))) := fun a b c d => by
    refine pure_wp fun S => ?_
    (unfold sem_is_rails; refine Ev.go_fn rfl ?_; unfold pk_is_rails; simp only [Ev.slots, List.map_cons, List.map_nil, List.length_cons, List.length_nil, List.cons_append, List.nil_append, List.replicate, Nat.reduceSub, Nat.reduceAdd])
    (repeat regstrif_gather)
    exact ⟨rfl, rfl⟩
  have ig : ∀ a b c d : Int, sem_is_rungs [.tup [.int a, .int b, .int c, .int d]] = M.pure (.bl (decide (b = 0))) := fun a b c d => by
    refine pure_wp fun S => ?_
    (unfold sem_is_rungs; refine Ev.go_fn rfl ?_; unfold pk_is_rungs; simp only [Ev.slots, List.map_cons, List.map_nil, List.length_cons, List.length_nil, List.cons_append, List.nil_append, List.replicate, Nat.reduceSub, Nat.reduceAdd])
    (repeat regstrif_gather)
    exact ⟨rfl, rfl⟩
  unfold repD
  unfold starD at st
  (unfold sem_repetition; refine Ev.go_fn rfl ?_; unfold pk_repetition; simp only [Ev.slots, List.map_cons, List.map_nil, List.length_cons, List.length_nil, List.cons_append, List.nil_append, List.replicate, Nat.reduceSub, Nat.reduceAdd])
  (repeat regstrif_gather)
  refine go_val (check_pat_ok r) ?_
  (repeat regstrif_gather)
  have ac : attr (tab [(1, .fld 1)]) (patD r) = M.pure (.tup [.int (mat r).a, .int (mat r).b, .int (mat r).c, .int (mat r).d]) := attr_chain r
  have as : attr (tab [(1, .fld 2)]) (patD r) = M.pure (.int (scl r)) := attr_scale r
  generalize mat r = m at *
  generalize scl r = s at *
  refine go_val ac ?_
  (repeat regstrif_gather)
  refine go_val as ?_
  (repeat regstrif_gather)
  refine go_val (ir _ _ _ _) ?_
  (repeat regstrif_gather)
  refine ite_d (fun c1 => ?_) (fun c1 => ?_)
  · (repeat regstrif_gather)
    refine ⟨?_, rfl⟩
    rw [if_pos (.inl c1)]
  · (repeat regstrif_gather)
    refine go_val (ig _ _ _ _) ?_
    (repeat regstrif_gather)
    refine ite_d (fun c2 => ?_) (fun c2 => ?_)
    · (repeat regstrif_gather)
      refine ⟨?_, rfl⟩
      rw [if_pos (.inr c2)]
    · rw [if_neg (fun z => z.elim c1 c2)]
      obtain ⟨ga, gd, gb, gc, gs, gbc, ge⟩ := g
      have a2 := hm.a.2
      have d2 := hm.d.2
      have s2 := hs.2
      have bA : Bd 41 m.a := bd_sm hm.a
      have bD : Bd 41 m.d := bd_sm hm.d
      have lo := lowest_big (k := 42) (m.a + m.d) s ⟨by omega, by omega⟩ ⟨by omega, by omega⟩ (by omega) (by decide)
      obtain ⟨g0, g00, e1, e2⟩ := lowP_mul (v := (m.a + m.d, s)) (by show 0 ≤ m.a + m.d; omega) (by show 0 ≤ s; omega) (by show 0 < m.a + m.d + s; omega)
      have e1 : g0 * (lowP (m.a + m.d, s)).1 = m.a + m.d := e1
      have e2 : g0 * (lowP (m.a + m.d, s)).2 = s := e2
      unfold repB
      generalize lowP (m.a + m.d, s) = L at *
      have L1 : 0 ≤ L.1 ∧ L.1 < 2 ^ 39 := by
        have z0 : 0 ≤ L.1 := by
          rcases Int.lt_or_le L.1 0 with z | z
          · have := Int.mul_neg_of_pos_of_neg g00 z
            omega
          · exact z
        have := Int.mul_le_mul_of_nonneg_right (show 1 ≤ g0 by omega) z0
        omega
      have L2 : 1 ≤ L.2 ∧ L.2 < 2 ^ 39 := by
        have z0 : 0 < L.2 := by
          rcases Int.lt_or_le 0 L.2 with z | z
          · exact z
          · have := Int.mul_nonneg (Int.le_of_lt g00) (show 0 ≤ -L.2 by omega)
            have e : g0 * -L.2 = -(g0 * L.2) := by grind
            omega
        have := Int.mul_le_mul_of_nonneg_right (show 1 ≤ g0 by omega) (Int.le_of_lt z0)
        omega
      have bL1 : Bd 40 L.1 := .mk (by omega)
      have bL2 : Bd 40 L.2 := .mk (by omega)
      generalize hR : repG m s L.1 L.2 45 1 (1, ((starQ m s).map lowF).filter keep) = R
      (repeat regstrif_gather)
      refine go_val lo ?_
      unfold pairD
      (repeat regstrif_gather)
      refine go_val st ?_
      (repeat regstrif_gather)
      refine gs_iter (J := fun f sd S' => S' = S ∧ ∃ (k : Nat) (b : Int × List Fp) (y1 y2 : SV), sd = [.val (patD r), .val (.tup [.int m.a, .int m.b, .int m.c, .int m.d]), .val (.int s), .val (.int L.1), .val (.int L.2), .val (.int ((k : Int) + 1)), .val (bestD b), y1, y2] ∧ k + f = 46 ∧ repG m s L.1 L.2 f k b = R) ?_ 45 _ _ (by decide) ⟨rfl, 1, (1, ((starQ m s).map lowF).filter keep), _, _, rfl, by decide, hR⟩
      rintro f sd S' ⟨rfl, k, b, y1, y2, rfl, hk, e⟩
      have mk := mayP_ok (top := L.1) (bot := L.2) k (by omega)
      (repeat regstrif_gather)
      refine go_val mk ?_
      cases hm2 : mayP L.1 L.2 k with
      | false =>
        (repeat regstrif_gather)
        refine ⟨?_, rfl⟩
        have : repG m s L.1 L.2 f k b = b := by
          cases f with
          | zero => rfl
          | succ f => unfold repG; rw [hm2]; rfl
        rw [← e, this]
      | true =>
        have k40 := mayP_end L2.2 L1.2 hm2
        rcases f with _ | f
        · omega
        rw [repG, if_pos hm2] at e
        have tk := trootP_ok (top := L.1) (bot := L.2) k L2.1 L2.2 L1.1 L1.2 (by omega)
        have ek : (k : Int) + 1 + 1 = ((k + 1 : Nat) : Int) + 1 := by omega
        rcases ht : trootP L.1 L.2 k with _ | v
        · rw [ht] at tk e
          have tk : sem_trace_root [.int L.1, .int L.2, .int ((k : Int) + 1)] = M.pure .non := tk
          (repeat regstrif_gather)
          refine go_val tk ?_
          (repeat regstrif_gather)
          refine gs_aug rfl ?_
          (repeat regstrif_gather)
          refine ⟨1, rfl, ?_⟩
          (repeat regstrif_gather)
          exact ⟨f, by omega, rfl, k + 1, b, _, _, by rw [ek], by omega, e⟩
        · obtain ⟨w1, w2, w3, w4⟩ := trootP_some L2.1 ht
          rw [ht] at tk e
          have tk : sem_trace_root [.int L.1, .int L.2, .int ((k : Int) + 1)] = M.pure (pairD v) := tk
          have rk := rrowP_ok (v := v) k hm hs s0 (by omega) w1 (by omega) w3 (by omega) (by omega)
          rcases hr : rrowP m s v k with _ | l
          · rw [hr] at rk
            have rk : sem_root_row [.tup [.int m.a, .int m.b, .int m.c, .int m.d], .int s, pairD v, .int ((k : Int) + 1)] = M.pure .non := rk
            dsimp only at e
            rw [hr] at e
            (repeat regstrif_gather)
            refine go_val tk ?_
            (repeat regstrif_gather)
            refine go_val (r := .bl false) rfl ?_
            (repeat regstrif_gather)
            refine go_val rk ?_
            (repeat regstrif_gather)
            refine gs_aug rfl ?_
            (repeat regstrif_gather)
            refine ⟨1, rfl, ?_⟩
            (repeat regstrif_gather)
            exact ⟨f, by omega, rfl, k + 1, b, _, _, by rw [ek], by omega, e⟩
          · rw [hr] at rk
            have rk : sem_root_row [.tup [.int m.a, .int m.b, .int m.c, .int m.d], .int s, pairD v, .int ((k : Int) + 1)] = M.pure (.tup (l.map Fp.D)) := rk
            dsimp only at e
            rw [hr] at e
            (repeat regstrif_gather)
            refine go_val tk ?_
            (repeat regstrif_gather)
            refine go_val (r := .bl false) rfl ?_
            (repeat regstrif_gather)
            refine go_val rk ?_
            (repeat regstrif_gather)
            refine gs_aug rfl ?_
            (repeat regstrif_gather)
            refine ⟨1, rfl, ?_⟩
            (repeat regstrif_gather)
            exact ⟨f, by omega, rfl, k + 1, ((k : Int) + 1, l), _, _, by rw [ek]; rfl, by omega, e⟩
end K35
set_option maxRecDepth 100000
set_option maxHeartbeats 2000000
namespace K35
open PySem Ev
theorem star_flip (m : Mx) (s : Int) : starQ m.flip s = (starQ m s).reverse := by
  unfold starQ Mx.flip
  by_cases c : m.c = 0
  · rw [if_pos c, if_pos c]
    rfl
  · rw [if_neg c, if_neg c]
    rfl
theorem ring_flip (m : Mx) (s : Int) : ringQ m.flip s = (ringQ m s).reverse := by
  unfold ringQ Mx.flip
  by_cases c : m.b = 0
  · rw [if_pos c, if_pos c]
    rfl
  · rw [if_neg c, if_neg c]
    rfl
theorem low_rev (l : List Fp) : ((l.reverse.map lowF).filter keep) = ((l.map lowF).filter keep).reverse := by
  rw [List.map_reverse, List.filter_reverse]
theorem star_rev (r : List Pc) : starL r.reverse = (starL r).reverse := by
  unfold starL
  rw [mat_rev, scl_rev, star_flip, low_rev]
theorem ring_rev (r : List Pc) : ringL r.reverse = (ringL r).reverse := by
  unfold ringL
  rw [mat_rev, scl_rev, ring_flip, low_rev]
theorem fnd_flip (m : Mx) (s : Int) (v : Int × Int) (k : Nat) : fndP m.flip s v k = (fndP m s v k).flip := rfl
theorem rrow_flip (m : Mx) (s : Int) (v : Int × Int) (k : Nat) : rrowP m.flip s v k = (rrowP m s v k).map List.reverse := by
  unfold rrowP
  rw [fnd_flip]
  by_cases c : (fndP m s v k).a < whlP s v k ∨ (fndP m s v k).d < whlP s v k
  · rw [if_pos c, if_pos (show (fndP m s v k).flip.a < whlP s v k ∨ (fndP m s v k).flip.d < whlP s v k from c.symm)]
    rfl
  · rw [if_neg c, if_neg (show ¬ ((fndP m s v k).flip.a < whlP s v k ∨ (fndP m s v k).flip.d < whlP s v k) from fun z => c z.symm), star_flip, low_rev]
    rfl
def turnB (b : Int × List Fp) : Int × List Fp := (b.1, b.2.reverse)
theorem rep_flip (m : Mx) (s top bot : Int) : ∀ (f k : Nat) (b : Int × List Fp), repG m.flip s top bot f k (turnB b) = turnB (repG m s top bot f k b)
  | 0, _, _ => rfl
  | f + 1, k, b => by
    rw [repG, repG]
    by_cases c : mayP top bot k = true
    · rw [if_pos c, if_pos c]
      rcases trootP top bot k with _ | v
      · exact rep_flip m s top bot f (k + 1) b
      · dsimp only
        rw [rrow_flip]
        rcases rrowP m s v k with _ | l
        · exact rep_flip m s top bot f (k + 1) b
        · exact rep_flip m s top bot f (k + 1) ((k : Int) + 1, l)
    · rw [if_neg c, if_neg c]
theorem repB_flip (m : Mx) (s : Int) : repB m.flip s = turnB (repB m s) := by
  unfold repB
  have e : m.flip.a + m.flip.d = m.a + m.d := Int.add_comm _ _
  rw [e, star_flip, low_rev]
  exact rep_flip m s _ _ 45 1 (1, ((starQ m s).map lowF).filter keep)
def Sml (l : List Fp) : Prop := l.length ≤ 8 ∧ ∀ x ∈ l, Bd 100 x.2.1 ∧ Bd 100 x.2.2
theorem troot_trace {top bot : Int} {k : Nat} {v : Int × Int} (h1 : 1 ≤ bot) (h : trootP top bot k = some v) : trP v.1 v.2 k = top ∧ v.2 ^ (k + 1) = bot := by
  unfold trootP at h
  rcases hp : rootP bot (k + 1) with _ | p
  · rw [hp] at h
    cases h
  · rw [hp] at h
    obtain ⟨p1, p2, p3⟩ := rootP_some h1 hp
    dsimp only at h
    split at h
    · rename_i e
      cases h
      exact ⟨e.2, p3⟩
    · cases h
theorem low_bd {t b : Int} (ht : Sm 100 t) (hb : Sm 100 b) (h : 0 < t + b) : Bd 100 (lowP (t, b)).1 ∧ Bd 100 (lowP (t, b)).2 := by
  obtain ⟨a, c⟩ := low_sm ht hb h
  exact ⟨bd_sm a, bd_sm c⟩
theorem star_sml {m : Mx} {s : Int} (hm : m.S 100) (hs : Sm 100 s) (ga : s ≤ m.a) (gd : s ≤ m.d) (gc : 0 < m.c) (s0 : 0 < s) : Sml (((starQ m s).map lowF).filter keep) := by
  have sa : Sm 100 (m.a - s) := ⟨by omega, Int.lt_of_le_of_lt (by omega) hm.a.2⟩
  have sd : Sm 100 (m.d - s) := ⟨by omega, Int.lt_of_le_of_lt (by omega) hm.d.2⟩
  unfold starQ
  rw [if_neg (by omega)]
  refine ⟨Nat.le_trans (List.length_filter_le _ _) (by simp), fun x hx => ?_⟩
  have hx := (List.mem_filter.mp hx).1
  simp only [List.map_cons, List.map_nil, List.mem_cons, List.not_mem_nil, or_false] at hx
  rcases hx with rfl | rfl | rfl
  · exact low_bd sa hm.c (by omega)
  · exact low_bd hs hm.c (by omega)
  · exact low_bd sd hm.c (by omega)
theorem rrow_sml {m : Mx} {s top bot : Int} {k : Nat} {v : Int × Int} {l : List Fp} (hm : m.S 41) (hs : Sm 41 s) (s0 : 0 < s) (c0 : 0 < m.c) (b1 : 1 ≤ bot) (b2 : bot < 2 ^ 39) (t2 : top < 2 ^ 39) (h : trootP top bot k = some v) (e : rrowP m s v k = some l) : Sml l := by
  obtain ⟨w1, w2, w3, w4⟩ := trootP_some b1 h
  obtain ⟨x1, x2⟩ := troot_trace b1 h
  obtain ⟨p1, p2, p3⟩ := stP_pos w1 (by omega : 2 * v.2 ≤ v.1) k
  have by0 : 0 < v.2 ^ k := Int.pow_pos (by omega)
  have byb : v.2 ^ k ≤ bot := by
    rw [Int.pow_succ] at x2
    have := Int.mul_le_mul_of_nonneg_left w1 (Int.le_of_lt by0)
    omega
  unfold trP at x1
  unfold rrowP at e
  split at e
  · cases e
  · rename_i c
    cases e
    unfold fndP whlP at *
    generalize (stP v.1 v.2 k).1 = h1 at *
    generalize (stP v.1 v.2 k).2 = g1 at *
    have hb : h1 ≤ top := by
      have a1 := Int.mul_le_mul_of_nonneg_left p3 (show 0 ≤ 2 * v.2 by omega)
      have a2 := Int.mul_le_mul_of_nonneg_right (show 2 * v.2 + 1 ≤ v.1 by omega) (Int.le_of_lt p1)
      have e1 : 2 * v.2 * (v.2 * g1) = 2 * v.2 * v.2 * g1 := by grind
      have e2 : (2 * v.2 + 1) * h1 = 2 * v.2 * h1 + h1 := by grind
      omega
    have bg : Sm 39 (v.2 * g1) := ⟨Int.mul_nonneg (by omega) p2, by omega⟩
    have hh : Sm 39 h1 := ⟨by omega, by omega⟩
    have hy : Sm 39 (v.2 ^ k) := ⟨by omega, by omega⟩
    have mo := hs.mul bg
    have em : s * (v.2 * g1) = s * g1 * v.2 := by grind
    rw [em] at mo
    have fa := (((hm.a.mul hy).mono (show 41 + 39 ≤ 41 + 39 by decide)).add mo).mono (show 41 + 39 + 1 ≤ 100 by decide)
    have fb := (hm.b.mul hy).mono (show 41 + 39 ≤ 100 by decide)
    have fc := (hm.c.mul hy).mono (show 41 + 39 ≤ 100 by decide)
    have fd := (((hm.d.mul hy).mono (show 41 + 39 ≤ 41 + 39 by decide)).add mo).mono (show 41 + 39 + 1 ≤ 100 by decide)
    have wh := (hh.mul hs).mono (show 39 + 41 ≤ 100 by decide)
    exact star_sml ⟨fa, fb, fc, fd⟩ wh (by dsimp only at c ⊢; omega) (by dsimp only at c ⊢; omega) (Int.mul_pos c0 by0) (Int.mul_pos p1 s0)
theorem rep_sml {m : Mx} {s top bot : Int} (hm : m.S 41) (hs : Sm 41 s) (s0 : 0 < s) (c0 : 0 < m.c) (b1 : 1 ≤ bot) (b2 : bot < 2 ^ 39) (t2 : top < 2 ^ 39) : ∀ (f k : Nat) (b : Int × List Fp), Sml b.2 → Sml (repG m s top bot f k b).2
  | 0, _, _, h => h
  | f + 1, k, b, h => by
    rw [repG]
    by_cases c : mayP top bot k = true
    · rw [if_pos c]
      refine rep_sml hm hs s0 c0 b1 b2 t2 f (k + 1) _ ?_
      rcases ht : trootP top bot k with _ | v
      · exact h
      · dsimp only
        rcases hr : rrowP m s v k with _ | l
        · exact h
        · exact rrow_sml hm hs s0 c0 b1 b2 t2 ht hr
    · rw [if_neg c]
      exact h
end K35
set_option maxRecDepth 100000
set_option maxHeartbeats 2000000
namespace K35
open PySem Ev
def fpQ (x : Fp) : PyData := .tuple [.str (Fp.w x), pairQ x.2]
theorem fp_pln (x : Fp) : Pln 2 (Fp.D x) (fpQ x) := by
  have a : Pln 0 (.str (Fp.w x)) (.str (Fp.w x)) := by
    unfold Pln
    refine ⟨rfl, rfl, ?_, Nat.le_refl _⟩
    unfold Fp.w
    split
    · show (PyData.str (Str.ofString "rail")).canLay0 = true
      decide +kernel
    · show (PyData.str (Str.ofString "rung")).canLay0 = true
      decide +kernel
  exact pln_tup (pll_cons a (pll_cons (pln_tup (pll_cons pln_int (pll_cons pln_int pll_nil))) pll_nil))
theorem fps_pl : ∀ l : List Fp, PlnL (2 * l.length) (l.map Fp.D) (l.map fpQ)
  | [] => pll_nil
  | x :: l => by
    have h := pll_cons (fp_pln x) (fps_pl l)
    have e : 2 * (x :: l).length = 2 + 2 * l.length := by rw [List.length_cons]; omega
    rw [e]
    exact h
theorem w_inj2 {x y : Fp} : Fp.w x = Fp.w y ↔ x.1 = y.1 := by
  obtain ⟨a, v⟩ := x
  obtain ⟨b, w⟩ := y
  have e : ∀ a b : Bool, ((if a = true then ("rail" : Str) else "rung") = (if b = true then ("rail" : Str) else "rung")) ↔ a = b := by decide +kernel
  exact e a b
theorem fpQ_inj {x y : Fp} : fpQ x = fpQ y ↔ x = y := by
  constructor
  · intro h
    unfold fpQ at h
    simp only [PyData.tuple.injEq, List.cons.injEq, PyData.str.injEq, and_true] at h
    exact Prod.ext (w_inj2.mp h.1) (pairQ_inj.mp h.2)
  · intro h; rw [h]
theorem fpsQ_inj {l q : List Fp} : l.map fpQ = q.map fpQ ↔ l = q := by
  constructor
  · intro h
    exact List.map_inj_right (fun x y e => fpQ_inj.mp e) |>.mp h
  · intro h; rw [h]
theorem fps_eq (neg : Bool) {l q : List Fp} (hl : l.length ≤ 8) (hq : q.length ≤ 8) {P : Prop} [Decidable P] (i : l = q ↔ P) : dEq neg (.tup (l.map Fp.D)) (.tup (q.map Fp.D)) = M.pure (.bl (if neg = true then !decide P else decide P)) := by
  have i2 : PyData.tuple (l.map fpQ) = PyData.tuple (q.map fpQ) ↔ P := by
    rw [PyData.tuple.injEq, fpsQ_inj, i]
  cases neg
  · exact eq_pln false (pln_tup (fps_pl l)) (pln_tup (fps_pl q)) (by omega) (by omega) i2 rfl
  · exact eq_pln true (pln_tup (fps_pl l)) (pln_tup (fps_pl q)) (by omega) (by omega) i2 rfl
theorem rev3 {X Y Z : Fp} (kx : Bool) (kz : Bool) (hx : keep X = kx) (hz : keep Z = kz) (hy : keep Y = true) (xy : X.1 ≠ Y.1) (zy : Z.1 ≠ Y.1) (e : [X, Y, Z].filter keep = ([X, Y, Z].filter keep).reverse) : kx = kz ∧ (kx = true → X = Z) := by
  cases kx <;> cases kz
  · exact ⟨rfl, fun h => by cases h⟩
  · simp [List.filter_cons, hx, hy, hz] at e
    exact absurd (congrArg (·.1) e.1).symm zy
  · simp [List.filter_cons, hx, hy, hz] at e
    exact absurd (congrArg (·.1) e.1) xy
  · simp [List.filter_cons, hx, hy, hz] at e
    exact ⟨rfl, fun _ => e.1⟩
theorem keep_low {b : Bool} {t u : Int} (h1 : 0 ≤ t) (h2 : 0 < u) : keep (lowF (b, (t, u))) = decide (0 < t) := by
  obtain ⟨g, g0, e1, e2⟩ := lowP_mul (v := (t, u)) h1 (by show 0 ≤ u; omega) (by show 0 < t + u; omega)
  have e1 : g * (lowP (t, u)).1 = t := e1
  have e2 : g * (lowP (t, u)).2 = u := e2
  have po : ∀ {x y : Int}, g * x = y → (0 < x ↔ 0 < y) := fun {x y} e => by
    constructor
    · intro h; rw [← e]; exact Int.mul_pos g0 h
    · intro h
      rcases Int.lt_or_le 0 x with z | z
      · exact z
      · have := Int.mul_nonneg (Int.le_of_lt g0) (show 0 ≤ -x by omega)
        have e3 : g * -x = -(g * x) := by grind
        omega
  show (decide (0 < (lowP (t, u)).1) && decide (0 < (lowP (t, u)).2)) = _
  rw [decide_eq_true ((po e2).mpr h2), Bool.and_true]
  exact decide_eq_decide.mpr (po e1)
theorem keep_low2 {b : Bool} {t u : Int} (h1 : 0 < t) (h2 : 0 ≤ u) : keep (lowF (b, (t, u))) = decide (0 < u) := by
  obtain ⟨g, g0, e1, e2⟩ := lowP_mul (v := (t, u)) (by show 0 ≤ t; omega) h2 (by show 0 < t + u; omega)
  have e1 : g * (lowP (t, u)).1 = t := e1
  have e2 : g * (lowP (t, u)).2 = u := e2
  have po : ∀ {x y : Int}, g * x = y → (0 < x ↔ 0 < y) := fun {x y} e => by
    constructor
    · intro h; rw [← e]; exact Int.mul_pos g0 h
    · intro h
      rcases Int.lt_or_le 0 x with z | z
      · exact z
      · have := Int.mul_nonneg (Int.le_of_lt g0) (show 0 ≤ -x by omega)
        have e3 : g * -x = -(g * x) := by grind
        omega
  show (decide (0 < (lowP (t, u)).1) && decide (0 < (lowP (t, u)).2)) = _
  rw [decide_eq_true ((po e1).mpr h1), Bool.true_and]
  exact decide_eq_decide.mpr (po e2)
theorem low_same {t u t2 u2 : Int} (n1 : Nz (t, u)) (n2 : Nz (t2, u2)) (h : lowP (t, u) = lowP (t2, u2)) : t * u2 = t2 * u := (lowP_ra n1 n2).mp h
theorem star_same {r : List Pc} (h : Row r) (ne : r ≠ []) : starL r = starL r.reverse ↔ (mat r).a = (mat r).d := by
  have g := good_of h.1 ne
  obtain ⟨ga, gd, gb, gc, gs, gbc, ge⟩ := id g
  constructor
  · intro e
    rw [star_rev] at e
    unfold starL starQ at e
    by_cases c : (mat r).c = 0
    · obtain ⟨x, y⟩ := rails_eq g (.inr c)
      omega
    · rw [if_neg c] at e
      simp only [List.map_cons, List.map_nil] at e
      obtain ⟨k1, k2⟩ := rev3 (Y := lowF (false, (scl r, (mat r).c))) _ _ (keep_low (b := true) (t := (mat r).a - scl r) (u := (mat r).c) (by omega) (by omega)) (keep_low (b := true) (t := (mat r).d - scl r) (u := (mat r).c) (by omega) (by omega)) (by rw [keep_low (by omega) (by omega)]; exact decide_eq_true gs) (show true ≠ false by decide) (show true ≠ false by decide) e
      by_cases z : 0 < (mat r).a - scl r
      · have k2 := k2 (decide_eq_true z)
        have k3 : lowP ((mat r).a - scl r, (mat r).c) = lowP ((mat r).d - scl r, (mat r).c) := congrArg (·.2) k2
        have k4 := low_same ⟨by show 0 ≤ (mat r).a - scl r; omega, gc, by show 0 < (mat r).a - scl r + (mat r).c; omega⟩ ⟨by show 0 ≤ (mat r).d - scl r; omega, gc, by show 0 < (mat r).d - scl r + (mat r).c; omega⟩ k3
        have := Int.eq_of_mul_eq_mul_right c k4
        omega
      · have := decide_eq_decide.mp k1
        omega
  · intro e
    have f : (mat r).flip = mat r := Mx.ext e.symm rfl rfl e
    unfold starL
    rw [mat_rev, scl_rev, f]
theorem ring_same {r : List Pc} (h : Row r) (ne : r ≠ []) : ringL r = ringL r.reverse ↔ (mat r).a = (mat r).d := by
  have g := good_of h.1 ne
  obtain ⟨ga, gd, gb, gc, gs, gbc, ge⟩ := id g
  constructor
  · intro e
    rw [ring_rev] at e
    unfold ringL ringQ at e
    by_cases c : (mat r).b = 0
    · obtain ⟨x, y⟩ := rails_eq g (.inl c)
      omega
    · rw [if_neg c] at e
      simp only [List.map_cons, List.map_nil] at e
      obtain ⟨k1, k2⟩ := rev3 (Y := lowF (true, ((mat r).b, scl r))) _ _ (keep_low2 (b := false) (t := (mat r).b) (u := (mat r).d - scl r) (by omega) (by omega)) (keep_low2 (b := false) (t := (mat r).b) (u := (mat r).a - scl r) (by omega) (by omega)) (by rw [keep_low (by omega) (by omega)]; exact decide_eq_true (by omega)) (show false ≠ true by decide) (show false ≠ true by decide) e
      by_cases z : 0 < (mat r).d - scl r
      · have k2 := k2 (decide_eq_true z)
        have k3 : lowP ((mat r).b, (mat r).d - scl r) = lowP ((mat r).b, (mat r).a - scl r) := congrArg (·.2) k2
        have k4 := low_same ⟨gb, by show 0 ≤ (mat r).d - scl r; omega, by show 0 < (mat r).b + ((mat r).d - scl r); omega⟩ ⟨gb, by show 0 ≤ (mat r).a - scl r; omega, by show 0 < (mat r).b + ((mat r).a - scl r); omega⟩ k3
        have := Int.eq_of_mul_eq_mul_left c k4
        omega
      · have := decide_eq_decide.mp k1
        omega
  · intro e
    have f : (mat r).flip = mat r := Mx.ext e.symm rfl rfl e
    unfold ringL
    rw [mat_rev, scl_rev, f]
theorem goL_app (l q : List Fp) (v : Int × Int) : goL (l ++ q) v = goL l (goL q v) := by
  unfold goL
  rw [List.foldr_append]
def ends3 : List (Int × Int) := [(0, 1), (2, 5), (1, 0)]
theorem ends3_vec : ∀ v ∈ ends3, Vec 10 v ∧ lowP v = v := by
  intro v hv
  simp only [ends3, List.mem_cons, List.mem_nil_iff, or_false] at hv
  rcases hv with rfl | rfl | rfl <;> exact ⟨⟨⟨by decide, by decide⟩, ⟨by decide, by decide⟩, by decide⟩, by decide +kernel⟩
theorem star_shows {r : List Pc} (h : Row r) (ne : r ≠ []) {v : Int × Int} (hv : Vec 100 v) (lv : lowP v = v) : goL (starL r) v = lowP (frontV r v) := shows_as h (star_fok (good_of h.1 ne)) rfl (fun v => star_ra (good_of h.1 ne) v) hv lv
theorem ring_shows {r : List Pc} (h : Row r) (ne : r ≠ []) {v : Int × Int} (hv : Vec 100 v) (lv : lowP v = v) : goL (ringL r) v = lowP (frontV r v) := shows_as h (ring_fok (good_of h.1 ne)) rfl (fun v => ring_ra (good_of h.1 ne) v) hv lv
end K35
set_option maxRecDepth 100000
set_option maxHeartbeats 2000000
namespace K35
open PySem Ev
theorem stP_inv (t b : Int) : ∀ k : Nat, (stP t b k).1 * (stP t b k).1 - t * (stP t b k).1 * (stP t b k).2 + b * b * ((stP t b k).2 * (stP t b k).2) = b ^ k * b ^ k
  | 0 => by simp [stP]
  | k + 1 => by
    have i := stP_inv t b k
    have e : b ^ (k + 1) = b ^ k * b := Int.pow_succ ..
    rw [e]
    show (t * (stP t b k).1 - b * b * (stP t b k).2) * (t * (stP t b k).1 - b * b * (stP t b k).2) - t * (t * (stP t b k).1 - b * b * (stP t b k).2) * (stP t b k).1 + b * b * ((stP t b k).1 * (stP t b k).1) = _
    generalize (stP t b k).1 = h at *
    generalize (stP t b k).2 = g at *
    generalize b ^ k = p at *
    have : b ^ k * b * (b ^ k * b) = b * b * (b ^ k * b ^ k) := by grind
    have e2 : p * b * (p * b) = b * b * (p * p) := by grind
    rw [e2, ← i]
    grind
structure Root (F : Mx) (w T B : Int) : Prop where
  tr : B * (F.a + F.d) = T * w
  det : F.a * F.d - F.b * F.c = w * w
  w0 : 0 < w
  B0 : 1 ≤ B
  T0 : 2 * B < T
  co : Int.gcd T B = 1
theorem root_pow {F : Mx} {w T B : Int} (h : Root F w T B) : ∀ j : Nat, B ^ j * (F.pow (j + 1)).a = w ^ j * ((stP T B j).1 * F.a - w * B * (stP T B j).2) ∧ B ^ j * (F.pow (j + 1)).b = w ^ j * ((stP T B j).1 * F.b) ∧
    B ^ j * (F.pow (j + 1)).c = w ^ j * ((stP T B j).1 * F.c) ∧ B ^ j * (F.pow (j + 1)).d = w ^ j * ((stP T B j).1 * F.d - w * B * (stP T B j).2)
  | 0 => by
    have e : F.pow 1 = F := by
      show F.mul one = F
      unfold Mx.mul one
      simp
    rw [Nat.zero_add, e]
    simp [stP]
  | j + 1 => by
    obtain ⟨i1, i2, i3, i4⟩ := root_pow h j
    obtain ⟨tr, det, _, _, _, _⟩ := h
    have e1 : B ^ (j + 1) = B ^ j * B := Int.pow_succ ..
    have e2 : w ^ (j + 1) = w ^ j * w := Int.pow_succ ..
    rw [e1, e2]
    show B ^ j * B * (F.a * (F.pow (j + 1)).a + F.b * (F.pow (j + 1)).c) = w ^ j * w * ((T * (stP T B j).1 - B * B * (stP T B j).2) * F.a - w * B * (stP T B j).1) ∧
      B ^ j * B * (F.a * (F.pow (j + 1)).b + F.b * (F.pow (j + 1)).d) = w ^ j * w * ((T * (stP T B j).1 - B * B * (stP T B j).2) * F.b) ∧
      B ^ j * B * (F.c * (F.pow (j + 1)).a + F.d * (F.pow (j + 1)).c) = w ^ j * w * ((T * (stP T B j).1 - B * B * (stP T B j).2) * F.c) ∧
      B ^ j * B * (F.c * (F.pow (j + 1)).b + F.d * (F.pow (j + 1)).d) = w ^ j * w * ((T * (stP T B j).1 - B * B * (stP T B j).2) * F.d - w * B * (stP T B j).1)
    generalize (stP T B j).1 = u at *
    generalize (stP T B j).2 = g at *
    generalize (F.pow (j + 1)).a = pa at *
    generalize (F.pow (j + 1)).b = pb at *
    generalize (F.pow (j + 1)).c = pc at *
    generalize (F.pow (j + 1)).d = pd at *
    generalize B ^ j = X at *
    generalize w ^ j = Y at *
    obtain ⟨a, b, c, d⟩ := F
    dsimp only at *
    refine ⟨?_, ?_, ?_, ?_⟩
    · have s1 : X * B * (a * pa + b * pc) = B * a * (X * pa) + B * b * (X * pc) := by grind
      rw [s1, i1, i3]
      have s2 : B * a * (Y * (u * a - w * B * g)) + B * b * (Y * (u * c)) = Y * (u * (a * (B * (a + d)) - B * (a * d - b * c)) - w * B * B * g * a) := by grind
      rw [s2, tr, det]
      grind
    · have s1 : X * B * (a * pb + b * pd) = B * a * (X * pb) + B * b * (X * pd) := by grind
      rw [s1, i2, i4]
      have s2 : B * a * (Y * (u * b)) + B * b * (Y * (u * d - w * B * g)) = Y * (u * b * (B * (a + d)) - w * B * B * g * b) := by grind
      rw [s2, tr]
      grind
    · have s1 : X * B * (c * pa + d * pc) = B * c * (X * pa) + B * d * (X * pc) := by grind
      rw [s1, i1, i3]
      have s2 : B * c * (Y * (u * a - w * B * g)) + B * d * (Y * (u * c)) = Y * (u * c * (B * (a + d)) - w * B * B * g * c) := by grind
      rw [s2, tr]
      grind
    · have s1 : X * B * (c * pb + d * pd) = B * c * (X * pb) + B * d * (X * pd) := by grind
      rw [s1, i2, i4]
      have s2 : B * c * (Y * (u * b)) + B * d * (Y * (u * d - w * B * g)) = Y * (u * (d * (B * (a + d)) - B * (a * d - b * c)) - w * B * B * g * d) := by grind
      rw [s2, tr, det]
      grind
theorem fnd_root {m : Mx} {s top bot T B : Int} {k : Nat} (s0 : 0 < s) (det : m.a * m.d - m.b * m.c = s * s) (tr : (m.a + m.d) * bot = top * s) (hb : B ^ (k + 1) = bot) (ht : trP T B k = top) (B0 : 1 ≤ B) (T0 : 2 * B < T) (co : Int.gcd T B = 1) :
    Root (fndP m s (T, B) k) (whlP s (T, B) k) T B ∧ Sc (whlP s (T, B) k ^ k * (stP T B k).1) ((fndP m s (T, B) k).pow (k + 1)) m := by
  have inv := stP_inv T B k
  have pos := stP_pos B0 (Int.le_of_lt T0) k
  have e1 : B ^ (k + 1) = B ^ k * B := Int.pow_succ ..
  have R : Root (fndP m s (T, B) k) (whlP s (T, B) k) T B := by
    refine ⟨?_, ?_, ?_, B0, T0, co⟩
    · unfold fndP whlP
      dsimp only
      unfold trP at ht
      rw [e1] at hb
      have : B * (m.a * B ^ k + s * (stP T B k).2 * B + (m.d * B ^ k + s * (stP T B k).2 * B)) = (m.a + m.d) * (B ^ k * B) + 2 * B * B * s * (stP T B k).2 := by grind
      rw [this, hb, tr, ← ht]
      grind
    · unfold fndP whlP
      dsimp only
      unfold trP at ht
      rw [e1] at hb
      generalize (stP T B k).1 = h at *
      generalize (stP T B k).2 = g at *
      generalize B ^ k = p at *
      have s1 : (m.a * p + s * g * B) * (m.d * p + s * g * B) - m.b * p * (m.c * p) = p * p * (m.a * m.d - m.b * m.c) + s * g * ((m.a + m.d) * (p * B)) + s * s * g * g * B * B := by grind
      rw [s1, det, hb, tr, ← ht]
      have s2 : p * p * (s * s) + s * g * ((T * h - 2 * B * B * g) * s) + s * s * g * g * B * B = s * s * (p * p + T * h * g - B * B * (g * g)) := by grind
      rw [s2, ← inv]
      grind
    · unfold whlP
      exact Int.mul_pos pos.1 s0
  refine ⟨R, ?_⟩
  obtain ⟨p1, p2, p3, p4⟩ := root_pow R k
  have bk : B ^ k ≠ 0 := Int.ne_of_gt (Int.pow_pos (by omega))
  generalize hP : (fndP m s (T, B) k).pow (k + 1) = P at *
  generalize hw : whlP s (T, B) k ^ k = Y at *
  unfold fndP at p1 p2 p3 p4
  unfold whlP at p1 p4
  dsimp only at p1 p2 p3 p4
  generalize (stP T B k).1 = h at *
  generalize (stP T B k).2 = g at *
  generalize B ^ k = X at *
  refine ⟨?_, ?_, ?_, ?_⟩
  · refine Int.eq_of_mul_eq_mul_left bk ?_
    rw [p1]
    grind
  · refine Int.eq_of_mul_eq_mul_left bk ?_
    rw [p2]
    grind
  · refine Int.eq_of_mul_eq_mul_left bk ?_
    rw [p3]
    grind
  · refine Int.eq_of_mul_eq_mul_left bk ?_
    rw [p4]
    grind
theorem tr_rec (t b : Int) (k : Nat) : trP t b (k + 2) = t * trP t b (k + 1) - b * b * trP t b k := by
  unfold trP
  show t * (t * (t * (stP t b k).1 - b * b * (stP t b k).2) - b * b * (stP t b k).1) - 2 * b * b * (t * (stP t b k).1 - b * b * (stP t b k).2) = t * (t * (t * (stP t b k).1 - b * b * (stP t b k).2) - 2 * b * b * (stP t b k).1) - b * b * (t * (stP t b k).1 - 2 * b * b * (stP t b k).2)
  grind
theorem tr_pos {t b : Int} (hb : 1 ≤ b) (ht : 2 * b < t) (k : Nat) : (stP t b k).1 ≤ trP t b k := by
  obtain ⟨p1, p2, p3⟩ := stP_pos hb (Int.le_of_lt ht) k
  unfold trP
  generalize (stP t b k).1 = h at *
  generalize (stP t b k).2 = g at *
  have m := Int.mul_le_mul_of_nonneg_left p3 (show 0 ≤ 2 * b by omega)
  have n := Int.mul_le_mul_of_nonneg_right (show 1 ≤ t - 2 * b by omega) (Int.le_of_lt p1)
  have e : (t - 2 * b) * h = t * h - 2 * b * h := by grind
  have e2 : 2 * b * (b * g) = 2 * b * b * g := by grind
  omega
theorem tr_up {b t t' : Int} (hb : 1 ≤ b) (ht : 2 * b ≤ t) (l : t < t') : ∀ k : Nat, t' - t ≤ trP t' b k - trP t b k ∧ b * (trP t' b k - trP t b k) ≤ trP t' b (k + 1) - trP t b (k + 1)
  | 0 => by
    have e0 : trP t' b 0 - trP t b 0 = t' - t := by unfold trP stP; grind
    have e1 : trP t' b 1 - trP t b 1 = (t' - t) * (t' + t) := by
      unfold trP
      show t' * (t' * 1 - b * b * 0) - 2 * b * b * 1 - (t * (t * 1 - b * b * 0) - 2 * b * b * 1) = _
      grind
    rw [e0, e1]
    refine ⟨Int.le_refl _, ?_⟩
    have := Int.mul_le_mul_of_nonneg_left (show b ≤ t' + t by omega) (show 0 ≤ t' - t by omega)
    have e : b * (t' - t) = (t' - t) * b := Int.mul_comm _ _
    omega
  | k + 1 => by
    obtain ⟨i1, i2⟩ := tr_up hb ht l k
    have r1 := tr_rec t' b k
    have r2 := tr_rec t b k
    have pp := tr_pos hb (show 2 * b < t' by omega) (k + 1)
    have ps := (stP_pos hb (show 2 * b ≤ t' by omega) (k + 1)).1
    rw [r1, r2]
    generalize trP t' b k = c' at *
    generalize trP t b k = c at *
    generalize trP t' b (k + 1) = d' at *
    generalize trP t b (k + 1) = d at *
    have dpos : 1 ≤ d' := by omega
    have m1 := Int.mul_le_mul_of_nonneg_right hb (show 0 ≤ c' - c by omega)
    refine ⟨by omega, ?_⟩
    have m2 := Int.mul_le_mul_of_nonneg_left i2 (show 0 ≤ b by omega)
    have m3 := Int.mul_nonneg (show 0 ≤ t' - t by omega) (show 0 ≤ d' by omega)
    have m4 := Int.mul_le_mul_of_nonneg_right (show 2 * b ≤ t by omega) (show 0 ≤ d' - d by omega)
    have e : t' * d' - b * b * c' - (t * d - b * b * c) = (t' - t) * d' + t * (d' - d) - b * (b * (c' - c)) := by grind
    have e2 : 2 * b * (d' - d) = b * (d' - d) + b * (d' - d) := by grind
    omega
theorem tr_flat {b : Int} (hb : 1 ≤ b) : ∀ k : Nat, trP (2 * b) b k = 2 * b ^ (k + 1) ∧ trP (2 * b) b (k + 1) = 2 * b ^ (k + 2)
  | 0 => by
    constructor
    · unfold trP stP
      simp
      grind
    · unfold trP
      show 2 * b * (2 * b * 1 - b * b * 0) - 2 * b * b * 1 = 2 * b ^ 2
      have : b ^ 2 = b * b := by rw [Int.pow_succ, Int.pow_succ, Int.pow_zero, Int.one_mul]
      rw [this]
      grind
  | k + 1 => by
    obtain ⟨i1, i2⟩ := tr_flat hb k
    refine ⟨i2, ?_⟩
    rw [tr_rec, i1, i2]
    have e1 : b ^ (k + 2) = b ^ (k + 1) * b := Int.pow_succ ..
    have e2 : b ^ (k + 1 + 2) = b ^ (k + 1) * b * b := by rw [Int.pow_succ, Int.pow_succ]
    rw [e1, e2]
    grind
theorem tr_ge {b t : Int} (hb : 1 ≤ b) (ht : 2 * b < t) (k : Nat) : t ≤ trP t b k := by
  obtain ⟨i1, _⟩ := tr_up hb (Int.le_refl _) ht k
  rw [(tr_flat hb k).1] at i1
  have e : b ^ (k + 1) = b ^ k * b := Int.pow_succ ..
  have p : 0 < b ^ k := Int.pow_pos (by omega)
  have := Int.mul_le_mul_of_nonneg_right (show 1 ≤ b ^ k by omega) (show 0 ≤ b by omega)
  omega
end K35
set_option maxRecDepth 100000
set_option maxHeartbeats 2000000
namespace K35
open PySem Ev
theorem bs_find (f : Int → Bool) (x : Int) : ∀ (k : Nat) {lo hi : Int}, lo ≤ x → x ≤ hi → hi - lo < 2 ^ k → (∀ y, lo ≤ y → y < x → f y = true) → (∀ y, x ≤ y → y ≤ hi → f y = false) → bsP f k lo hi = x
  | 0, lo, hi, h1, h2, h3, _, _ => by
    simp at h3
    show lo = x
    omega
  | k + 1, lo, hi, h1, h2, h3, h4, h5 => by
    have e : (2 : Int) ^ (k + 1) = 2 * 2 ^ k := by rw [Int.pow_succ, Int.mul_comm]
    by_cases c : lo < hi
    · by_cases m : (lo + hi) / 2 < x
      · rw [bs_up c (h4 _ (by omega) m)]
        exact bs_find f x k (by omega) h2 (by omega) (fun y a b => h4 y (by omega) b) h5
      · rw [bs_down c (by rw [h5 _ (by omega) (by omega)]; decide)]
        exact bs_find f x k h1 (by omega) (by omega) h4 (fun y a b => h5 y a (by omega))
    · rw [bs_end f _ c]
      omega
theorem pow_lt {x y : Int} (hx : 0 ≤ x) (l : x < y) (n : Nat) : x ^ (n + 1) < y ^ (n + 1) := by
  obtain ⟨a, rfl⟩ : ∃ a : Nat, x = a := ⟨x.toNat, by omega⟩
  obtain ⟨b, rfl⟩ : ∃ b : Nat, y = b := ⟨y.toNat, by omega⟩
  have : a ^ (n + 1) < b ^ (n + 1) := Nat.pow_lt_pow_left (by omega) (by omega)
  exact_mod_cast this
theorem pow_ge {x : Int} (hx : 1 ≤ x) : ∀ n : Nat, x ≤ x ^ (n + 1) ∧ 1 ≤ x ^ n
  | 0 => ⟨by rw [Int.pow_succ, Int.pow_zero]; omega, by rw [Int.pow_zero]; omega⟩
  | n + 1 => by
    obtain ⟨i1, i2⟩ := pow_ge hx n
    have e : x ^ (n + 1 + 1) = x ^ (n + 1) * x := Int.pow_succ ..
    have := Int.mul_le_mul_of_nonneg_right (show 1 ≤ x ^ (n + 1) by omega) (show 0 ≤ x by omega)
    exact ⟨by omega, by omega⟩
theorem root_find {B : Int} (hB : 1 ≤ B) (n : Nat) (l : B ^ (n + 1) < 2 ^ 40) : rootP (B ^ (n + 1)) (n + 1) = some B := by
  have e : bsP (fun m => decide (m ^ (n + 1) < B ^ (n + 1))) 40 1 (B ^ (n + 1)) = B := by
    refine bs_find _ _ 40 hB (pow_ge hB n).1 (by omega) (fun y a b => decide_eq_true (pow_lt (by omega) b n)) (fun y a _ => decide_eq_false ?_)
    rcases Int.lt_or_eq_of_le a with z | z
    · have := pow_lt (show 0 ≤ B by omega) z n
      omega
    · rw [z]
      omega
  unfold rootP
  rw [e, if_pos rfl]
theorem troot_find {T B : Int} (hB : 1 ≤ B) (hT : 2 * B < T) (k : Nat) (l : B ^ (k + 1) < 2 ^ 40) (l2 : trP T B k < 2 ^ 40) : trootP (trP T B k) (B ^ (k + 1)) k = some (T, B) := by
  have e : bsP (fun m => decide (trP m B k < trP T B k)) 40 (2 * B) (trP T B k) = T := by
    refine bs_find _ _ 40 (Int.le_of_lt hT) (tr_ge hB hT k) (by omega) (fun y a b => decide_eq_true ?_) (fun y a _ => decide_eq_false ?_)
    · have := (tr_up hB a b k).1
      omega
    · rcases Int.lt_or_eq_of_le a with z | z
      · have := (tr_up hB (show 2 * B ≤ T by omega) z k).1
        omega
      · rw [z]
        omega
  unfold trootP
  rw [root_find hB k l]
  dsimp only
  rw [e, if_pos ⟨hT, rfl⟩]
theorem st_mod (T B : Int) : ∀ k : Nat, ∃ q, (stP T B k).1 = T ^ k + B * q
  | 0 => ⟨0, by simp [stP]⟩
  | k + 1 => by
    obtain ⟨q, e⟩ := st_mod T B k
    refine ⟨T * q - B * (stP T B k).2, ?_⟩
    show T * (stP T B k).1 - B * B * (stP T B k).2 = _
    rw [e, Int.pow_succ]
    grind
theorem tr_mod (T B : Int) (k : Nat) : ∃ q, trP T B k = T ^ (k + 1) + B * q := by
  obtain ⟨q, e⟩ := st_mod T B k
  refine ⟨T * q - 2 * B * (stP T B k).2, ?_⟩
  unfold trP
  rw [e, Int.pow_succ]
  grind
theorem gcd_one_of {a b : Int} (h : ∀ p : Nat, (p : Int) ∣ a → (p : Int) ∣ b → p = 1) : Int.gcd a b = 1 := h _ (Int.gcd_dvd_left _ _) (Int.gcd_dvd_right _ _)
theorem co_pow {x y : Nat} (h : Nat.gcd x y = 1) (m n : Nat) : Nat.gcd (x ^ m) (y ^ n) = 1 := Nat.Coprime.pow m n h
theorem tr_co {T B : Int} (h : Int.gcd T B = 1) (k : Nat) : Int.gcd (trP T B k) (B ^ (k + 1)) = 1 := by
  have h1 : Nat.gcd (trP T B k).natAbs B.natAbs = 1 := by
    obtain ⟨q, e⟩ := tr_mod T B k
    have g : ((trP T B k).natAbs.gcd B.natAbs : Nat) = Int.gcd (trP T B k) B := rfl
    rw [g]
    refine gcd_one_of fun p p1 p2 => ?_
    have p3 : (p : Int) ∣ T ^ (k + 1) := by
      have : T ^ (k + 1) = trP T B k - B * q := by omega
      rw [this]
      exact Int.dvd_sub p1 (Int.dvd_trans p2 (Int.dvd_mul_right _ _))
    have c : Nat.gcd (T.natAbs ^ (k + 1)) (B.natAbs ^ 1) = 1 := co_pow h (k + 1) 1
    rw [Nat.pow_one] at c
    have d1 : p ∣ T.natAbs ^ (k + 1) := by
      have := Int.natAbs_dvd_natAbs.mpr p3
      rw [Int.natAbs_pow] at this
      simpa using this
    have d2 : p ∣ B.natAbs := by
      have := Int.natAbs_dvd_natAbs.mpr p2
      simpa using this
    have := Nat.dvd_gcd d1 d2
    rw [c] at this
    exact Nat.dvd_one.mp this
  show Nat.gcd (trP T B k).natAbs (B ^ (k + 1)).natAbs = 1
  rw [Int.natAbs_pow]
  have := co_pow h1 1 (k + 1)
  rwa [Nat.pow_one] at this
theorem co_of_tr {T B : Int} {k : Nat} (h : Int.gcd (trP T B k) (B ^ (k + 1)) = 1) : Int.gcd T B = 1 := by
  obtain ⟨q, e⟩ := tr_mod T B k
  have g : (Int.gcd T B : Int) ∣ T := Int.gcd_dvd_left _ _
  have g2 : (Int.gcd T B : Int) ∣ B := Int.gcd_dvd_right _ _
  have e1 : T ^ (k + 1) = T ^ k * T := Int.pow_succ ..
  have e2 : B ^ (k + 1) = B ^ k * B := Int.pow_succ ..
  have d1 : (Int.gcd T B : Int) ∣ trP T B k := by
    rw [e, e1]
    exact Int.dvd_add (Int.dvd_trans g (Int.dvd_mul_left _ _)) (Int.dvd_trans g2 (Int.dvd_mul_right _ _))
  have d2 : (Int.gcd T B : Int) ∣ B ^ (k + 1) := by
    rw [e2]
    exact Int.dvd_trans g2 (Int.dvd_mul_left _ _)
  have d3 := Int.dvd_gcd d1 d2
  rw [h] at d3
  have : (Int.gcd T B : Nat) ∣ 1 := by exact_mod_cast d3
  exact Nat.dvd_one.mp this
theorem low_of_co {t b : Int} (h : Int.gcd t b = 1) : lowP (t, b) = (t, b) := by
  show (t / (Int.gcd t b : Int), b / (Int.gcd t b : Int)) = (t, b)
  rw [h]
  simp
theorem co_of_low {t b : Int} (ht : 0 ≤ t) (hb : 0 ≤ b) (p : 0 < t + b) : Int.gcd (lowP (t, b)).1 (lowP (t, b)).2 = 1 := by
  have g0 : 0 < Int.gcd t b := by
    rcases Nat.eq_zero_or_pos (Int.gcd t b) with z | z
    · have := Int.gcd_eq_zero_iff.mp z
      omega
    · exact z
  show Int.gcd (t / (Int.gcd t b : Int)) (b / (Int.gcd t b : Int)) = 1
  rw [Int.gcd_ediv_gcd_ediv_gcd g0]
end K35
set_option maxRecDepth 100000
set_option maxHeartbeats 2000000
namespace K35
open PySem Ev
def rowF (F : Mx) (w : Int) : List Fp := ((starQ F w).map lowF).filter keep
def Eqm (c : Int) (P : Mx) (d : Int) (m : Mx) : Prop := c * P.a = d * m.a ∧ c * P.b = d * m.b ∧ c * P.c = d * m.c ∧ c * P.d = d * m.d
theorem repG_cases (m : Mx) (s top bot : Int) (h1 : bot < 2 ^ 39) (h2 : top < 2 ^ 39) : ∀ (f k : Nat) (b : Int × List Fp), repG m s top bot f k b = b ∨ ∃ j v l, k ≤ j ∧ j < 40 ∧ trootP top bot j = some v ∧ rrowP m s v j = some l ∧ repG m s top bot f k b = ((j : Int) + 1, l)
  | 0, _, _ => .inl rfl
  | f + 1, k, b => by
    unfold repG
    by_cases hm : mayP top bot k = true
    · rw [if_pos hm]
      have k40 := mayP_end h1 h2 hm
      rcases ht : trootP top bot k with _ | v
      · rcases repG_cases m s top bot h1 h2 f (k + 1) b with e | ⟨j, v, l, a, b', c, d, e⟩
        · exact .inl e
        · exact .inr ⟨j, v, l, by omega, b', c, d, e⟩
      · rcases hr : rrowP m s v k with _ | l
        · rcases repG_cases m s top bot h1 h2 f (k + 1) b with e | ⟨j, v, l, a, b', c, d, e⟩
          · left
            dsimp only
            rw [hr]
            exact e
          · right
            refine ⟨j, v, l, by omega, b', c, d, ?_⟩
            dsimp only
            rw [hr]
            exact e
        · right
          rcases repG_cases m s top bot h1 h2 f (k + 1) ((k : Int) + 1, l) with e | ⟨j, v', l', a, b', c, d, e⟩
          · refine ⟨k, v, l, Nat.le_refl _, k40, ht, hr, ?_⟩
            dsimp only
            rw [hr]
            exact e
          · refine ⟨j, v', l', by omega, b', c, d, ?_⟩
            dsimp only
            rw [hr]
            exact e
    · rw [if_neg hm]
      exact .inl rfl
theorem repG_reach (m : Mx) (s top bot : Int) (h1 : bot < 2 ^ 39) (h2 : top < 2 ^ 39) {K : Nat} {v : Int × Int} {l : List Fp} (ht : trootP top bot K = some v) (hr : rrowP m s v K = some l) (hm : ∀ i, i ≤ K → mayP top bot i = true) :
    ∀ (f k : Nat) (b : Int × List Fp), k ≤ K → K < k + f → repG m s top bot f k b = ((K : Int) + 1, l) ∨ ∃ j v l, K < j ∧ j < 40 ∧ trootP top bot j = some v ∧ rrowP m s v j = some l ∧ repG m s top bot f k b = ((j : Int) + 1, l)
  | 0, k, b, a, c => absurd c (by omega)
  | f + 1, k, b, a, c => by
    unfold repG
    rw [if_pos (hm k a)]
    rcases Nat.lt_or_eq_of_le a with z | z
    · exact repG_reach m s top bot h1 h2 ht hr hm f (k + 1) _ z (by omega)
    · subst z
      rw [ht]
      dsimp only
      rw [hr]
      rcases repG_cases m s top bot h1 h2 f (k + 1) ((k : Int) + 1, l) with e | ⟨j, v', l', a, b', c, d, e⟩
      · exact .inl e
      · exact .inr ⟨j, v', l', by omega, b', c, d, e⟩
structure Rep (m : Mx) (s : Int) (n : Nat) (F : Mx) (w T B : Int) : Prop where
  n1 : 1 ≤ n
  n2 : n ≤ 40
  root : Root F w T B
  good : Good F w
  c0 : 0 < F.c
  pw : Eqm s (F.pow n) (w ^ n) m
  fs : F.S 80
  ws : Sm 80 w
  hs : ∀ i, i < n → (stP T B i).1 < 2 ^ 40
theorem st_up {T B : Int} (hB : 1 ≤ B) (hT : 2 * B ≤ T) (k : Nat) : (stP T B k).1 ≤ (stP T B (k + 1)).1 := by
  obtain ⟨_, _, h⟩ := stP_pos hB hT (k + 1)
  have h : B * (stP T B k).1 ≤ (stP T B (k + 1)).1 := h
  have p := (stP_pos hB hT k).1
  have := Int.mul_le_mul_of_nonneg_right hB (Int.le_of_lt p)
  omega
theorem st_mono {T B : Int} (hB : 1 ≤ B) (hT : 2 * B ≤ T) : ∀ {i k : Nat}, i ≤ k → (stP T B i).1 ≤ (stP T B k).1
  | i, 0, h => by
    have : i = 0 := by omega
    subst this
    exact Int.le_refl _
  | i, k + 1, h => by
    rcases Nat.lt_or_eq_of_le h with z | z
    · exact Int.le_trans (st_mono hB hT (show i ≤ k by omega)) (st_up hB hT k)
    · rw [z]
      exact Int.le_refl _
structure Small (m : Mx) (s : Int) : Prop where
  g : Good m s
  b0 : 0 < m.b
  c0 : 0 < m.c
  a : m.a ≤ 815730721
  b : m.b ≤ 815730721
  c : m.c ≤ 815730721
  d : m.d ≤ 815730721
theorem small_tr {m : Mx} {s : Int} (h : Small m s) : ∃ T B g : Int, lowP (m.a + m.d, s) = (T, B) ∧ 0 < g ∧ g * T = m.a + m.d ∧ g * B = s ∧ 1 ≤ B ∧ 2 * B < T ∧ T < 2 ^ 38 ∧ B < 2 ^ 38 ∧ Int.gcd T B = 1 := by
  obtain ⟨⟨ga, gd, gb, gc, gs, gbc, ge⟩, b0, c0, ma, mb, mc, md⟩ := h
  obtain ⟨g, g0, e1, e2⟩ := lowP_mul (v := (m.a + m.d, s)) (by show 0 ≤ m.a + m.d; omega) (by show 0 ≤ s; omega) (by show 0 < m.a + m.d + s; omega)
  have co := co_of_low (t := m.a + m.d) (b := s) (by omega) (by omega) (by omega)
  generalize lowP (m.a + m.d, s) = v at *
  obtain ⟨T, B⟩ := v
  have e1 : g * T = m.a + m.d := e1
  have e2 : g * B = s := e2
  have Bp : 0 < B := by
    rcases Int.lt_or_le 0 B with z | z
    · exact z
    · have := Int.mul_nonpos_of_nonneg_of_nonpos (Int.le_of_lt g0) z
      omega
  have tr : 2 * s < m.a + m.d := by
    rcases Int.lt_or_le (2 * s) (m.a + m.d) with z | z
    · exact z
    · have ea : m.a = s := by omega
      have ed : m.d = s := by omega
      rw [ea, ed] at ge
      have := Int.mul_pos b0 c0
      omega
  have TB : 2 * B < T := by
    rcases Int.lt_or_le (2 * B) T with z | z
    · exact z
    · have := Int.mul_le_mul_of_nonneg_left z (Int.le_of_lt g0)
      have e : g * (2 * B) = 2 * (g * B) := by grind
      omega
  have lt := Int.mul_le_mul_of_nonneg_right (show 1 ≤ g by omega) (show 0 ≤ T by omega)
  have lb := Int.mul_le_mul_of_nonneg_right (show 1 ≤ g by omega) (show 0 ≤ B by omega)
  exact ⟨T, B, g, rfl, g0, e1, e2, by omega, TB, by omega, by omega, co⟩
theorem rep_base {m : Mx} {s : Int} (h : Small m s) : ∃ (n : Nat) (F : Mx) (w T B : Int), repB m s = ((n : Int), rowF F w) ∧ Rep m s n F w T B ∧ (n = 1 → F = m ∧ w = s) := by
  obtain ⟨T, B, g, hl, g0, e1, e2, B1, TB, T38, B38, co⟩ := small_tr h
  obtain ⟨hg, b0, c0, ma, mb, mc, md⟩ := id h
  obtain ⟨ga, gd, gb, gc, gs, gbc, ge⟩ := id hg
  have tr : (m.a + m.d) * B = T * s := by
    rw [← e1, ← e2]
    grind
  unfold repB
  rw [hl]
  dsimp only
  rcases repG_cases m s T B (by omega) (by omega) 45 1 (1, ((starQ m s).map lowF).filter keep) with e | ⟨k, v, l, k1, k40, ht, hr, e⟩
  · refine ⟨1, m, s, T, B, ?_, ⟨Nat.le_refl _, by decide, ⟨by rw [← tr]; exact Int.mul_comm _ _, ge, gs, B1, TB, co⟩, hg, c0, ?_, ⟨⟨by omega, by omega⟩, ⟨by omega, by omega⟩, ⟨by omega, by omega⟩, ⟨by omega, by omega⟩⟩, ⟨by omega, by omega⟩, ?_⟩, fun _ => ⟨rfl, rfl⟩⟩
    · rw [e]
      rfl
    · have p1 : m.pow 1 = m := by
        show m.mul one = m
        unfold Mx.mul one
        simp
      rw [p1, Int.pow_succ, Int.pow_zero, Int.one_mul]
      exact ⟨rfl, rfl, rfl, rfl⟩
    · intro i hi
      have : i = 0 := by omega
      subst this
      show (1 : Int) < 2 ^ 40
      decide
  · obtain ⟨w1, w2, w3, w4⟩ := trootP_some B1 ht
    obtain ⟨t1, t2⟩ := troot_trace B1 ht
    obtain ⟨X, Y⟩ := v
    dsimp only at w1 w2 w3 w4 t1 t2
    have co2 : Int.gcd X Y = 1 := co_of_tr (k := k) (by rw [t1, t2]; exact co)
    obtain ⟨R, sc⟩ := fnd_root gs ge tr t2 t1 w1 w3 co2
    have pos := stP_pos w1 (Int.le_of_lt w3) k
    have hT : (stP X Y k).1 ≤ T := by rw [← t1]; exact tr_pos w1 w3 k
    have pk : 0 < Y ^ k := Int.pow_pos (by omega)
    have pkl : Y ^ k ≤ B := by
      have e : Y ^ (k + 1) = Y ^ k * Y := Int.pow_succ ..
      have := Int.mul_le_mul_of_nonneg_left w1 (Int.le_of_lt pk)
      omega
    unfold rrowP at hr
    split at hr
    · cases hr
    · rename_i nl
      cases hr
      refine ⟨k + 1, fndP m s (X, Y) k, whlP s (X, Y) k, X, Y, ?_, ⟨by omega, by omega, R, ⟨?_, ?_, ?_, ?_, R.w0, ?_, R.det⟩, ?_, ?_, ?_, ?_, ?_⟩, fun z => by omega⟩
      · rw [e]
        rfl
      · omega
      · omega
      · exact Int.mul_nonneg gb (Int.le_of_lt pk)
      · exact Int.mul_nonneg gc (Int.le_of_lt pk)
      · have := Int.mul_pos b0 pk
        have := Int.mul_pos c0 pk
        show 0 < m.b * Y ^ k + m.c * Y ^ k
        omega
      · exact Int.mul_pos c0 pk
      · obtain ⟨s1, s2, s3, s4⟩ := sc
        have ww : whlP s (X, Y) k ^ (k + 1) = whlP s (X, Y) k ^ k * whlP s (X, Y) k := Int.pow_succ ..
        have wd : whlP s (X, Y) k = (stP X Y k).1 * s := rfl
        refine ⟨?_, ?_, ?_, ?_⟩
        · rw [s1, ww]
          generalize whlP s (X, Y) k ^ k = Z
          rw [wd]
          grind
        · rw [s2, ww]
          generalize whlP s (X, Y) k ^ k = Z
          rw [wd]
          grind
        · rw [s3, ww]
          generalize whlP s (X, Y) k ^ k = Z
          rw [wd]
          grind
        · rw [s4, ww]
          generalize whlP s (X, Y) k ^ k = Z
          rw [wd]
          grind
      · have sY : Sm 38 (Y ^ k) := ⟨by omega, by omega⟩
        have sg : Sm 38 ((stP X Y k).2 * Y) := by
          have e : (stP X Y k).2 * Y = Y * (stP X Y k).2 := Int.mul_comm _ _
          exact ⟨by rw [e]; exact Int.mul_nonneg (by omega) pos.2.1, by rw [e]; omega⟩
        have ss : Sm 30 s := ⟨by omega, by omega⟩
        have sa : Sm 30 m.a := ⟨by omega, by omega⟩
        have sb : Sm 30 m.b := ⟨by omega, by omega⟩
        have sc' : Sm 30 m.c := ⟨by omega, by omega⟩
        have sd : Sm 30 m.d := ⟨by omega, by omega⟩
        have more : Sm 79 (s * (stP X Y k).2 * Y) := by
          rw [Int.mul_assoc]
          exact (ss.mul sg).mono (by decide)
        exact ⟨(((sa.mul sY).mono (by decide)).add more).mono (by decide), (sb.mul sY).mono (by decide), (sc'.mul sY).mono (by decide), (((sd.mul sY).mono (by decide)).add more).mono (by decide)⟩
      · have ss : Sm 30 s := ⟨by omega, by omega⟩
        have sh : Sm 38 (stP X Y k).1 := ⟨by omega, by omega⟩
        exact (sh.mul ss).mono (by decide)
      · intro i hi
        have := st_mono w1 (Int.le_of_lt w3) (show i ≤ k by omega)
        have : (T : Int) < 2 ^ 40 := by omega
        omega
theorem alg1 (s u a w B g : Int) : s * (u * a - w * B * g) + s * (w * B * g) = u * s * a := by grind
theorem alg2 (s u a : Int) : s * (u * a) = u * s * a := by grind
theorem rep_full {m : Mx} {s : Int} (h : Small m s) {F : Mx} {w T B : Int} {K : Nat} (K1 : 1 ≤ K) (R : Root F w T B) (G : Good F w) (c0 : 0 < F.c) (pw : Eqm s (F.pow (K + 1)) (w ^ (K + 1)) m) :
    trootP (lowP (m.a + m.d, s)).1 (lowP (m.a + m.d, s)).2 K = some (T, B) ∧ rrowP m s (T, B) K = some (rowF F w) ∧ ∀ i, i ≤ K → mayP (lowP (m.a + m.d, s)).1 (lowP (m.a + m.d, s)).2 i = true := by
  obtain ⟨hg, b0', c0', ma, mb, mc, md⟩ := id h
  obtain ⟨ga, gd, gb, gc, gs, gbc, ge⟩ := id hg
  have B1 := R.B0
  have TB := R.T0
  have w0 := R.w0
  have tr := R.tr
  have Bp : B ^ K ≠ 0 := Int.ne_of_gt (Int.pow_pos (by omega))
  have wp : w ^ K ≠ 0 := Int.ne_of_gt (Int.pow_pos w0)
  have eB : B ^ (K + 1) = B ^ K * B := Int.pow_succ ..
  have ew : w ^ (K + 1) = w ^ K * w := Int.pow_succ ..
  have key : s * ((stP T B K).1 * F.a - w * B * (stP T B K).2) = B ^ K * w * m.a ∧ s * ((stP T B K).1 * F.b) = B ^ K * w * m.b ∧ s * ((stP T B K).1 * F.c) = B ^ K * w * m.c ∧ s * ((stP T B K).1 * F.d - w * B * (stP T B K).2) = B ^ K * w * m.d := by
    obtain ⟨p1, p2, p3, p4⟩ := root_pow R K
    obtain ⟨q1, q2, q3, q4⟩ := pw
    rw [ew] at q1 q2 q3 q4
    generalize (stP T B K).1 = u at *
    generalize (stP T B K).2 = g at *
    generalize B ^ K = X at *
    generalize w ^ K = Y at *
    have gz : ∀ pa x ma : Int, X * pa = Y * x → s * pa = Y * w * ma → s * x = X * w * ma := fun pa x ma a b => by
      refine Int.eq_of_mul_eq_mul_left wp ?_
      have e1 : Y * (s * x) = s * (Y * x) := by grind
      rw [e1, ← a]
      have e2 : s * (X * pa) = X * (s * pa) := by grind
      rw [e2, b]
      grind
    exact ⟨gz _ _ _ p1 q1, gz _ _ _ p2 q2, gz _ _ _ p3 q3, gz _ _ _ p4 q4⟩
  have st := stP_pos B1 (Int.le_of_lt TB) K
  have trm : (m.a + m.d) * B ^ (K + 1) = trP T B K * s := by
    obtain ⟨k1, _, _, k4⟩ := key
    rw [eB]
    unfold trP
    generalize (stP T B K).1 = u at *
    generalize (stP T B K).2 = g at *
    generalize B ^ K = X at *
    have e1 : w * ((m.a + m.d) * (X * B)) = B * (X * w * m.a + X * w * m.d) := by grind
    have e2 : B * (s * (u * F.a - w * B * g) + s * (u * F.d - w * B * g)) = s * (u * (B * (F.a + F.d)) - 2 * B * B * w * g) := by grind
    refine Int.eq_of_mul_eq_mul_left (show w ≠ 0 by omega) ?_
    rw [e1, ← k1, ← k4, e2, tr]
    grind
  have co := tr_co R.co K
  have tp : 0 < trP T B K := by
    have := tr_pos B1 TB K
    omega
  have bp : 0 < B ^ (K + 1) := Int.pow_pos (by omega)
  have low : lowP (m.a + m.d, s) = (trP T B K, B ^ (K + 1)) := by
    obtain ⟨u1, u2⟩ := low_cross (t := m.a + m.d) (b := s) (t2 := trP T B K) (b2 := B ^ (K + 1)) (by omega) (by omega) (by omega) (Int.le_of_lt tp) (Int.le_of_lt bp) (by omega) trm
    have l := low_of_co co
    unfold lowP at l ⊢
    rw [u1, u2]
    exact l
  obtain ⟨T', B', g', hl, g0, e1, e2, B1', TB', T38, B38, co'⟩ := small_tr h
  have eT : T' = trP T B K ∧ B' = B ^ (K + 1) := by
    rw [low] at hl
    exact ⟨(congrArg (·.1) hl).symm, (congrArg (·.2) hl).symm⟩
  rw [low]
  dsimp only
  refine ⟨troot_find B1 TB K (by omega) (by omega), ?_, ?_⟩
  · -- the row
    have fa : w * (fndP m s (T, B) K).a = whlP s (T, B) K * F.a ∧ w * (fndP m s (T, B) K).c = whlP s (T, B) K * F.c ∧ w * (fndP m s (T, B) K).d = whlP s (T, B) K * F.d := by
      obtain ⟨k1, k2, k3, k4⟩ := key
      unfold fndP whlP
      dsimp only
      generalize (stP T B K).1 = u at *
      generalize (stP T B K).2 = g at *
      generalize B ^ K = X at *
      refine ⟨?_, ?_, ?_⟩
      · have : w * (m.a * X + s * g * B) = X * w * m.a + s * (w * B * g) := by grind
        rw [this, ← k1]
        exact alg1 ..
      · have : w * (m.c * X) = X * w * m.c := by grind
        rw [this, ← k3]
        exact alg2 ..
      · have : w * (m.d * X + s * g * B) = X * w * m.d + s * (w * B * g) := by grind
        rw [this, ← k4]
        exact alg1 ..
    have Wp0 : 0 < whlP s (T, B) K := Int.mul_pos st.1 gs
    have fc : 0 < (fndP m s (T, B) K).c := Int.mul_pos c0' (Int.pow_pos (by show 0 < B; omega))
    unfold rrowP
    generalize fndP m s (T, B) K = P at *
    generalize whlP s (T, B) K = W at *
    obtain ⟨f1, f2, f3⟩ := fa
    obtain ⟨Ga, Gd, Gb, Gc, Gs, Gbc, Ge⟩ := id G
    have cmp : ∀ x y : Int, w * x = W * y → w ≤ y → ¬ x < W := fun x y e l q => by
      have h1 := Int.mul_le_mul_of_nonneg_left l (Int.le_of_lt Wp0)
      have h2 := Int.mul_lt_mul_of_pos_left q w0
      have e2 : w * W = W * w := Int.mul_comm _ _
      omega
    have n1 := cmp _ _ f1 Ga
    have n2 := cmp _ _ f3 Gd
    have eR : (if P.a < W ∨ P.d < W then none else some (((starQ P W).map lowF).filter keep)) = some (rowF F w) := by
      rw [if_neg (fun z => z.elim n1 n2)]
      unfold rowF starQ
      rw [if_neg (by omega), if_neg (by omega)]
      have pr : ∀ t b t2 b2 : Int, 0 ≤ t → 0 < b → 0 ≤ t2 → 0 < b2 → t * b2 = t2 * b → lowP (t, b) = lowP (t2, b2) := fun t b t2 b2 h1 h2 h3 h4 e => by
        obtain ⟨u1, u2⟩ := low_cross h1 (Int.le_of_lt h2) (by omega) h3 (Int.le_of_lt h4) (by omega) e
        unfold lowP
        rw [u1, u2]
      have cr : ∀ x y z v : Int, w * x = W * y → w * z = W * v → x * v = y * z := fun x y z v h1 h2 => by
        refine Int.eq_of_mul_eq_mul_left (show w ≠ 0 by omega) ?_
        have e1 : w * (x * v) = (w * x) * v := by grind
        rw [e1, h1]
        have e2 : W * y * v = y * (W * v) := by grind
        rw [e2, ← h2]
        grind
      have d1 : w * (P.a - W) = W * (F.a - w) := by
        have e1 : w * (P.a - W) = w * P.a - w * W := Int.mul_sub ..
        have e2 : W * (F.a - w) = W * F.a - W * w := Int.mul_sub ..
        have e3 : w * W = W * w := Int.mul_comm _ _
        omega
      have d2 : w * (P.d - W) = W * (F.d - w) := by
        have e1 : w * (P.d - W) = w * P.d - w * W := Int.mul_sub ..
        have e2 : W * (F.d - w) = W * F.d - W * w := Int.mul_sub ..
        have e3 : w * W = W * w := Int.mul_comm _ _
        omega
      have c1 := cr _ _ _ _ d1 f2
      have c2 := cr _ _ _ _ (Int.mul_comm w W) f2
      have c3 := cr _ _ _ _ d2 f2
      have l1 := pr (P.a - W) P.c (F.a - w) F.c (by omega) fc (by omega) c0 c1
      have l2 := pr W P.c w F.c (by omega) fc (by omega) c0 c2
      have l3 := pr (P.d - W) P.c (F.d - w) F.c (by omega) fc (by omega) c0 c3
      simp only [List.map_cons, List.map_nil, lowF, l1, l2, l3]
    exact eR
  · intro i hi
    unfold mayP
    by_cases b1 : 1 < B ^ (K + 1)
    · rw [if_pos b1]
      refine decide_eq_true ?_
      have B2 : 2 ≤ B := by
        rcases Int.lt_or_le 1 B with z | z
        · omega
        · have : B = 1 := by omega
          rw [this, Int.one_pow] at b1
          omega
      have h1 : (2 : Int) ^ (i + 1) ≤ 2 ^ (K + 1) := by exact_mod_cast Nat.pow_le_pow_right (by decide) (by omega)
      have h2 : (2 : Int) ^ (K + 1) ≤ B ^ (K + 1) := by
        rcases Int.lt_or_eq_of_le B2 with z | z
        · exact Int.le_of_lt (pow_lt (by decide) z K)
        · rw [z]
          exact Int.le_refl _
      omega
    · rw [if_neg b1]
      refine decide_eq_true ?_
      have B2 : B = 1 := by
        have := (pow_ge B1 K).1
        omega
      rw [B2] at TB ⊢
      have up : ∀ i, trP 3 1 i ≤ trP 3 1 (i + 1) ∧ 0 ≤ trP 3 1 i := by
        intro i
        induction i with
        | zero => decide
        | succ i ih =>
          have r : trP 3 1 (i + 1 + 1) = 3 * trP 3 1 (i + 1) - 1 * 1 * trP 3 1 i := tr_rec 3 1 i
          omega
      have mono : ∀ {i k : Nat}, i ≤ k → trP 3 1 i ≤ trP 3 1 k := by
        intro i k hik
        induction hik with
        | refl => exact Int.le_refl _
        | step _ ih => exact Int.le_trans ih (up _).1
      have m1 := mono hi
      rcases Int.lt_or_eq_of_le (show 3 ≤ T by omega) with z | z
      · have := (tr_up (b := 1) (by decide) (show 2 * 1 ≤ (3 : Int) by decide) z K).1
        omega
      · rw [← z]
        exact m1
theorem rowF_fok {F : Mx} {w : Int} (g : Good F w) : ∀ x ∈ rowF F w, Fok x := by
  intro x hx
  obtain ⟨a, b⟩ := List.mem_filter.mp hx
  obtain ⟨y, hy, rfl⟩ := List.mem_map.mp a
  exact low_fok (star_fok g y hy)
theorem starQ_vec {F : Mx} {w : Int} (g : Good F w) (c0 : 0 < F.c) (fs : F.S 80) (ws : Sm 80 w) : ∀ x ∈ starQ F w, Vec 80 x.2 := by
  obtain ⟨ga, gd, gb, gc, gs, gbc, ge⟩ := g
  have fa := fs.a.2
  have fd := fs.d.2
  intro x hx
  unfold starQ at hx
  rw [if_neg (by omega)] at hx
  simp only [List.mem_cons, List.not_mem_nil, or_false] at hx
  rcases hx with rfl | rfl | rfl
  · exact ⟨⟨by dsimp only; omega, by dsimp only; omega⟩, fs.c, by dsimp only; omega⟩
  · exact ⟨ws, fs.c, by dsimp only; omega⟩
  · exact ⟨⟨by dsimp only; omega, by dsimp only; omega⟩, fs.c, by dsimp only; omega⟩
theorem rowF_fin {F : Mx} {w : Int} (g : Good F w) (c0 : 0 < F.c) (fs : F.S 80) (ws : Sm 80 w) : ∀ x ∈ rowF F w, Fin x := by
  intro x hx
  obtain ⟨a, b⟩ := List.mem_filter.mp hx
  obtain ⟨y, hy, rfl⟩ := List.mem_map.mp a
  exact low_fin (star_fok g y hy) (starQ_vec g c0 fs ws y hy) b
theorem rowF_shape {F : Mx} {w : Int} (g : Good F w) (c0 : 0 < F.c) : Shape true (rowF F w) := by
  have f := star_fok g
  unfold rowF starQ at *
  rw [if_neg (by omega)] at f ⊢
  have k := keep_pos (x := (false, (w, F.c))) (f _ (by simp)) g.s0 c0
  rw [List.map_cons, List.map_cons, List.map_cons, List.map_nil]
  cases k1 : keep (lowF (true, (F.a - w, F.c))) <;> cases k2 : keep (lowF (true, (F.d - w, F.c)))
  all_goals simp only [List.filter_cons, k, k1, k2, if_true, Bool.false_eq_true, if_false, List.filter_nil]
  · exact .inr (.inr (.inr (.inl rfl)))
  · exact .inr (.inr (.inl rfl))
  · exact .inr (.inl rfl)
  · exact .inl rfl
theorem good_P {F : Mx} {w : Int} (g : Good F w) : F.P := ⟨by have := g.a; have := g.s0; omega, g.b, g.c, by have := g.d; have := g.s0; omega⟩
def itL (l : List Fp) : Nat → Int × Int → Int × Int
  | 0, v => v
  | n + 1, v => goL l (itL l n v)
theorem pow_vec {F : Mx} (p : F.P) {v : Int × Int} (hv : Nz v) (n : Nat) : Nz ((F.pow n).top v.1 v.2, (F.pow n).bot v.1 v.2) := by
  obtain ⟨a, b, c⟩ := (Mx.P.pow p n).vec hv.1 hv.2.1 hv.2.2
  exact ⟨a, b, c⟩
theorem it_low {F : Mx} {w : Int} (g : Good F w) {v : Int × Int} (hv : Nz v) (lv : lowP v = v) : ∀ n : Nat, itL (rowF F w) n v = lowP ((F.pow n).top v.1 v.2, (F.pow n).bot v.1 v.2)
  | 0 => by
    show v = lowP (one.top v.1 v.2, one.bot v.1 v.2)
    unfold one Mx.top Mx.bot
    simp only [Int.one_mul, Int.zero_mul, Int.add_zero, Int.zero_add]
    exact lv.symm
  | n + 1 => by
    have ih := it_low g hv lv n
    show goL (rowF F w) (itL (rowF F w) n v) = _
    rw [ih]
    have hf := rowF_fok g
    have nu := pow_vec (good_P g) hv n
    have e1 : (F.pow (n + 1)).top v.1 v.2 = F.top ((F.pow n).top v.1 v.2) ((F.pow n).bot v.1 v.2) ∧ (F.pow (n + 1)).bot v.1 v.2 = F.bot ((F.pow n).top v.1 v.2) ((F.pow n).bot v.1 v.2) := by
      show (F.mul (F.pow n)).top v.1 v.2 = _ ∧ (F.mul (F.pow n)).bot v.1 v.2 = _
      unfold Mx.mul Mx.top Mx.bot
      dsimp only
      constructor <;> grind
    rw [e1.1, e1.2]
    generalize hu : ((F.pow n).top v.1 v.2, (F.pow n).bot v.1 v.2) = u at *
    have u1 : (F.pow n).top v.1 v.2 = u.1 := by rw [← hu]
    have u2 : (F.pow n).bot v.1 v.2 = u.2 := by rw [← hu]
    rw [u1, u2]
    have nl := low_nz nu
    have lu : lowP (lowP u) = lowP u := (lowP_ra nl nu).mpr (low_ra nu)
    obtain ⟨n1, r1⟩ := goL_ra hf nl
    have nq : Nz (goQ (rowF F w) (lowP u)) := go_nz hf nl
    have ns : Nz (goQ (starQ F w) (lowP u)) := go_nz (star_fok g) nl
    have r2 : Ra (goQ (rowF F w) (lowP u)) (goQ (starQ F w) (lowP u)) := go_low (star_fok g) nl
    have r3 := star_ra g (lowP u)
    have nF : ∀ x : Int × Int, Nz x → Nz (F.top x.1 x.2, F.bot x.1 x.2) := fun x hx => by
      obtain ⟨a, b, c⟩ := (good_P g).vec hx.1 hx.2.1 hx.2.2
      exact ⟨a, b, c⟩
    have r4 : Ra (F.top (lowP u).1 (lowP u).2, F.bot (lowP u).1 (lowP u).2) (F.top u.1 u.2, F.bot u.1 u.2) := by
      have r := low_ra nu
      unfold Ra at r ⊢
      unfold Mx.top Mx.bot
      dsimp only
      generalize (lowP u).1 = x at *
      generalize (lowP u).2 = y at *
      generalize u.1 = z at *
      generalize u.2 = t at *
      have : (F.a * x + F.b * y) * (F.c * z + F.d * t) - (F.a * z + F.b * t) * (F.c * x + F.d * y) = (F.a * F.d - F.b * F.c) * (x * t - z * y) := by grind
      have z0 : x * t - z * y = 0 := by omega
      rw [z0, Int.mul_zero] at this
      omega
    have rr := Ra.trans n1 nq (nF u nu) r1 (Ra.trans nq ns (nF u nu) r2 (Ra.trans ns (nF _ nl) (nF u nu) r3 r4))
    rw [← goL_low hf nl lu]
    exact (lowP_ra n1 (nF u nu)).mpr rr
theorem it_end {m F : Mx} {s w T B : Int} {n : Nat} (h : Rep m s n F w T B) (gm : Good m s) {v : Int × Int} (hv : Nz v) (lv : lowP v = v) : itL (rowF F w) n v = lowP (m.top v.1 v.2, m.bot v.1 v.2) := by
  rw [it_low h.good hv lv n]
  obtain ⟨p1, p2, p3, p4⟩ := h.pw
  have nu := pow_vec (good_P h.good) hv n
  obtain ⟨a, b, c⟩ := (good_P gm).vec hv.1 hv.2.1 hv.2.2
  refine (lowP_ra nu ⟨a, b, c⟩).mpr ?_
  unfold Ra Mx.top Mx.bot
  dsimp only
  generalize F.pow n = P at *
  have wp : w ^ n ≠ 0 := Int.ne_of_gt (Int.pow_pos h.root.w0)
  have s0 := gm.s0
  refine Int.eq_of_mul_eq_mul_left (show s ≠ 0 by omega) ?_
  generalize w ^ n = Y at *
  have e1 : s * ((P.a * v.1 + P.b * v.2) * (m.c * v.1 + m.d * v.2)) = (s * P.a * v.1 + s * P.b * v.2) * (m.c * v.1 + m.d * v.2) := by grind
  have e2 : s * ((m.a * v.1 + m.b * v.2) * (P.c * v.1 + P.d * v.2)) = (m.a * v.1 + m.b * v.2) * (s * P.c * v.1 + s * P.d * v.2) := by grind
  rw [e1, e2, p1, p2, p3, p4]
  grind
end K35
set_option maxRecDepth 100000
set_option maxHeartbeats 2000000
namespace K35
open PySem Ev
theorem rung_c : ∀ {r : List Pc}, (∀ p ∈ r, p.ok) → (∃ p ∈ r, p.rail = false) → 0 < (mat r).c
  | [], _, h => by obtain ⟨p, h, _⟩ := h; cases h
  | p :: r, h, hx => by
    have hr : ∀ q ∈ r, q.ok := fun q hq => h q (List.mem_cons_of_mem _ hq)
    obtain ⟨i1, i2, i3, i4, i5⟩ := ad_ge hr
    have hp := h p List.mem_cons_self
    obtain ⟨b, o⟩ := p
    have o1 : 1 ≤ o := hp.1
    rw [mat_cons]
    cases b with
    | true =>
      obtain ⟨q, hq, e⟩ := hx
      rcases List.mem_cons.mp hq with rfl | hq
      · cases e
      have := rung_c hr ⟨q, hq, e⟩
      show 0 < 0 * (mat r).a + 1 * (mat r).c
      omega
    | false =>
      have oc := Int.mul_nonneg (show 0 ≤ o by omega) i4
      show 0 < 1 * (mat r).a + o * (mat r).c
      omega
theorem rail_b : ∀ {r : List Pc}, (∀ p ∈ r, p.ok) → (∃ p ∈ r, p.rail = true) → 0 < (mat r).b
  | [], _, h => by obtain ⟨p, h, _⟩ := h; cases h
  | p :: r, h, hx => by
    have hr : ∀ q ∈ r, q.ok := fun q hq => h q (List.mem_cons_of_mem _ hq)
    obtain ⟨i1, i2, i3, i4, i5⟩ := ad_ge hr
    have hp := h p List.mem_cons_self
    obtain ⟨b, o⟩ := p
    have o1 : 1 ≤ o := hp.1
    rw [mat_cons]
    cases b with
    | true =>
      have od := Int.mul_pos (show 0 < o by omega) (show 0 < (mat r).d by omega)
      show 0 < 1 * (mat r).b + o * (mat r).d
      omega
    | false =>
      obtain ⟨q, hq, e⟩ := hx
      rcases List.mem_cons.mp hq with rfl | hq
      · cases e
      have := Int.mul_pos (show 0 < o by omega) (rail_b hr ⟨q, hq, e⟩)
      show 0 < o * (mat r).b + 0 * (mat r).d
      omega
theorem small_of {r : List Pc} (h : Row r) (ne : r ≠ []) (h1 : ∃ p ∈ r, p.rail = false) (h2 : ∃ p ∈ r, p.rail = true) : Small (mat r) (scl r) := by
  obtain ⟨a, b, c, d⟩ := mat_small h
  exact ⟨good_of h.1 ne, rail_b h.1 h2, rung_c h.1 h1, a, b, c, d⟩
theorem one_mul' (m : Mx) : one.mul m = m := by
  unfold one Mx.mul
  simp
theorem pow_one' (m : Mx) : m.pow 1 = m := by
  show m.mul one = m
  unfold Mx.mul one
  simp
def reps (r : List Pc) (k : Nat) : List Pc := (List.replicate k r).flatten
theorem mat_reps (r : List Pc) : ∀ k, mat (reps r k) = (mat r).pow k
  | 0 => rfl
  | k + 1 => by
    show mat (r ++ reps r k) = _
    rw [mat_app, mat_reps r k]
    rfl
theorem scl_reps (r : List Pc) : ∀ k, scl (reps r k) = scl r ^ k
  | 0 => by
    show scl [] = scl r ^ 0
    rw [Int.pow_zero]
    rfl
  | k + 1 => by
    show scl (r ++ reps r k) = _
    rw [scl_app, scl_reps r k, Int.pow_succ, Int.mul_comm]
theorem reps_map (r : List Pc) : ∀ k, (List.replicate k (r.map Pc.D)).flatten = (reps r k).map Pc.D
  | 0 => rfl
  | k + 1 => by
    show r.map Pc.D ++ (List.replicate k (r.map Pc.D)).flatten = (r ++ reps r k).map Pc.D
    rw [reps_map r k, List.map_append]
theorem reps_len (r : List Pc) : ∀ k, (reps r k).length = k * r.length
  | 0 => by
    show 0 = 0 * r.length
    omega
  | k + 1 => by
    show (r ++ reps r k).length = _
    rw [List.length_append, reps_len r k, Nat.add_one_mul]
    omega
theorem reps_mem (r : List Pc) : ∀ {k}, 1 ≤ k → ∀ p, p ∈ reps r k ↔ p ∈ r
  | 0, h, _ => absurd h (by omega)
  | 1, _, p => by
    show p ∈ r ++ [] ↔ _
    rw [List.append_nil]
  | k + 2, _, p => by
    show p ∈ r ++ reps r (k + 1) ↔ _
    rw [List.mem_append, reps_mem r (by omega) p]
    exact ⟨fun h => h.elim id id, .inl⟩
theorem eqm_mul {c c' d d' : Int} {P P' m m' : Mx} (h : Eqm c P d m) (l : Eqm c' P' d' m') : Eqm (c * c') (P.mul P') (d * d') (m.mul m') := by
  obtain ⟨h1, h2, h3, h4⟩ := h
  obtain ⟨l1, l2, l3, l4⟩ := l
  unfold Mx.mul Eqm
  dsimp only
  have sp : ∀ x y u v x' y' u' v' : Int, c * x = d * u → c' * y = d' * v → c * x' = d * u' → c' * y' = d' * v' → c * c' * (x * y + x' * y') = d * d' * (u * v + u' * v') := fun x y u v x' y' u' v' a b a' b' => by
    have e1 : c * c' * (x * y + x' * y') = (c * x) * (c' * y) + (c * x') * (c' * y') := by grind
    rw [e1, a, b, a', b']
    grind
  exact ⟨sp _ _ _ _ _ _ _ _ h1 l1 h2 l3, sp _ _ _ _ _ _ _ _ h1 l2 h2 l4, sp _ _ _ _ _ _ _ _ h3 l1 h4 l3, sp _ _ _ _ _ _ _ _ h3 l2 h4 l4⟩
theorem eqm_pow {c d : Int} {P m : Mx} (h : Eqm c P d m) : ∀ k : Nat, Eqm (c ^ k) (P.pow k) (d ^ k) (m.pow k)
  | 0 => ⟨by simp [Mx.pow], by simp [Mx.pow], by simp [Mx.pow], by simp [Mx.pow]⟩
  | k + 1 => by
    have := eqm_mul h (eqm_pow h k)
    rw [Int.pow_succ, Int.pow_succ, Int.mul_comm (c ^ k), Int.mul_comm (d ^ k)]
    exact this
theorem pow_mul' (m : Mx) (n : Nat) : ∀ k, m.pow (n * k) = (m.pow n).pow k
  | 0 => rfl
  | k + 1 => by
    show m.pow (n * (k + 1)) = (m.pow n).mul ((m.pow n).pow k)
    rw [← pow_mul' m n k, ← Mx.pow_add, Nat.mul_succ, Nat.add_comm]
theorem rep_many {r : List Pc} {k : Nat} (hr : Small (mat r) (scl r)) (hq : Small (mat (reps r k)) (scl (reps r k))) (k1 : 1 ≤ k) {n : Nat} {F : Mx} {w T B : Int} (e : repB (mat r) (scl r) = ((n : Int), rowF F w)) (h : Rep (mat r) (scl r) n F w T B) {n' : Nat} {L : List Fp}
    (e' : repB (mat (reps r k)) (scl (reps r k)) = ((n' : Int), L)) : k * n ≤ n' ∧ (n' = k * n → L = rowF F w) := by
  rcases Nat.lt_or_eq_of_le k1 with k2 | k2
  · have n1 := h.n1
    obtain ⟨K, hK⟩ : ∃ K, k * n = K + 1 := ⟨k * n - 1, by
      have := Nat.mul_le_mul k1 n1
      omega⟩
    have K1 : 1 ≤ K := by
      have := Nat.mul_le_mul (show 2 ≤ k by omega) n1
      omega
    have pw : Eqm (scl (reps r k)) (F.pow (K + 1)) (w ^ (K + 1)) (mat (reps r k)) := by
      rw [← hK, Nat.mul_comm k n, pow_mul', Int.pow_mul, mat_reps, scl_reps]
      exact eqm_pow h.pw k
    obtain ⟨f1, f2, f3⟩ := rep_full hq K1 h.root h.good h.c0 pw
    obtain ⟨T', B', g', hl, _, _, _, B1, _, T38, B38, _⟩ := small_tr hq
    unfold repB at e'
    rw [hl] at f1 f3 e'
    dsimp only at f1 f2 f3 e'
    have K35 := mayP_end (by omega) (by omega) (f3 K (Nat.le_refl _))
    rcases repG_reach _ _ T' B' (by omega) (by omega) f1 f2 f3 45 1 (1, ((starQ (mat (reps r k)) (scl (reps r k))).map lowF).filter keep) K1 (by omega) with q | ⟨j, v, l, a, b, c, d, q⟩
    · rw [q] at e'
      have e1 : (K : Int) + 1 = n' := congrArg (·.1) e'
      have e2 : rowF F w = L := congrArg (·.2) e'
      exact ⟨by omega, fun _ => e2.symm⟩
    · rw [q] at e'
      have e1 : (j : Int) + 1 = n' := congrArg (·.1) e'
      exact ⟨by omega, fun z => by omega⟩
  · subst k2
    have : reps r 1 = r := List.append_nil r
    rw [this, e] at e'
    have e1 : (n : Int) = n' := congrArg (·.1) e'
    exact ⟨by omega, fun _ => (congrArg (·.2) e').symm⟩
theorem it_vec {m F : Mx} {s w T B : Int} {n : Nat} (h : Rep m s n F w T B) {v : Int × Int} (hv : Vec 10 v) (lv : lowP v = v) {i : Nat} (hi : i ≤ n) : Vec 140 (itL (rowF F w) i v) := by
  have nv : Nz v := ⟨hv.t.1, hv.b.1, hv.p⟩
  rcases i with _ | j
  · exact hv.mono (by decide)
  rw [it_low h.good nv lv]
  have nu := pow_vec (good_P h.good) nv (j + 1)
  obtain ⟨p1, p2, p3, p4⟩ := root_pow h.root j
  have pos := stP_pos h.root.B0 (Int.le_of_lt h.root.T0) j
  have hh := h.hs j (by omega)
  obtain ⟨ga, gd, gb, gc, gs, gbc, ge⟩ := h.good
  have bp : 0 < B ^ j := Int.pow_pos (by have := h.root.B0; omega)
  have wp : 0 < w ^ j := Int.pow_pos gs
  have B0 := h.root.B0
  obtain ⟨fa, fb, fc, fd⟩ := h.fs
  have ws := h.ws
  generalize F.pow (j + 1) = P at *
  generalize B ^ j = X at *
  generalize w ^ j = Y at *
  generalize (stP T B j).1 = u at *
  generalize (stP T B j).2 = g at *
  have su : Sm 40 u := ⟨by omega, hh⟩
  have sua := (su.mul fa)
  have sub := (su.mul fb)
  have suc := (su.mul fc)
  have sud := (su.mul fd)
  have wg : 0 ≤ w * B * g ∧ w * B * g ≤ u * w := by
    have m1 := Int.mul_nonneg (Int.mul_nonneg (Int.le_of_lt gs) (show 0 ≤ B by omega)) pos.2.1
    have m2 := Int.mul_le_mul_of_nonneg_left pos.2.2 (Int.le_of_lt gs)
    have e1 : w * (B * g) = w * B * g := by grind
    have e2 : w * u = u * w := Int.mul_comm _ _
    exact ⟨m1, by omega⟩
  have ua := Int.mul_le_mul_of_nonneg_left ga (Int.le_of_lt pos.1)
  have ud := Int.mul_le_mul_of_nonneg_left gd (Int.le_of_lt pos.1)
  have xa : Sm 120 (u * F.a - w * B * g) := ⟨by omega, by have := sua.2; omega⟩
  have xd : Sm 120 (u * F.d - w * B * g) := ⟨by omega, by have := sud.2; omega⟩
  have t1 : Sm 131 ((u * F.a - w * B * g) * v.1 + u * F.b * v.2) := (xa.mul hv.t).add (sub.mul hv.b)
  have t2 : Sm 131 (u * F.c * v.1 + (u * F.d - w * B * g) * v.2) := (suc.mul hv.t).add (xd.mul hv.b)
  have eq1 : X * P.top v.1 v.2 = Y * ((u * F.a - w * B * g) * v.1 + u * F.b * v.2) := by
    unfold Mx.top
    have : X * (P.a * v.1 + P.b * v.2) = X * P.a * v.1 + X * P.b * v.2 := by grind
    rw [this, p1, p2]
    grind
  have eq2 : X * P.bot v.1 v.2 = Y * (u * F.c * v.1 + (u * F.d - w * B * g) * v.2) := by
    unfold Mx.bot
    have : X * (P.c * v.1 + P.d * v.2) = X * P.c * v.1 + X * P.d * v.2 := by grind
    rw [this, p3, p4]
    grind
  generalize (u * F.a - w * B * g) * v.1 + u * F.b * v.2 = a1 at *
  generalize u * F.c * v.1 + (u * F.d - w * B * g) * v.2 = a2 at *
  have n2 : Nz (a1, a2) := by
    refine ⟨t1.1, t2.1, ?_⟩
    show 0 < a1 + a2
    have q := Int.mul_pos bp nu.2.2
    have e : X * (P.top v.1 v.2 + P.bot v.1 v.2) = Y * (a1 + a2) := by rw [Int.mul_add, eq1, eq2, Int.mul_add]
    dsimp only at q
    rw [e] at q
    have t1 := t1.1
    have t2 := t2.1
    rcases Int.lt_or_le 0 (a1 + a2) with z | z
    · exact z
    · have := Int.mul_nonpos_of_nonneg_of_nonpos (Int.le_of_lt wp) z
      omega
  have e : lowP (P.top v.1 v.2, P.bot v.1 v.2) = lowP (a1, a2) := by
    refine (lowP_ra nu n2).mpr ?_
    show P.top v.1 v.2 * a2 = a1 * P.bot v.1 v.2
    refine Int.eq_of_mul_eq_mul_left (show X * Y ≠ 0 from Int.mul_ne_zero (by omega) (by omega)) ?_
    have e1 : X * Y * (P.top v.1 v.2 * a2) = X * P.top v.1 v.2 * (Y * a2) := by grind
    have e2 : X * Y * (a1 * P.bot v.1 v.2) = Y * a1 * (X * P.bot v.1 v.2) := by grind
    rw [e1, e2, eq1, eq2]
  rw [e]
  obtain ⟨l1, l2⟩ := low_sm t1 t2 n2.2.2
  exact ⟨l1.mono (by decide), l2.mono (by decide), low_pos n2.1 n2.2.1 n2.2.2⟩
end K35
set_option maxRecDepth 100000
set_option maxHeartbeats 1000000
namespace K35
open PySem Ev
theorem four_ok (r : List Pc) (h : Row r) : sem__law_four [.lst (r.map Pc.D)] = M.pure (.tup [.int (mat r).a, .int (mat r).b, .int (mat r).c, .int (mat r).d, .int (scl r)]) := by
  refine pure_wp fun S => ?_
  (unfold sem__law_four; refine Ev.go_fn rfl ?_; unfold pk__law_four; simp only [Ev.slots, List.map_cons, List.map_nil, List.length_cons, List.length_nil, List.cons_append, List.nil_append, List.replicate, Nat.reduceSub, Nat.reduceAdd])
  (repeat regstrif_gather)
  refine gs_each (J := fun r' sd S' => S' = S ∧ ∃ (m : Mx) (t : Int) (k : Nat) (u v : SV), sd = [.val (.lst (r.map Pc.D)), .val (.int m.a), .val (.int m.b), .val (.int m.c), .val (.int m.d), .val (.int t), u, v] ∧ chainM m t r' = chainM one 1 r ∧ m.S k ∧ Sm k t ∧ k + 5 * r'.length ≤ 100 ∧ ∀ p ∈ r', p.ok) ?_ ?_ _ _ _ ⟨rfl, one, 1, 1, _, _, rfl, rfl, one_sm, ⟨by decide, by decide⟩, by have := h.2; omega, h.1⟩
  · rintro p r' sd S' ⟨rfl, m, t, k, u, v, rfl, ch, hm, ht, hk, ho⟩
    have hp := ho p List.mem_cons_self
    have hr2 : ∀ q ∈ r', q.ok := fun q hq => ho q (List.mem_cons_of_mem _ hq)
    rw [List.length_cons] at hk
    have so : Sm 4 p.o := Pc.sm hp
    have bo := bd_sm so
    have ba := bd_sm hm.a
    have bb := bd_sm hm.b
    have bc := bd_sm hm.c
    have bd := bd_sm hm.d
    have bt := bd_sm ht
    have hm2 : (m.mul p.m).S (k + 5) := hm.mul (Pc.ms hp)
    have st : Sm (k + 5) (t * p.o) := (ht.mul so).mono (by omega)
    unfold Pc.D
    (repeat regstrif_gather)
    rcases p with ⟨_ | _, o⟩
    · refine ite_df (show ¬ (("rung" : Str) = "rail") by decide) ?_
      (repeat regstrif_gather)
      have e : m.mul (Pc.m ⟨false, o⟩) = ⟨m.a * o + m.b, m.b * o, m.c * o + m.d, m.d * o⟩ := by unfold Mx.mul Pc.m; simp
      rw [e] at hm2
      refine ⟨rfl, ⟨m.a * o + m.b, m.b * o, m.c * o + m.d, m.d * o⟩, t * o, k + 5, _, _, rfl, ?_, hm2, st, by omega, hr2⟩
      rw [← ch, ← e]
      rfl
    · refine ite_dt (show (("rail" : Str) = "rail") from rfl) ?_
      (repeat regstrif_gather)
      have e : m.mul (Pc.m ⟨true, o⟩) = ⟨m.a, m.a * o + m.b, m.c, m.c * o + m.d⟩ := by unfold Mx.mul Pc.m; simp
      rw [e] at hm2
      refine ⟨rfl, ⟨m.a, m.a * o + m.b, m.c, m.c * o + m.d⟩, t, k + 5, _, _, rfl, ?_, hm2, ht.mono (by omega), by omega, hr2⟩
      rw [← ch, ← e]
      rfl
  · rintro sd S' ⟨rfl, m, t, k, u, v, rfl, ch, hm, ht, hk, ho⟩
    (repeat regstrif_gather)
    have ch : (m, t) = chainM one 1 r := ch
    unfold mat scl
    rw [← ch]
    exact ⟨rfl, rfl⟩
end K35
set_option maxRecDepth 100000
set_option maxHeartbeats 2000000
namespace K35
open PySem Ev
theorem law_pair_big {k : Nat} (t b : Int) (ht : Sm k t) (hb : Sm k b) (h : 0 < t + b) (hk : k ≤ 9000) : sem__law_pair [.int t, .int b] = M.pure (pairD (lowP (t, b))) := by
  refine pure_wp fun S => ?_
  obtain ⟨n, hn, hl⟩ := left_big ht hb
  have g0 : 0 < (Int.gcd t b : Int) := gcd_pos2 (by have := ht.1; have := hb.1; omega)
  have g1 := gcd_sm ht hb
  have bg : Bd 9000 (Int.gcd t b : Int) := bd_sm (g1.mono hk)
  (unfold sem__law_pair; refine Ev.go_fn rfl ?_; unfold pk__law_pair; simp only [Ev.slots, List.map_cons, List.map_nil, List.length_cons, List.length_nil, List.cons_append, List.nil_append, List.replicate, Nat.reduceSub, Nat.reduceAdd])
  (repeat regstrif_gather)
  refine gs_iter (J := fun n sd S' => S' = S ∧ ∃ x y : Int, sd = [.val (.int t), .val (.int b), .val (.int x), .val (.int y)] ∧ 0 ≤ x ∧ 0 ≤ y ∧ Int.gcd x y = Int.gcd t b ∧ Left x y n) ?_ n _ _ (by unfold bigW; omega) ⟨rfl, t, b, rfl, ht.1, hb.1, rfl, hl⟩
  rintro n sd S' ⟨rfl, x, y, rfl, hx, hy, hg, hn⟩
  (repeat regstrif_gather)
  refine ite_d (fun h => ?_) (fun h => ?_)
  · (repeat regstrif_gather)
    obtain ⟨n', l', h'⟩ := left_step hx h hn
    exact ⟨n', l', rfl, y, x % y, rfl, hy, Int.emod_nonneg x (by omega), (gcd_step x y hx h).trans hg, h'⟩
  · have y0 : y = 0 := by omega
    subst y0
    simp only [Int.gcd_zero] at hg
    have xg : x = (Int.gcd t b : Int) := by omega
    subst xg
    (repeat regstrif_gather)
    exact ⟨rfl, rfl⟩
def lstQ (v : Int × Int) : D := .lst [.int v.1, .int v.2]
def heP (T B : Int) (i : Nat) : Int × Int := lowP ((stP T B i).1, B ^ i)
def ahP (T B : Int) : Nat → Int × Int
  | 0 => (0, 1)
  | i + 1 => heP T B i
theorem he_is {T B : Int} (hB : 1 ≤ B) (hT : 2 * B ≤ T) (i : Nat) : (heP T B i).1 * B ^ i = (stP T B i).1 * (heP T B i).2 ∧ 0 < (heP T B i).1 ∧ 0 < (heP T B i).2 ∧ (heP T B i).1 ≤ (stP T B i).1 ∧ (heP T B i).2 ≤ B ^ i := by
  have p := (stP_pos hB hT i).1
  have b : 0 < B ^ i := Int.pow_pos (by omega)
  obtain ⟨g, g0, e1, e2⟩ := lowP_mul (v := ((stP T B i).1, B ^ i)) (by show 0 ≤ (stP T B i).1; omega) (by show 0 ≤ B ^ i; omega) (by show 0 < (stP T B i).1 + B ^ i; omega)
  have e1 : g * (heP T B i).1 = (stP T B i).1 := e1
  have e2 : g * (heP T B i).2 = B ^ i := e2
  have p1 : 0 < (heP T B i).1 := by
    rcases Int.lt_or_le 0 (heP T B i).1 with z | z
    · exact z
    · have := Int.mul_nonpos_of_nonneg_of_nonpos (Int.le_of_lt g0) z
      omega
  have p2 : 0 < (heP T B i).2 := by
    rcases Int.lt_or_le 0 (heP T B i).2 with z | z
    · exact z
    · have := Int.mul_nonpos_of_nonneg_of_nonpos (Int.le_of_lt g0) z
      omega
  refine ⟨?_, p1, p2, ?_, ?_⟩
  · rw [← e1, ← e2]
    grind
  · have := Int.mul_le_mul_of_nonneg_right (show 1 ≤ g by omega) (Int.le_of_lt p1)
    omega
  · have := Int.mul_le_mul_of_nonneg_right (show 1 ≤ g by omega) (Int.le_of_lt p2)
    omega
theorem ah_is {T B : Int} (hB : 1 ≤ B) (hT : 2 * B ≤ T) : ∀ i : Nat, (ahP T B i).1 * B ^ i = (stP T B i).2 * B * (ahP T B i).2 ∧ 0 ≤ (ahP T B i).1 ∧ 0 < (ahP T B i).2
  | 0 => by
    show (0 : Int) * B ^ 0 = 0 * B * 1 ∧ (0 : Int) ≤ 0 ∧ (0 : Int) < 1
    simp
  | i + 1 => by
    obtain ⟨h1, h2, h3, _, _⟩ := he_is hB hT i
    show (heP T B i).1 * B ^ (i + 1) = (stP T B i).1 * B * (heP T B i).2 ∧ 0 ≤ (heP T B i).1 ∧ 0 < (heP T B i).2
    refine ⟨?_, Int.le_of_lt h2, h3⟩
    rw [Int.pow_succ]
    have : (heP T B i).1 * (B ^ i * B) = (heP T B i).1 * B ^ i * B := by grind
    rw [this, h1]
    grind
theorem pow_sm {B : Int} {j : Nat} (h : Sm j B) : ∀ k : Nat, Sm (j * k + 1) (B ^ k)
  | 0 => by
    rw [Int.pow_zero, Nat.mul_zero]
    exact ⟨by decide, by decide⟩
  | k + 1 => by
    rw [Int.pow_succ]
    exact ((pow_sm h k).mul h).mono (by rw [Nat.mul_succ]; omega)
theorem he_sm {T B : Int} (hB : 1 ≤ B) (hT : 2 * B ≤ T) (t : T < 2 ^ 39) (b : B < 2 ^ 38) {i : Nat} (hi : i ≤ 40) : Sm 3400 (heP T B i).1 ∧ Sm 1600 (heP T B i).2 ∧ Sm 3400 (ahP T B i).1 ∧ Sm 1600 (ahP T B i).2 := by
  have bd : ∀ i, i ≤ 40 → Sm 3400 (heP T B i).1 ∧ Sm 1600 (heP T B i).2 := fun i hi => by
    obtain ⟨_, h2, h3, h4, h5⟩ := he_is hB hT i
    have s1 := (stP_bd (t := T) (b := B) (.mk (by omega)) (.mk (by omega)) i).1
    have p := (stP_pos hB hT i).1
    have s2 := pow_sm (B := B) (j := 38) ⟨by omega, b⟩ i
    have s1' : Sm 3400 (stP T B i).1 := ⟨Int.le_of_lt p, by
      have := (s1.mono (show 84 * i + 1 ≤ 3400 by omega)).nat
      omega⟩
    have s2' : Sm 1600 (B ^ i) := s2.mono (by omega)
    exact ⟨⟨Int.le_of_lt h2, Int.lt_of_le_of_lt h4 s1'.2⟩, ⟨Int.le_of_lt h3, Int.lt_of_le_of_lt h5 s2'.2⟩⟩
  refine ⟨(bd i hi).1, (bd i hi).2, ?_⟩
  cases i with
  | zero => exact ⟨⟨by show (0 : Int) ≤ 0; decide, by show (0 : Int) < 2 ^ 3400; exact Int.pow_pos (by decide)⟩, ⟨by show (0 : Int) ≤ 1; decide, by show (1 : Int) < 2 ^ 1600; exact_mod_cast Nat.one_lt_two_pow (by decide)⟩⟩
  | succ i => exact bd i (by omega)
theorem ra_low {a b c d : Int} (h1 : 0 ≤ a) (h2 : 0 < b) (h3 : 0 ≤ c) (h4 : 0 < d) (e : a * d = c * b) : lowP (a, b) = lowP (c, d) :=
  (lowP_ra ⟨h1, Int.le_of_lt h2, by show 0 < a + b; omega⟩ ⟨h3, Int.le_of_lt h4, by show 0 < c + d; omega⟩).mpr e
theorem next_he {T B : Int} (hB : 1 ≤ B) (hT : 2 * B ≤ T) (i : Nat) : 0 < T * (heP T B i).1 * (ahP T B i).2 - (ahP T B i).1 * (B * (heP T B i).2) ∧ 0 < B * (heP T B i).2 * (ahP T B i).2 ∧
    lowP (T * (heP T B i).1 * (ahP T B i).2 - (ahP T B i).1 * (B * (heP T B i).2), B * (heP T B i).2 * (ahP T B i).2) = heP T B (i + 1) := by
  obtain ⟨h1, h2, h3, _, _⟩ := he_is hB hT i
  obtain ⟨a1, a2, a3⟩ := ah_is hB hT i
  have p := (stP_pos hB hT (i + 1)).1
  have b : 0 < B ^ (i + 1) := Int.pow_pos (by omega)
  have e : B ^ (i + 1) = B ^ i * B := Int.pow_succ ..
  have hs : (stP T B (i + 1)).1 = T * (stP T B i).1 - B * B * (stP T B i).2 := rfl
  unfold heP at *
  generalize lowP ((stP T B i).1, B ^ i) = u at *
  generalize ahP T B i = v at *
  have q : 0 < B * u.2 * v.2 := Int.mul_pos (Int.mul_pos (by omega) h3) a3
  have key : (T * u.1 * v.2 - v.1 * (B * u.2)) * B ^ (i + 1) = (stP T B (i + 1)).1 * (B * u.2 * v.2) := by
    rw [e, hs]
    have s1 : (T * u.1 * v.2 - v.1 * (B * u.2)) * (B ^ i * B) = B * (T * v.2 * (u.1 * B ^ i) - B * u.2 * (v.1 * B ^ i)) := by grind
    rw [s1, h1, a1]
    grind
  have xp : 0 < T * u.1 * v.2 - v.1 * (B * u.2) := by
    have m := Int.mul_pos p q
    rw [← key] at m
    rcases Int.lt_or_le 0 (T * u.1 * v.2 - v.1 * (B * u.2)) with z | z
    · exact z
    · have := Int.mul_nonpos_of_nonpos_of_nonneg z (Int.le_of_lt b)
      omega
  exact ⟨xp, q, ra_low (Int.le_of_lt xp) q (Int.le_of_lt p) b key⟩
theorem end_tr {T B : Int} (hB : 1 ≤ B) (hT : 2 * B < T) (i : Nat) : 0 < T * (heP T B i).1 * (ahP T B i).2 - 2 * (ahP T B i).1 * (B * (heP T B i).2) ∧ 0 < B * (heP T B i).2 * (ahP T B i).2 ∧
    lowP (T * (heP T B i).1 * (ahP T B i).2 - 2 * (ahP T B i).1 * (B * (heP T B i).2), B * (heP T B i).2 * (ahP T B i).2) = lowP (trP T B i, B ^ (i + 1)) := by
  obtain ⟨h1, h2, h3, _, _⟩ := he_is hB (Int.le_of_lt hT) i
  obtain ⟨a1, a2, a3⟩ := ah_is hB (Int.le_of_lt hT) i
  have p : 0 < trP T B i := by
    have := (stP_pos hB (Int.le_of_lt hT) i).1
    have := tr_pos hB hT i
    omega
  have b : 0 < B ^ (i + 1) := Int.pow_pos (by omega)
  have e : B ^ (i + 1) = B ^ i * B := Int.pow_succ ..
  have hs : trP T B i = T * (stP T B i).1 - 2 * B * B * (stP T B i).2 := rfl
  generalize heP T B i = u at *
  generalize ahP T B i = v at *
  have q : 0 < B * u.2 * v.2 := Int.mul_pos (Int.mul_pos (by omega) h3) a3
  have key : (T * u.1 * v.2 - 2 * v.1 * (B * u.2)) * B ^ (i + 1) = trP T B i * (B * u.2 * v.2) := by
    rw [e, hs]
    have s1 : (T * u.1 * v.2 - 2 * v.1 * (B * u.2)) * (B ^ i * B) = B * (T * v.2 * (u.1 * B ^ i) - 2 * B * u.2 * (v.1 * B ^ i)) := by grind
    rw [s1, h1, a1]
    grind
  have xp : 0 < T * u.1 * v.2 - 2 * v.1 * (B * u.2) := by
    have m := Int.mul_pos p q
    rw [← key] at m
    rcases Int.lt_or_le 0 (T * u.1 * v.2 - 2 * v.1 * (B * u.2)) with z | z
    · exact z
    · have := Int.mul_nonpos_of_nonpos_of_nonneg z (Int.le_of_lt b)
      omega
  exact ⟨xp, q, ra_low (Int.le_of_lt xp) q (Int.le_of_lt p) b key⟩
theorem he0 (T B : Int) : heP T B 0 = (1, 1) := by
  unfold heP
  rw [Int.pow_zero]
  show lowP ((1 : Int), 1) = (1, 1)
  decide +kernel
theorem powers_ok {T B : Int} (hB : 1 ≤ B) (hT : 2 * B ≤ T) (t : T < 2 ^ 39) (b : B < 2 ^ 38) (k : Nat) (hk : k ≤ 39) : sem__law_powers [.int T, .int B, .int ((k : Int) + 1)] = M.pure (.tup [lstQ (heP T B k), lstQ (ahP T B k)]) := by
  refine pure_wp fun S => ?_
  have bT : Bd 39 T := .mk (by omega)
  have bB : Bd 38 B := .mk (by omega)
  (unfold sem__law_powers; refine Ev.go_fn rfl ?_; unfold pk__law_powers; simp only [Ev.slots, List.map_cons, List.map_nil, List.length_cons, List.length_nil, List.cons_append, List.nil_append, List.replicate, Nat.reduceSub, Nat.reduceAdd])
  (repeat regstrif_gather)
  have e1 : (k : Int) + 1 - 1 = (k : Int) := by omega
  rw [e1]
  refine gs_loop (J := fun ds sd S' => S' = S ∧ ds.length ≤ k ∧ ∃ y1 y2 y3 y4 : SV, sd = [.val (.int T), .val (.int B), .val (.int ((k : Int) + 1)), .val (lstQ (heP T B (k - ds.length))), .val (lstQ (ahP T B (k - ds.length))), y1, y2, y3, y4]) ?_ ?_ _ _ _ ⟨rfl, by simp [rngD], .no, .no, .no, .no, ?_⟩
  · rintro d ds sd S' ⟨rfl, hl, y1, y2, y3, y4, rfl⟩
    rw [List.length_cons] at hl ⊢
    refine ⟨_, _, rfl, ?_⟩
    have e : k - ds.length = (k - (ds.length + 1)) + 1 := by omega
    have li : k - (ds.length + 1) ≤ 40 := by omega
    rw [e]
    generalize k - (ds.length + 1) = i at *
    obtain ⟨x0, u0, ln⟩ := next_he hB hT i
    obtain ⟨s1, s2, s3, s4⟩ := he_sm hB hT t b li
    have ea : ahP T B (i + 1) = heP T B i := rfl
    rw [ea]
    have hpos := he_is hB hT i
    have hpos2 := ah_is hB hT i
    generalize heP T B (i + 1) = w at *
    generalize heP T B i = u at *
    generalize ahP T B i = v at *
    have b1 := bd_sm s1
    have b2 := bd_sm s2
    have b3 := bd_sm s3
    have b4 := bd_sm s4
    unfold lstQ
    (repeat regstrif_gather)
    have ab : ((T * u.1 * v.2 - v.1 * (B * u.2)).natAbs : Int) = T * u.1 * v.2 - v.1 * (B * u.2) := by omega
    rw [ab]
    have sx : Sm 6000 (T * u.1 * v.2 - v.1 * (B * u.2)) := by
      have sT : Sm 39 T := ⟨by omega, t⟩
      have m := ((sT.mul s1).mul s4).mono (show 39 + 3400 + 1600 ≤ 6000 by decide)
      have n := Int.mul_nonneg s3.1 (Int.mul_nonneg (show 0 ≤ B by omega) s2.1)
      exact ⟨Int.le_of_lt x0, by have := m.2; omega⟩
    have sy : Sm 6000 (B * u.2 * v.2) := by
      have sB : Sm 38 B := ⟨by omega, b⟩
      exact ((sB.mul s2).mul s4).mono (by decide)
    have lp := law_pair_big _ _ sx sy (by omega) (by decide)
    rw [ln] at lp
    refine go_val lp ?_
    unfold pairD
    (repeat regstrif_gather)
    exact ⟨rfl, by omega, _, _, _, _, rfl⟩
  · rintro sd S' ⟨rfl, hl, y1, y2, y3, y4, rfl⟩
    (repeat regstrif_gather)
    exact ⟨rfl, rfl⟩
  · have hl0 : (rngD 0 (k : Int).toNat).length = k := by simp [rngD]
    rw [hl0, Nat.sub_self, he0]
    rfl
theorem power_trace_ok {T B : Int} (hB : 1 ≤ B) (hT : 2 * B < T) (t : T < 2 ^ 39) (b : B < 2 ^ 38) (k : Nat) (hk : k ≤ 39) : sem__law_power_trace [.int T, .int B, .int ((k : Int) + 1)] = M.pure (pairD (lowP (trP T B k, B ^ (k + 1)))) := by
  refine pure_wp fun S => ?_
  have bT : Bd 39 T := .mk (by omega)
  have bB : Bd 38 B := .mk (by omega)
  have pw := powers_ok hB (Int.le_of_lt hT) t b k hk
  obtain ⟨x0, u0, ln⟩ := end_tr hB hT k
  obtain ⟨s1, s2, s3, s4⟩ := he_sm hB (Int.le_of_lt hT) t b (show k ≤ 40 by omega)
  rw [← ln]
  generalize heP T B k = u at *
  generalize ahP T B k = v at *
  have b1 := bd_sm s1
  have b2 := bd_sm s2
  have b3 := bd_sm s3
  have b4 := bd_sm s4
  have sT : Sm 39 T := ⟨by omega, t⟩
  have sB : Sm 38 B := ⟨by omega, b⟩
  have sx : Sm 6000 (T * u.1 * v.2 - 2 * v.1 * (B * u.2)) := by
    have m := ((sT.mul s1).mul s4).mono (show 39 + 3400 + 1600 ≤ 6000 by decide)
    have n := Int.mul_nonneg (show 0 ≤ 2 * v.1 by have := s3.1; omega) (Int.mul_nonneg (show 0 ≤ B by omega) s2.1)
    exact ⟨Int.le_of_lt x0, by have := m.2; omega⟩
  have sy : Sm 6000 (B * u.2 * v.2) := ((sB.mul s2).mul s4).mono (by decide)
  have lp := law_pair_big _ _ sx sy (by omega) (by decide)
  unfold lstQ at pw
  (unfold sem__law_power_trace; refine Ev.go_fn rfl ?_; unfold pk__law_power_trace; simp only [Ev.slots, List.map_cons, List.map_nil, List.length_cons, List.length_nil, List.cons_append, List.nil_append, List.replicate, Nat.reduceSub, Nat.reduceAdd])
  (repeat regstrif_gather)
  refine go_val pw ?_
  (repeat regstrif_gather)
  exact go_val lp ⟨rfl, rfl⟩
theorem root_bottom_ok {n : Int} (h1 : 1 ≤ n) (h2 : n < 899940001) (k : Nat) (k1 : 1 ≤ k) (hk : k ≤ 40) : sem__law_root_bottom [.int n, .int ((k : Int) + 1)] = M.pure (optD (rootP n (k + 1))) := by
  refine pure_wp fun S => ?_
  have none_of : (∀ x, 1 ≤ x → x ^ (k + 1) ≠ n) → rootP n (k + 1) = none := fun h => by
    cases e : rootP n (k + 1) with
    | none => rfl
    | some x =>
      obtain ⟨a, _, c⟩ := rootP_some h1 e
      exact absurd c (h x a)
  have mono : ∀ x y : Int, 1 ≤ x → x ≤ y → x ^ (k + 1) ≤ y ^ (k + 1) := fun x y a b => by
    rcases Int.lt_or_eq_of_le b with z | z
    · exact Int.le_of_lt (pow_lt (by omega) z k)
    · rw [z]
      exact Int.le_refl _
  (unfold sem__law_root_bottom; refine Ev.go_fn rfl ?_; unfold pk__law_root_bottom; simp only [Ev.slots, List.map_cons, List.map_nil, List.length_cons, List.length_nil, List.cons_append, List.nil_append, List.replicate, Nat.reduceSub, Nat.reduceAdd])
  (repeat regstrif_gather)
  refine gs_loop (J := fun ds sd S' => S' = S ∧ ∃ (j m : Nat) (y1 y2 y3 : SV), ds = rngD (1 + j) m ∧ j + m = 29999 ∧ (∀ x : Int, 1 ≤ x → x < 1 + j → x ^ (k + 1) < n) ∧ sd = [.val (.int n), .val (.int ((k : Int) + 1)), y1, y2, y3]) ?_ ?_ _ _ _ ⟨rfl, 0, 29999, _, _, _, rfl, rfl, fun x a b => by omega, rfl⟩
  · rintro d ds sd S' ⟨rfl, j, m, y1, y2, y3, e, jm, hx, rfl⟩
    rcases m with _ | m
    · cases e
    have er : rngD (1 + j) (m + 1) = .int (1 + (j : Int)) :: rngD (1 + ((j + 1 : Nat) : Int)) m := by
      unfold rngD
      rw [List.range_succ_eq_map, List.map_cons, List.map_map]
      refine congr (congrArg _ ?_) (List.map_congr_left fun i _ => ?_)
      · simp
      · show D.int _ = D.int _
        refine congrArg D.int ?_
        push_cast
        omega
    rw [er] at e
    cases e
    refine ⟨_, _, rfl, ?_⟩
    have sp : Sm 15 (1 + (j : Int)) := ⟨by omega, by omega⟩
    have bp := bd_sm sp
    (repeat regstrif_gather)
    have ek : ((k : Int) + 1).toNat = k + 1 := by omega
    refine gs_loop (J := fun ds sd S2 => S2 = S' ∧ ds.length ≤ k + 1 ∧ ∃ y : SV, sd = [.val (.int n), .val (.int ((k : Int) + 1)), .val (.int (1 + (j : Int))), .val (.int ((1 + (j : Int)) ^ (k + 1 - ds.length))), y]) ?_ ?_ _ _ _ ⟨rfl, by simp [rngD], y3, ?_⟩
    · rintro d2 ds sd S2 ⟨rfl, hl, y, rfl⟩
      rw [List.length_cons] at hl ⊢
      refine ⟨_, _, rfl, ?_⟩
      have e : k + 1 - ds.length = (k + 1 - (ds.length + 1)) + 1 := by omega
      have bw : Bd 700 ((1 + (j : Int)) ^ (k + 1 - (ds.length + 1))) := bd_sm ((pow_sm sp _).mono (by omega))
      (repeat regstrif_gather)
      rw [e, Int.pow_succ]
      exact ⟨rfl, by omega, _, rfl⟩
    · rintro sd S2 ⟨rfl, hl, y, rfl⟩
      simp only [List.length_nil, Nat.sub_zero]
      have bw : Bd 700 ((1 + (j : Int)) ^ (k + 1)) := bd_sm ((pow_sm sp _).mono (by omega))
      (repeat regstrif_gather)
      refine ite_d (fun c => ?_) (fun c => ?_)
      · (repeat regstrif_gather)
        have rf := root_find (B := 1 + (j : Int)) (by omega) k (by omega)
        rw [c] at rf
        rw [rf]
        exact ⟨rfl, rfl⟩
      · (repeat regstrif_gather)
        refine ite_d (fun c2 => ?_) (fun c2 => ?_)
        · (repeat regstrif_gather)
          rw [none_of (fun x a q => by
            rcases Int.lt_or_le x (1 + j) with z | z
            · have := hx x a z
              omega
            · have := mono _ _ (by omega) z
              omega)]
          exact ⟨rfl, rfl⟩
        · (repeat regstrif_gather)
          refine ⟨rfl, j + 1, m, _, _, _, rfl, by omega, fun x a b => ?_, rfl⟩
          rcases Int.lt_or_le x (1 + j) with z | z
          · exact hx x a z
          · have ex : x = 1 + j := by omega
            rw [ex]
            omega
    · have hl0 : (rngD 0 ((k : Int) + 1).toNat).length = k + 1 := by simp [rngD]
      rw [hl0, Nat.sub_self, Int.pow_zero]
  · rintro sd S' ⟨rfl, j, m, y1, y2, y3, e, jm, hx, rfl⟩
    have m0 : m = 0 := by
      rcases m with _ | m
      · rfl
      · simp [rngD] at e
    subst m0
    (repeat regstrif_gather)
    rw [none_of (fun x a q => by
      rcases Int.lt_or_le x 30000 with z | z
      · have := hx x a (by omega)
        omega
      · have h3 : (30000 : Int) ^ 2 ≤ 30000 ^ (k + 1) := by exact_mod_cast Nat.pow_le_pow_right (by decide) (by omega)
        have := mono _ _ (by decide) z
        have e2 : (30000 : Int) ^ 2 = 900000000 := by decide
        omega)]
    exact ⟨rfl, rfl⟩
end K35
set_option maxRecDepth 100000
set_option maxHeartbeats 4000000
namespace K35
open PySem Ev
theorem trace_ok (q : List Pc) (h : Row q) (ne : q ≠ []) : sem__law_trace [.lst (q.map Pc.D)] = M.pure (pairD (lowP ((mat q).a + (mat q).d, scl q))) := by
  refine pure_wp fun S => ?_
  have fo := four_ok q h
  have hm := h.sm41.1
  have hs := h.sm41.2
  have s0 := scl_pos h.1
  have a0 := hm.a.1
  have d0 := hm.d.1
  have lp := law_pair_big (k := 42) ((mat q).a + (mat q).d) (scl q) (hm.a.add hm.d) (hs.mono (by decide)) (by omega) (by decide)
  have b1 := bd_sm hm.a
  have b2 := bd_sm hm.d
  (unfold sem__law_trace; refine Ev.go_fn rfl ?_; unfold pk__law_trace; simp only [Ev.slots, List.map_cons, List.map_nil, List.length_cons, List.length_nil, List.cons_append, List.nil_append, List.replicate, Nat.reduceSub, Nat.reduceAdd])
  (repeat regstrif_gather)
  refine go_val fo ?_
  (repeat regstrif_gather)
  exact go_val lp ⟨rfl, rfl⟩
def succB (m : Mx) (s : Int) (k : Nat) : Bool := match trootP (lowP (m.a + m.d, s)).1 (lowP (m.a + m.d, s)).2 k with
  | none => false
  | some v => (rrowP m s v k).isSome
theorem troot_none {top bot p : Int} {k : Nat} (h : rootP bot (k + 1) = some p) (no : ∀ T, 2 * p < T → trP T p k ≠ top) : trootP top bot k = none := by
  unfold trootP
  rw [h]
  dsimp only
  rw [if_neg (fun z => no _ z.1 z.2)]
theorem row_side {B h g he1 he2 ah1 ah2 X a s : Int} (hX : 0 < X) (e1 : he1 * X = h * he2) (e2 : ah1 * X = g * B * ah2) (p1 : 0 < he2) (p2 : 0 < ah2) : he1 * s * ah2 ≤ (a * ah2 + ah1 * s) * he2 ↔ ¬ a * X + s * g * B < h * s := by
  have k1 : (he1 * s * ah2) * X = (h * s) * (he2 * ah2) := by
    have : (he1 * s * ah2) * X = (he1 * X) * s * ah2 := by grind
    rw [this, e1]
    grind
  have k2 : ((a * ah2 + ah1 * s) * he2) * X = (a * X + s * g * B) * (he2 * ah2) := by
    have : ((a * ah2 + ah1 * s) * he2) * X = a * ah2 * he2 * X + (ah1 * X) * s * he2 := by grind
    rw [this, e2]
    grind
  have pp := Int.mul_pos p1 p2
  constructor
  · intro l q
    have m1 := Int.mul_le_mul_of_nonneg_right l (Int.le_of_lt hX)
    have m2 := Int.mul_lt_mul_of_pos_right q pp
    omega
  · intro q
    rcases Int.lt_or_le ((a * ah2 + ah1 * s) * he2) (he1 * s * ah2) with z | z
    · exfalso
      have m1 := Int.mul_lt_mul_of_pos_right z hX
      have m2 := Int.mul_le_mul_of_nonneg_right (show h * s ≤ a * X + s * g * B by omega) (Int.le_of_lt pp)
      omega
    · exact z
theorem is_power_ok {q : List Pc} (h : Row q) (ne : q ≠ []) (sm : Small (mat q) (scl q)) (k : Nat) (k1 : 1 ≤ k) (hk : k ≤ 39) : sem__law_is_power [.lst (q.map Pc.D), .int ((k : Int) + 1)] = M.pure (.bl (succB (mat q) (scl q) k)) := by
  refine pure_wp fun S => ?_
  have tr := trace_ok q h ne
  have fo := four_ok q h
  obtain ⟨top, bot, g, hl, g0, e1, e2, B1, TB, T38, B38, co⟩ := small_tr sm
  obtain ⟨hg, b0, c0, ma, mb, mc, md⟩ := id sm
  obtain ⟨ga, gd, gb, gc, gs, gbc, ge⟩ := id hg
  have bb : bot < 899940001 := by
    rcases Int.lt_or_le bot 899940001 with z | z
    · exact z
    · have := Int.mul_le_mul_of_nonneg_right (show 1 ≤ g by omega) (show 0 ≤ bot by omega)
      omega
  rw [hl] at tr
  unfold succB
  rw [hl]
  dsimp only
  have rb := root_bottom_ok B1 bb k k1 (by omega)
  have btop : Bd 38 top := .mk (by omega)
  have bbot : Bd 38 bot := .mk (by omega)
  unfold pairD at tr
  (unfold sem__law_is_power; refine Ev.go_fn rfl ?_; unfold pk__law_is_power; simp only [Ev.slots, List.map_cons, List.map_nil, List.length_cons, List.length_nil, List.cons_append, List.nil_append, List.replicate, Nat.reduceSub, Nat.reduceAdd])
  (repeat regstrif_gather)
  refine go_val tr ?_
  (repeat regstrif_gather)
  rcases hr : rootP bot (k + 1) with _ | p
  · rw [hr] at rb
    have rb : sem__law_root_bottom [.int bot, .int ((k : Int) + 1)] = M.pure .non := rb
    refine go_val rb ?_
    (repeat regstrif_gather)
    have : trootP top bot k = none := by
      unfold trootP
      rw [hr]
    rw [this]
    exact ⟨rfl, rfl⟩
  · rw [hr] at rb
    have rb : sem__law_root_bottom [.int bot, .int ((k : Int) + 1)] = M.pure (.int p) := rb
    obtain ⟨p1, p2, p3⟩ := rootP_some B1 hr
    have bp : Bd 38 p := .mk (by omega)
    have no : (∀ T, 2 * p < T → trP T p k ≠ top) → trootP top bot k = none := troot_none hr
    have up : ∀ {x y : Int}, 2 * p ≤ x → x < y → trP x p k < trP y p k := fun a b => by
      have := (tr_up p1 a b k).1
      omega
    have pt : ∀ x : Int, 2 * p < x → x < 2 ^ 39 → sem__law_power_trace [.int x, .int p, .int ((k : Int) + 1)] = M.pure (pairD (lowP (trP x p k, bot))) := fun x a b => by
      rw [← p3]
      exact power_trace_ok p1 a b (by omega) k hk
    refine go_val rb ?_
    (repeat regstrif_gather)
    refine ite_d (fun c1 => ?_) (fun c1 => ?_)
    focus
      have p3t := power_trace_ok (T := 3) (B := 1) (by decide) (by decide) (by decide) (by decide) k hk
      rw [Int.one_pow] at p3t
      have l1 : lowP (trP 3 1 k, 1) = (trP 3 1 k, 1) := low_of_co (by simp)
      rw [l1] at p3t
      unfold pairD at p3t
      (repeat regstrif_gather)
      refine go_val p3t ?_
      have bt3 : Bd 8000 (trP 3 1 k) := by
        have s1 := stP_bd (t := 3) (b := 1) (.mk (by decide)) (.mk (by decide)) k
        have b1 : Bd 3400 (stP 3 1 k).1 := s1.1.mono (by omega)
        have b2 : Bd 3400 (stP 3 1 k).2 := s1.2.mono (by omega)
        unfold trP
        exact Bd.mono (Bd.sub (Bd.mul (show Bd 2 (3 : Int) from .mk (by decide)) b1) (Bd.mul (show Bd 2 (2 * 1 * 1 : Int) from .mk (by decide)) b2)) (by decide)
      (repeat regstrif_gather)
      refine ite_d (fun c2 => ?_) (fun c2 => ?_)
      focus
        (repeat regstrif_gather)
        rw [no (fun T a e => by
          rw [c1] at e
          rcases Int.lt_or_eq_of_le (show 3 ≤ T by omega) with z | z
          · have := (tr_up (b := 1) (by decide) (show 2 * 1 ≤ (3 : Int) by decide) z k).1
            omega
          · rw [← z] at e
            omega)]
        exact ⟨rfl, rfl⟩
      (repeat regstrif_gather)
    rotate_left
    focus
      (repeat regstrif_gather)
    all_goals
      have top39 : top - 2 * p < 2 ^ 39 := by omega
      obtain ⟨K, hK⟩ : ∃ K : Nat, K = 40 := ⟨_, rfl⟩
      have start : top + 1 - 2 * p ≤ 2 ^ K := by rw [hK]; omega
      refine gs_iter (J := fun m sd S' => S' = S ∧ ∃ (lo hi : Int) (y6 y7 : SV), sd = [.val (.lst (q.map Pc.D)), .val (.int ((k : Int) + 1)), .val (.tup [.int top, .int bot]), .val (.int p), .val (.int lo), .val (.int hi), y6, y7, .no, .no, .no, .no, .no, .no, .no, .no, .no] ∧ 2 * p ≤ lo ∧ lo < hi ∧ hi ≤ top + 1 ∧ (lo = 2 * p ∨ trP lo p k ≤ top) ∧ top < trP hi p k ∧ hi - lo ≤ 2 ^ m) ?_ K _ _ (by rw [hK]; decide) ⟨rfl, 2 * p, top + 1, _, _, rfl, Int.le_refl _, by omega, Int.le_refl _, .inl rfl, by have := tr_ge p1 (show 2 * p < top + 1 by omega) k; omega, start⟩
      rintro m sd S' ⟨rfl, lo, hi, y6, y7, rfl, l1, l2, l3, l4, l5, l6⟩
      have blo : Bd 40 lo := .mk (by omega)
      have bhi : Bd 40 hi := .mk (by omega)
      (repeat regstrif_gather)
      refine ite_d (fun c => ?_) (fun c => ?_)
      · have mid1 : lo < (lo + hi) / 2 := by omega
        have mid2 : (lo + hi) / 2 < hi := by omega
        have pm := pt ((lo + hi) / 2) (by omega) (by omega)
        have tp : 0 < trP ((lo + hi) / 2) p k := by
          have := tr_ge p1 (show 2 * p < (lo + hi) / 2 by omega) k
          omega
        obtain ⟨g2, g20, z1, z2⟩ := lowP_mul (v := (trP ((lo + hi) / 2) p k, bot)) (by show 0 ≤ trP ((lo + hi) / 2) p k; omega) (by show 0 ≤ bot; omega) (by show 0 < trP ((lo + hi) / 2) p k + bot; omega)
        have x1 : g2 * (lowP (trP ((lo + hi) / 2) p k, bot)).1 = trP ((lo + hi) / 2) p k := z1
        have x2 : g2 * (lowP (trP ((lo + hi) / 2) p k, bot)).2 = bot := z2
        clear z1 z2
        have bm : Bd 40 ((lo + hi) / 2) := .mk (by omega)
        have sz : Sm 8000 (trP ((lo + hi) / 2) p k) := by
          have s1 := stP_bd (t := (lo + hi) / 2) (b := p) (.mk (by omega)) (.mk (by omega)) k
          have b1 : Bd 3400 (stP ((lo + hi) / 2) p k).1 := s1.1.mono (by omega)
          have b2 : Bd 3400 (stP ((lo + hi) / 2) p k).2 := s1.2.mono (by omega)
          have bt : Bd 8000 (trP ((lo + hi) / 2) p k) := by
            unfold trP
            exact Bd.mono (Bd.sub (Bd.mul bm b1) (Bd.mul (Bd.mul (Bd.mul (show Bd 2 (2 : Int) from .mk (by decide)) bp) bp) b2)) (by decide)
          exact ⟨by omega, by have := bt.nat; omega⟩
        have sl := low_sm sz (show Sm 8000 bot from (show Sm 38 bot from ⟨by omega, B38⟩).mono (by decide)) (show 0 < trP ((lo + hi) / 2) p k + bot by omega)
        have sl1 : Bd 8000 (lowP (trP ((lo + hi) / 2) p k, bot)).1 := bd_sm sl.1
        have sl2 : Bd 8000 (lowP (trP ((lo + hi) / 2) p k, bot)).2 := bd_sm sl.2
        have key : (lowP (trP ((lo + hi) / 2) p k, bot)).1 * bot ≤ top * (lowP (trP ((lo + hi) / 2) p k, bot)).2 ↔ trP ((lo + hi) / 2) p k ≤ top := by
          generalize lowP (trP ((lo + hi) / 2) p k, bot) = X at *
          generalize trP ((lo + hi) / 2) p k = t at *
          have Xp : 0 < X.2 := by
            rcases Int.lt_or_le 0 X.2 with z | z
            · exact z
            · have := Int.mul_nonpos_of_nonneg_of_nonpos (Int.le_of_lt g20) z
              omega
          have e3 : X.1 * bot = t * X.2 := by
            rw [← x1, ← x2]
            grind
          rw [e3]
          constructor
          · intro z
            exact Int.le_of_mul_le_mul_right z Xp
          · intro z
            exact Int.mul_le_mul_of_nonneg_right z (Int.le_of_lt Xp)
        rcases m with _ | m
        · simp at l6
          omega
        have e2m : (2 : Int) ^ (m + 1) = 2 * 2 ^ m := by rw [Int.pow_succ, Int.mul_comm]
        unfold pairD at pm
        (repeat regstrif_gather)
        refine go_val pm ?_
        (repeat regstrif_gather)
        refine ite_d (fun u => ?_) (fun u => ?_)
        · have u := key.mp u
          (repeat regstrif_gather)
          exact ⟨m, by omega, rfl, _, _, _, _, rfl, by omega, mid2, l3, .inr u, l5, by omega⟩
        · have u : ¬ trP ((lo + hi) / 2) p k ≤ top := fun z => u (key.mpr z)
          (repeat regstrif_gather)
          exact ⟨m, by omega, rfl, _, _, _, _, rfl, l1, mid1, by omega, l4, by omega, by omega⟩
      · have eh : hi = lo + 1 := by omega
        subst eh
        (repeat regstrif_gather)
        refine ite_d (fun u => ?_) (fun u => ?_)
        · (repeat regstrif_gather)
          rw [no (fun T a e => by
            rcases Int.lt_or_eq_of_le (show lo + 1 ≤ T by omega) with z | z
            · have := up (show 2 * p ≤ lo + 1 by omega) z
              omega
            · rw [← z] at e
              omega)]
          exact ⟨rfl, rfl⟩
        · have lo2 : 2 * p < lo := by omega
          have tl : trP lo p k ≤ top := by
            rcases l4 with z | z
            · exact absurd z u
            · exact z
          have pl := pt lo lo2 (by omega)
          have tp : 0 < trP lo p k := by
            have := tr_ge p1 lo2 k
            omega
          have eqv : lowP (trP lo p k, bot) = (top, bot) ↔ trP lo p k = top := by
            rw [← low_of_co co]
            constructor
            · intro z
              have r := (lowP_ra (v := (trP lo p k, bot)) (w := (top, bot)) ⟨by show 0 ≤ trP lo p k; omega, by show 0 ≤ bot; omega, by show 0 < trP lo p k + bot; omega⟩ ⟨by show 0 ≤ top; omega, by show 0 ≤ bot; omega, by show 0 < top + bot; omega⟩).mp z
              have r : trP lo p k * bot = top * bot := r
              exact Int.eq_of_mul_eq_mul_right (by omega) r
            · intro z
              rw [z]
          have deq : dEq true (pairD (lowP (trP lo p k, bot))) (pairD (top, bot)) = M.pure (.bl (!decide (trP lo p k = top))) := by
            have pp : ∀ v : Int × Int, Pln 1 (pairD v) (pairQ v) := fun v => pln_tup (pll_cons pln_int (pll_cons pln_int pll_nil))
            exact eq_pln true (pp _) (pp _) (by decide) (by decide) (pairQ_inj.trans eqv) rfl
          unfold pairD at deq pl
          (repeat regstrif_gather)
          refine go_val pl ?_
          (repeat regstrif_gather)
          refine go_val deq ?_
          (repeat regstrif_gather)
          refine ite_d (fun w => ?_) (fun w => ?_)
          · have tf := troot_find p1 lo2 k (by omega) (by omega)
            rw [w, p3] at tf
            rw [tf]
            dsimp only
            have pw := powers_ok p1 (Int.le_of_lt lo2) (by omega) (by omega) k hk
            obtain ⟨f1, f2, f3, _, _⟩ := he_is p1 (Int.le_of_lt lo2) k
            obtain ⟨f4, f5, f6⟩ := ah_is p1 (Int.le_of_lt lo2) k
            obtain ⟨s1, s2, s3, s4⟩ := he_sm p1 (Int.le_of_lt lo2) (by omega) (by omega) (show k ≤ 40 by omega)
            have pk : 0 < p ^ k := Int.pow_pos (by omega)
            have sa := row_side (a := (mat q).a) (s := scl q) pk f1 f4 f3 f6
            have sd := row_side (a := (mat q).d) (s := scl q) pk f1 f4 f3 f6
            have rr : (rrowP (mat q) (scl q) (lo, p) k).isSome = decide (¬ (mat q).a * p ^ k + scl q * (stP lo p k).2 * p < (stP lo p k).1 * scl q ∧ ¬ (mat q).d * p ^ k + scl q * (stP lo p k).2 * p < (stP lo p k).1 * scl q) := by
              unfold rrowP fndP whlP
              dsimp only
              split
              · rename_i z
                rw [decide_eq_false (fun y => z.elim y.1 y.2)]
                rfl
              · rename_i z
                rw [decide_eq_true ⟨fun y => z (.inl y), fun y => z (.inr y)⟩]
                rfl
            rw [rr]
            generalize heP lo p k = u2 at *
            generalize ahP lo p k = v2 at *
            have b1 := bd_sm s1
            have b2 := bd_sm s2
            have b3 := bd_sm s3
            have b4 := bd_sm s4
            have ba : Bd 40 (mat q).a := .mk (by omega)
            have bd : Bd 40 (mat q).d := .mk (by omega)
            have bs : Bd 40 (scl q) := .mk (by omega)
            unfold lstQ at pw
            (repeat regstrif_gather)
            refine go_val pw ?_
            (repeat regstrif_gather)
            refine go_val fo ?_
            (repeat regstrif_gather)
            refine ⟨congrArg D.bl (decide_eq_decide.mpr ?_), rfl⟩
            rw [← sa, ← sd]
            split <;> omega
          · (repeat regstrif_gather)
            rw [no (fun T a e => by
              rcases Int.lt_or_le T (lo + 1) with z | z
              · rcases Int.lt_or_eq_of_le (show T ≤ lo by omega) with y | y
                · have := up (show 2 * p ≤ T by omega) y
                  omega
                · rw [y] at e
                  exact w e
              · rcases Int.lt_or_eq_of_le z with y | y
                · have := up (show 2 * p ≤ lo + 1 by omega) y
                  omega
                · rw [← y] at e
                  omega)]
            exact ⟨rfl, rfl⟩
theorem full_le {q : List Pc} (sm : Small (mat q) (scl q)) {F : Mx} {w T B : Int} {K : Nat} (K1 : 1 ≤ K) (R : Root F w T B) (G : Good F w) (c0 : 0 < F.c) (pw : Eqm (scl q) (F.pow (K + 1)) (w ^ (K + 1)) (mat q)) {n : Nat} {L : List Fp} (e : repB (mat q) (scl q) = ((n : Int), L)) : K + 1 ≤ n := by
  obtain ⟨f1, f2, f3⟩ := rep_full sm K1 R G c0 pw
  obtain ⟨T', B', g', hl, _, _, _, B1, _, T38, B38, _⟩ := small_tr sm
  unfold repB at e
  rw [hl] at f1 f3 e
  dsimp only at f1 f3 e
  have K40 := mayP_end (by omega) (by omega) (f3 K (Nat.le_refl _))
  rcases repG_reach _ _ T' B' (by omega) (by omega) f1 f2 f3 45 1 (1, ((starQ (mat q) (scl q)).map lowF).filter keep) K1 (by omega) with z | ⟨j, v, l, a, b, c, d, z⟩
  · rw [z] at e
    have e1 : (K : Int) + 1 = n := congrArg (·.1) e
    omega
  · rw [z] at e
    have e1 : (j : Int) + 1 = n := congrArg (·.1) e
    omega
theorem rep_succ {q : List Pc} (sm : Small (mat q) (scl q)) {F : Mx} {w T B : Int} {K : Nat} (K1 : 1 ≤ K) (R : Root F w T B) (G : Good F w) (c0 : 0 < F.c) (pw : Eqm (scl q) (F.pow (K + 1)) (w ^ (K + 1)) (mat q)) : succB (mat q) (scl q) K = true := by
  obtain ⟨f1, f2, f3⟩ := rep_full sm K1 R G c0 pw
  unfold succB
  rw [f1]
  dsimp only
  rw [f2]
  rfl
theorem succ_le {q : List Pc} (sm : Small (mat q) (scl q)) {n : Nat} {L : List Fp} (e : repB (mat q) (scl q) = ((n : Int), L)) {k : Nat} (k1 : 1 ≤ k) (s : succB (mat q) (scl q) k = true) : k + 1 ≤ n := by
  unfold succB at s
  obtain ⟨T, B, g, hl, _, e1, e2, B1, TB, T38, B38, co⟩ := small_tr sm
  have gd := sm.g
  have tr : ((mat q).a + (mat q).d) * B = T * scl q := by
    rw [← e1, ← e2]
    grind
  rcases ht : trootP (lowP ((mat q).a + (mat q).d, scl q)).1 (lowP ((mat q).a + (mat q).d, scl q)).2 k with _ | v
  · rw [ht] at s
    cases s
  · rw [ht] at s
    dsimp only at s
    rcases hr : rrowP (mat q) (scl q) v k with _ | l
    · rw [hr] at s
      cases s
    · have ht0 := ht
      rw [hl] at ht
      dsimp only at ht
      obtain ⟨w1, w2, w3, w4⟩ := trootP_some B1 ht
      obtain ⟨t1, t2⟩ := troot_trace B1 ht
      obtain ⟨X, Y⟩ := v
      dsimp only at w1 w2 w3 w4 t1 t2
      have co2 : Int.gcd X Y = 1 := co_of_tr (k := k) (by rw [t1, t2]; exact co)
      obtain ⟨R, sc⟩ := fnd_root gd.s0 gd.e tr t2 t1 w1 w3 co2
      have pk : 0 < Y ^ k := Int.pow_pos (by omega)
      have hr0 := hr
      unfold rrowP at hr
      split at hr
      · cases hr
      · rename_i nl
        have b0 := sm.b0
        have c0 := sm.c0
        have G : Good (fndP (mat q) (scl q) (X, Y) k) (whlP (scl q) (X, Y) k) := ⟨by omega, by omega, Int.mul_nonneg (Int.le_of_lt b0) (Int.le_of_lt pk), Int.mul_nonneg (Int.le_of_lt c0) (Int.le_of_lt pk), R.w0, by
          have := Int.mul_pos b0 pk
          have := Int.mul_pos c0 pk
          show 0 < (mat q).b * Y ^ k + (mat q).c * Y ^ k
          omega, R.det⟩
        have pw : Eqm (scl q) ((fndP (mat q) (scl q) (X, Y) k).pow (k + 1)) (whlP (scl q) (X, Y) k ^ (k + 1)) (mat q) := by
          obtain ⟨s1, s2, s3, s4⟩ := sc
          have ww : whlP (scl q) (X, Y) k ^ (k + 1) = whlP (scl q) (X, Y) k ^ k * whlP (scl q) (X, Y) k := Int.pow_succ ..
          have wd : whlP (scl q) (X, Y) k = (stP X Y k).1 * scl q := rfl
          unfold Eqm
          rw [s1, s2, s3, s4, ww]
          generalize whlP (scl q) (X, Y) k ^ k = Z
          rw [wd]
          refine ⟨?_, ?_, ?_, ?_⟩ <;> grind
        exact full_le sm k1 R G (Int.mul_pos c0 pk) pw e
end K35
set_option maxRecDepth 100000
set_option maxHeartbeats 2000000
namespace K35
open PySem Ev
def toPc (x : Fp) : Pc := ⟨x.1, x.2.1⟩
def triL (x y z : Int) : List Fp := [(true, (x, 1)), (false, (y, 1)), (true, (z, 1))].filter keep
def uRow (x y z : Int) : List Pc := (triL x y z).map toPc
theorem keep1 {b : Bool} {x : Int} : keep (b, (x, 1)) = decide (0 < x) := by
  show (decide (0 < x) && decide ((0 : Int) < 1)) = _
  simp
theorem uRow_cases {x y z : Int} (hx : 0 ≤ x) (hy : 0 < y) (hz : 0 ≤ z) (hp : 0 < x + z) : (0 < x ∧ 0 < z ∧ uRow x y z = [⟨true, x⟩, ⟨false, y⟩, ⟨true, z⟩]) ∨ (0 < x ∧ z = 0 ∧ uRow x y z = [⟨true, x⟩, ⟨false, y⟩]) ∨ (x = 0 ∧ 0 < z ∧ uRow x y z = [⟨false, y⟩, ⟨true, z⟩]) := by
  unfold uRow triL
  rcases Int.lt_or_eq_of_le hx with a | a
  · rcases Int.lt_or_eq_of_le hz with b | b
    · left
      simp [List.filter_cons, keep1, a, b, hy, toPc]
    · right; left
      simp [List.filter_cons, keep1, a, ← b, hy, toPc]
  · right; right
    have b : 0 < z := by omega
    simp [List.filter_cons, keep1, ← a, b, hy, toPc]
theorem uRow_mat {x y z : Int} (hx : 0 ≤ x) (hy : 0 < y) (hz : 0 ≤ z) (hp : 0 < x + z) : mat (uRow x y z) = ⟨x + y, x * z + x * y + y * z, 1, y + z⟩ ∧ scl (uRow x y z) = y := by
  rcases uRow_cases hx hy hz hp with ⟨a, b, e⟩ | ⟨a, rfl, e⟩ | ⟨rfl, b, e⟩
  all_goals
    rw [e]
    constructor
    · simp only [mat_cons]
      unfold Pc.m Mx.mul
      have e0 : mat [] = one := rfl
      rw [e0]
      unfold one
      simp
      try grind
    · unfold scl
      simp [chainM, Pc.m]
theorem low1 (b : Bool) (x c : Int) (hx : 0 ≤ x) (hc : 0 < c) : lowF (b, (x * c, c)) = (b, (x, 1)) := by
  have e : lowP (x * c, c) = (x, 1) := by
    rw [ra_low (c := x) (d := 1) (Int.mul_nonneg hx (Int.le_of_lt hc)) hc hx (by decide) (Int.mul_one _)]
    exact low_of_co (by simp)
  show (b, lowP (x * c, c)) = _
  rw [e]
theorem int_row {F : Mx} {w T B : Int} (R : Root F w T B) (G : Good F w) (c0 : 0 < F.c) (h : ∀ x ∈ rowF F w, x.2.2 = 1 ∧ x.2.1 < 13) : ∃ x y z : Int, 0 ≤ x ∧ x < 13 ∧ 0 < y ∧ y < 13 ∧ 0 ≤ z ∧ z < 13 ∧ 0 < x + z ∧ rowF F w = triL x y z ∧
    F.a = F.c * (x + y) ∧ F.b = F.c * (x * z + x * y + y * z) ∧ F.d = F.c * (y + z) ∧ w = F.c * y := by
  obtain ⟨ga, gd, gb, gc, gs, gbc, ge⟩ := id G
  have one : ∀ (b : Bool) (t : Int), 0 ≤ t → lowF (b, (t, F.c)) ∈ [lowF (true, (F.a - w, F.c)), lowF (false, (w, F.c)), lowF (true, (F.d - w, F.c))] → ∃ x, 0 ≤ x ∧ x < 13 ∧ t = x * F.c := fun b t ht hm => by
    obtain ⟨g, g0, e1, e2⟩ := lowP_mul (v := (t, F.c)) ht (Int.le_of_lt c0) (by show 0 < t + F.c; omega)
    have e1 : g * (lowP (t, F.c)).1 = t := e1
    have e2 : g * (lowP (t, F.c)).2 = F.c := e2
    by_cases k : keep (lowF (b, (t, F.c))) = true
    · have hm2 : lowF (b, (t, F.c)) ∈ rowF F w := by
        unfold rowF starQ
        rw [if_neg (by omega)]
        exact List.mem_filter.mpr ⟨hm, k⟩
      obtain ⟨h1, h2⟩ := h _ hm2
      have h1 : (lowP (t, F.c)).2 = 1 := h1
      have h2 : (lowP (t, F.c)).1 < 13 := h2
      rw [h1, Int.mul_one] at e2
      unfold keep at k
      rw [Bool.and_eq_true, decide_eq_true_eq, decide_eq_true_eq] at k
      have k1 : 0 < (lowP (t, F.c)).1 := k.1
      exact ⟨(lowP (t, F.c)).1, by omega, h2, by
        have q := e1
        rw [e2, Int.mul_comm] at q
        exact q.symm⟩
    · have h2 : 0 < (lowP (t, F.c)).2 := by
        rcases Int.lt_or_le 0 (lowP (t, F.c)).2 with z | z
        · exact z
        · have := Int.mul_nonpos_of_nonneg_of_nonpos (Int.le_of_lt g0) z
          omega
      have h1 : ¬ 0 < (lowP (t, F.c)).1 := fun z => k (by
        show (decide (0 < (lowP (t, F.c)).1) && decide (0 < (lowP (t, F.c)).2)) = true
        rw [decide_eq_true z, decide_eq_true h2]
        rfl)
      have := Int.mul_nonpos_of_nonneg_of_nonpos (Int.le_of_lt g0) (show (lowP (t, F.c)).1 ≤ 0 by omega)
      exact ⟨0, by decide, by decide, by omega⟩
  obtain ⟨x, x0, x1, ex⟩ := one true (F.a - w) (by omega) (by simp)
  obtain ⟨y, y0, y1, ey⟩ := one false w (by omega) (by simp)
  obtain ⟨z, z0, z1, ez⟩ := one true (F.d - w) (by omega) (by simp)
  have yp : 0 < y := by
    rcases Int.lt_or_eq_of_le y0 with q | q
    · exact q
    · rw [← q, Int.zero_mul] at ey
      omega
  have ea : F.a = F.c * (x + y) := by
    have : F.a = x * F.c + y * F.c := by omega
    rw [this]
    grind
  have ed : F.d = F.c * (y + z) := by
    have : F.d = z * F.c + y * F.c := by omega
    rw [this]
    grind
  have xz : 0 < x + z := by
    have tr := R.tr
    have T0 := R.T0
    have B0 := R.B0
    rcases Int.lt_or_le 0 (x + z) with q | q
    · exact q
    · exfalso
      have hx : x = 0 := by omega
      have hz : z = 0 := by omega
      rw [hx, Int.zero_mul] at ex
      rw [hz, Int.zero_mul] at ez
      have e1 : F.a = w := by omega
      have e2 : F.d = w := by omega
      rw [e1, e2] at tr
      have := Int.mul_lt_mul_of_pos_right T0 gs
      have e3 : B * (w + w) = 2 * B * w := by grind
      omega
  refine ⟨x, y, z, x0, x1, yp, y1, z0, z1, xz, ?_, ea, ?_, ed, by rw [Int.mul_comm]; exact ey⟩
  · unfold rowF starQ triL
    rw [if_neg (by omega)]
    rw [List.map_cons, List.map_cons, List.map_cons, List.map_nil, ex, ez]
    have l2 : lowF (false, (w, F.c)) = (false, (y, 1)) := by
      rw [ey]
      exact low1 false y F.c y0 c0
    rw [l2, low1 true x F.c x0 c0, low1 true z F.c z0 c0]
  · refine Int.eq_of_mul_eq_mul_right (show F.c ≠ 0 by omega) ?_
    have : F.b * F.c = F.a * F.d - w * w := by omega
    rw [this, ea, ed, ey]
    grind
theorem uRow_ok {x y z : Int} (x0 : 0 ≤ x) (x1 : x < 13) (y0 : 0 < y) (y1 : y < 13) (z0 : 0 ≤ z) (z1 : z < 13) (hp : 0 < x + z) : Row (uRow x y z) ∧ uRow x y z ≠ [] ∧ Small (mat (uRow x y z)) (scl (uRow x y z)) ∧ rowF (mat (uRow x y z)) (scl (uRow x y z)) = triL x y z := by
  obtain ⟨em, es⟩ := uRow_mat x0 y0 z0 hp
  have R : Row (uRow x y z) ∧ uRow x y z ≠ [] := by
    rcases uRow_cases x0 y0 z0 hp with ⟨a, b, e⟩ | ⟨a, rfl, e⟩ | ⟨rfl, b, e⟩
    all_goals
      rw [e]
      refine ⟨⟨fun p hp => ?_, by simp⟩, by simp⟩
      simp only [List.mem_cons, List.not_mem_nil, or_false] at hp
    · rcases hp with rfl | rfl | rfl <;> exact ⟨by dsimp only; omega, by dsimp only; omega⟩
    · rcases hp with rfl | rfl <;> exact ⟨by dsimp only; omega, by dsimp only; omega⟩
    · rcases hp with rfl | rfl <;> exact ⟨by dsimp only; omega, by dsimp only; omega⟩
  have xz := Int.mul_nonneg x0 z0
  have xy := Int.mul_nonneg x0 (Int.le_of_lt y0)
  have yz := Int.mul_nonneg (Int.le_of_lt y0) z0
  have bp : 0 < x * z + x * y + y * z := by
    rcases Int.lt_or_eq_of_le x0 with q | q
    · have := Int.mul_pos q y0
      omega
    · have := Int.mul_pos y0 (show 0 < z by omega)
      omega
  have ml := mat_small R.1
  refine ⟨R.1, R.2, ?_, ?_⟩
  · rw [em, es] at *
    obtain ⟨m1, m2, m3, m4⟩ := ml
    exact ⟨⟨by dsimp only; omega, by dsimp only; omega, Int.le_of_lt bp, by dsimp only; decide, y0, by dsimp only; omega, by dsimp only; grind⟩, bp, by dsimp only; decide, m1, m2, m3, m4⟩
  · rw [em, es]
    unfold rowF starQ triL
    dsimp only
    rw [if_neg (by decide)]
    have e1 : x + y - y = x * 1 := by omega
    have e2 : y + z - y = z * 1 := by omega
    rw [List.map_cons, List.map_cons, List.map_cons, List.map_nil, e1, e2, low1 true x 1 x0 (by decide), low1 true z 1 z0 (by decide)]
    have l2 : lowF (false, (y, (1 : Int))) = (false, (y, 1)) := by
      have := low1 false y 1 (Int.le_of_lt y0) (by decide)
      rwa [Int.mul_one] at this
    rw [l2]
theorem again_one {q : List Pc} (sm : Small (mat q) (scl q)) {n : Nat} {F : Mx} {w T B : Int} (P : Rep (mat q) (scl q) n F w T B) {L : List Fp} (e : repB (mat q) (scl q) = ((n : Int), L)) {u : List Pc} (su : Small (mat u) (scl u)) {c : Int} (c0 : 0 < c)
    (ea : F.a = c * (mat u).a) (eb : F.b = c * (mat u).b) (ec : F.c = c * (mat u).c) (ed : F.d = c * (mat u).d) (ew : w = c * scl u) : repB (mat u) (scl u) = (1, rowF (mat u) (scl u)) := by
  obtain ⟨n2, F2, w2, T2, B2, e2, P2, one2⟩ := rep_base su
  rcases Nat.lt_or_eq_of_le P2.n1 with z | z
  · exfalso
    have n1 := P.n1
    obtain ⟨K, hK⟩ : ∃ K, n2 * n = K + 1 := ⟨n2 * n - 1, by
      have := Nat.mul_le_mul P2.n1 n1
      omega⟩
    have big : 2 * n ≤ n2 * n := Nat.mul_le_mul_right n z
    have sc : Sc c F (mat u) := ⟨ea, eb, ec, ed⟩
    have scn := Sc.pow sc n
    have q2 := eqm_pow P2.pw n
    rw [← pow_mul', ← Int.pow_mul, hK] at q2
    have wn : w ^ n = c ^ n * scl u ^ n := by rw [ew, Int.mul_pow]
    have cn : c ^ n ≠ 0 := Int.ne_of_gt (Int.pow_pos c0)
    have un : scl u ^ n ≠ 0 := Int.ne_of_gt (Int.pow_pos su.g.s0)
    have pw : Eqm (scl q) (F2.pow (K + 1)) (w2 ^ (K + 1)) (mat q) := by
      obtain ⟨a1, a2, a3, a4⟩ := P.pw
      obtain ⟨s1, s2, s3, s4⟩ := scn
      obtain ⟨t1, t2, t3, t4⟩ := q2
      rw [wn, s1] at a1
      rw [wn, s2] at a2
      rw [wn, s3] at a3
      rw [wn, s4] at a4
      generalize c ^ n = C at *
      generalize scl u ^ n = U at *
      have mk : ∀ x y z : Int, scl q * (C * x) = C * U * z → U * y = w2 ^ (K + 1) * x → scl q * y = w2 ^ (K + 1) * z := fun x y z h1 h2 => by
        have h3 : scl q * x = U * z := Int.eq_of_mul_eq_mul_left cn (by
          have : C * (scl q * x) = scl q * (C * x) := by grind
          rw [this, h1]
          grind)
        refine Int.eq_of_mul_eq_mul_left un ?_
        have : U * (scl q * y) = scl q * (U * y) := by grind
        rw [this, h2]
        have : scl q * (w2 ^ (K + 1) * x) = w2 ^ (K + 1) * (scl q * x) := by grind
        rw [this, h3]
        grind
      exact ⟨mk _ _ _ a1 t1, mk _ _ _ a2 t2, mk _ _ _ a3 t3, mk _ _ _ a4 t4⟩
    have := full_le sm (show 1 ≤ K by omega) P2.root P2.good P2.c0 pw e
    omega
  · obtain ⟨rfl, rfl⟩ := one2 z.symm
    rw [e2, ← z]
    rfl
end K35
set_option maxRecDepth 100000
set_option maxHeartbeats 4000000
namespace K35
open PySem Ev
theorem go_mapc {α : Type} {f g : α → D} {t : TgP} {tt : List SV → M Bool} {fe : List SV → M D} {sdw : List SV} {S : List Ob} {P : List D → List Ob → Prop} (xs : List α)
    (step : ∀ x ∈ xs, ∃ sd1, t (f x) sdw = some sd1 ∧ tt sd1 = M.pure true ∧ fe sd1 = M.pure (g x)) (l : xs.length ≤ lim) (h : P (xs.map g) S) : Wp (compS t tt fe sdw (xs.map f) []) S P := by
  refine go_filter (p := fun _ => true) (g := g) xs (fun x hx => ?_) l (by rw [List.filter_eq_self.mpr (fun _ _ => rfl)]; exact h)
  obtain ⟨sd1, e1, e2, e3⟩ := step x hx
  exact ⟨sd1, e1, e2, fun _ => e3⟩
theorem all_map {α : Type} (f : α → Bool) (xs : List α) : dAll (.lst (xs.map fun x => .bl (f x))) = M.pure (.bl (xs.all f)) := by
  have e : ∀ xs : List α, bls (xs.map fun x => D.bl (f x)) = some (xs.map f) := by
    intro xs
    induction xs with
    | nil => rfl
    | cons x xs ih =>
      rw [List.map_cons]
      unfold bls
      rw [ih]
      rfl
  unfold dAll
  simp only [e]
  rw [List.all_map]
  rfl
theorem repD_mix {m : Mx} {s : Int} (h : Small m s) : repD m s = bestD (repB m s) := by
  unfold repD
  rw [if_neg (fun z => by have := h.b0; have := h.c0; omega)]
theorem best_shw {n : Int} {L : List Fp} (hn : Bd 10 n) (hl : L.length ≤ 8) (hf : ∀ x ∈ L, Fin x) : Shw 4 50000 (.tup [.int n, .tup (L.map Fp.D)]) :=
  (shw_tup (shl_cons (shw_int hn (by decide)) (shl_cons (row_shw hl hf) shl_nil))).mono (by decide) (by decide)
def small1 (x : Fp) : Bool := decide (x.2.2 = 1) && decide (x.2.1 < 13)
theorem right_ok (S : List Ob) (n : Nat) (h : Cup S n) : Wp (sem__law_right [.ref n]) S fun d _ => d = .bl true := by
  (unfold sem__law_right; refine Ev.go_fn rfl ?_; unfold pk__law_right; simp only [Ev.slots, List.map_cons, List.map_nil, List.length_cons, List.length_nil, List.cons_append, List.nil_append, List.replicate, Nat.reduceSub, Nat.reduceAdd])
  (repeat regstrif_gather)
  refine gs_times (J := fun sd S' => Cup S' n ∧ ∃ x1 x2 x3 x4 x5 x6 x7 x8 x9 : SV, sd = [.val (.ref n), x1, x2, x3, x4, x5, x6, x7, x8, x9]) ?_ ?_ ⟨h, _, _, _, _, _, _, _, _, _, rfl⟩
  · rintro i sd S1 _ _ ⟨h1, x1, x2, x3, x4, x5, x6, x7, x8, x9, rfl⟩
    (repeat regstrif_gather)
    refine go_use (mixed_ok 4 (by decide) (by decide) S1 n h1) ?_
    rintro d S2 ⟨r, rfl, hm, h2⟩
    have l4 := hm.len
    have l1 : 1 ≤ r.length := List.length_pos_iff.mpr hm.row.ne
    (repeat regstrif_gather)
    simp only [List.length_map]
    have d8 : 2 ≤ (8 : Int) / (r.length : Int) ∧ (8 : Int) / (r.length : Int) ≤ 8 := by
      have cs : r.length = 1 ∨ r.length = 2 ∨ r.length = 3 ∨ r.length = 4 := by omega
      rcases cs with c | c | c | c <;> rw [c] <;> decide
    have bl : Bd 5 (r.length : Int) := .mk (by omega)
    (repeat regstrif_gather)
    refine sip_wp h2 (by omega) (by omega) fun q S3 q0 q1 h3 => ?_
    obtain ⟨q, rfl⟩ : ∃ j : Nat, q = j := ⟨q.toNat, by omega⟩
    have bq : Bd 10 (q : Int) := .mk (by omega)
    have k8 : (q + 1) * r.length ≤ 8 := by
      have m := Int.ediv_mul_le (8 : Int) (b := (r.length : Int)) (by omega)
      have m2 := Int.mul_le_mul_of_nonneg_right (show (q : Int) + 1 ≤ 8 / (r.length : Int) by omega) (show 0 ≤ (r.length : Int) by omega)
      have e : (((q + 1) * r.length : Nat) : Int) = ((q : Int) + 1) * r.length := by push_cast; rfl
      omega
    have ek : (1 : Int) + (q : Int) = ((q + 1 : Nat) : Int) := by omega
    have k1 : 1 ≤ q + 1 := by omega
    (repeat regstrif_gather)
    rw [ek]
    have kq : q + 1 ≤ 8 := by
      have : (q + 1) * 1 ≤ (q + 1) * r.length := Nat.mul_le_mul_left _ l1
      omega
    generalize q + 1 = k at *
    have mul : ∀ (S' : List Ob) (P : D → List Ob → Prop), P (.lst ((reps r k).map Pc.D)) S' → Wp (dMul (.lst (r.map Pc.D)) (.int k)) S' P := fun S' P hp => by
      refine p_mulL (n := k) (by rw [List.length_map, Nat.mul_comm]; unfold lim; omega) (by omega) ?_
      rw [reps_map]
      exact hp
    have Rr := hm.row.row
    have lq := reps_len r k
    have mq := reps_mem r k1
    have Rq : Row (reps r k) := ⟨fun p hp => Rr.1 p ((mq p).mp hp), by rw [lq]; exact k8⟩
    obtain ⟨pa, hpa, ra⟩ := hm.rail
    obtain ⟨pb, hpb, rb⟩ := hm.rung
    have neq : reps r k ≠ [] := List.ne_nil_of_mem ((mq pa).mpr hpa)
    have sq := small_of Rq neq ⟨pb, (mq pb).mpr hpb, rb⟩ ⟨pa, (mq pa).mpr hpa, ra⟩
    obtain ⟨b, F, w, T, B, e2, P2, one2⟩ := rep_base sq
    have p2 := repetition_ok Rq neq
    rw [repD_mix sq, e2] at p2
    unfold bestD at p2
    dsimp only at p2
    have f2 := rowF_fin P2.good P2.c0 P2.fs P2.ws
    have l2 := shape_len (rowF_shape P2.good P2.c0)
    have b40 := P2.n2
    have b1 := P2.n1
    have bb : Bd 10 (b : Int) := .mk (by omega)
    have ip : ∀ K : Nat, 1 ≤ K → K ≤ 39 → sem__law_is_power [.lst ((reps r k).map Pc.D), .int ((K : Int) + 1)] = M.pure (.bl (succB (mat (reps r k)) (scl (reps r k)) K)) := fun K a c => is_power_ok Rq neq sq K a c
    refine mul _ _ ?_
    (repeat regstrif_gather)
    refine go_val (law_read_ok (reps r k) Rq neq) ?_
    (repeat regstrif_gather)
    refine go_val p2 ?_
    (repeat regstrif_gather)
    refine gs_times (J := fun sd S' => S' = S3 ∧ ∃ x6 x7 x8 x9 : SV, sd = [.val (.ref n), .val (.int i), .val (.lst (r.map Pc.D)), .val (.int k), .val (patD (reps r k)), .val (.tup [.int b, .tup ((rowF F w).map Fp.D)]), x6, x7, x8, x9]) ?_ ?_ ⟨rfl, _, _, _, _, rfl⟩
    · rintro m sd S4 m0 m1 ⟨rfl, x6, x7, x8, x9, rfl⟩
      obtain ⟨K, rfl⟩ : ∃ K : Nat, m = (K : Int) + 1 := ⟨(m - 1).toNat, by omega⟩
      have K39 : K ≤ 38 := by omega
      have no : succB (mat (reps r k)) (scl (reps r k)) K = false := by
        cases z : succB (mat (reps r k)) (scl (reps r k)) K with
        | false => rfl
        | true =>
          have := succ_le sq e2 (by omega) z
          omega
      have ipK := ip K (by omega) (by omega)
      rw [no] at ipK
      (repeat regstrif_gather)
      refine mul _ _ ?_
      (repeat regstrif_gather)
      refine go_val ipK ?_
      (repeat regstrif_gather)
      exact ⟨rfl, _, _, _, _, rfl⟩
    · rintro sd S4 ⟨rfl, x6, x7, x8, x9, rfl⟩
      refine gs_seq (gs_if (go_val (r := false) ?_ ?_))
      · refine pure_wp fun S => ?_
        (repeat regstrif_gather)
        refine ite_d (fun z => ?_) (fun z => ?_)
        · obtain ⟨K, hK⟩ : ∃ K : Nat, b = K + 1 := ⟨b - 1, by omega⟩
          have pw := P2.pw
          rw [hK] at pw
          have yes := rep_succ sq (show 1 ≤ K by omega) P2.root P2.good P2.c0 pw
          have ipK := ip K (by omega) (by omega)
          rw [yes] at ipK
          have eb : (b : Int) = (K : Int) + 1 := by omega
          rw [eb]
          (repeat regstrif_gather)
          refine mul _ _ ?_
          (repeat regstrif_gather)
          refine go_val ipK ?_
          (repeat regstrif_gather)
          exact ⟨rfl, rfl⟩
        · (repeat regstrif_gather)
          exact ⟨rfl, rfl⟩
      refine gs_next ?_
      (repeat regstrif_gather)
      refine go_mapc (g := fun x => .bl (small1 x)) (rowF F w) (fun x hx => ?_) (by unfold lim; omega) ?_
      · obtain ⟨word, t, u⟩ := x
        have fx := f2 _ hx
        have v1 := bd_sm fx.v.t
        have v2 := bd_sm fx.v.b
        refine ⟨_, rfl, rfl, ?_⟩
        refine pure_wp fun S => ?_
        unfold small1
        dsimp only at v1 v2
        (repeat regstrif_gather)
        refine go_val (ix1 (t, u)) ?_
        dsimp only
        (repeat regstrif_gather)
        refine ite_d (fun z => ?_) (fun z => ?_)
        · (repeat regstrif_gather)
          refine go_val (ix0 (t, u)) ?_
          dsimp only
          (repeat regstrif_gather)
          refine ⟨congrArg D.bl ?_, rfl⟩
          rw [decide_eq_true z]
          rfl
        · (repeat regstrif_gather)
          refine ⟨congrArg D.bl ?_, rfl⟩
          rw [decide_eq_false z]
          rfl
      (repeat regstrif_gather)
      refine go_val (all_map small1 (rowF F w)) ?_
      (repeat regstrif_gather)
      cases al : (rowF F w).all small1 with
      | false =>
        (repeat regstrif_gather)
        exact ⟨h3, _, _, _, _, _, _, _, _, _, rfl⟩
      | true =>
        have al2 : ∀ x ∈ rowF F w, x.2.2 = 1 ∧ x.2.1 < 13 := fun x hx => by
          have := List.all_eq_true.mp al x hx
          unfold small1 at this
          rw [Bool.and_eq_true, decide_eq_true_eq, decide_eq_true_eq] at this
          exact this
        obtain ⟨x, y, z, x0, x1', y0, y1', z0, z1', xz, eL, ea, ebb, ed, ew⟩ := int_row P2.root P2.good P2.c0 al2
        obtain ⟨Ru, nu, su, eu⟩ := uRow_ok x0 x1' y0 y1' z0 z1' xz
        obtain ⟨em, es⟩ := uRow_mat x0 y0 z0 xz
        have ag := again_one sq P2 e2 su P2.c0 (by rw [em]; exact ea) (by rw [em]; exact ebb) (by rw [em]; exact (Int.mul_one _).symm) (by rw [em]; exact ed) (by rw [es]; exact ew)
        rw [eu, ← eL] at ag
        have pu := repetition_ok Ru nu
        rw [repD_mix su, ag] at pu
        unfold bestD at pu
        dsimp only at pu
        have s1 := best_shw (n := 1) (L := rowF F w) (.mk (by decide)) (by omega) f2
        (repeat regstrif_gather)
        refine go_mapc (g := fun x => Pc.D (toPc x)) (rowF F w) (fun x hx => ?_) (by unfold lim; omega) ?_
        · obtain ⟨word, t, u⟩ := x
          refine ⟨_, rfl, rfl, ?_⟩
          refine pure_wp fun S => ?_
          (repeat regstrif_gather)
          refine go_val (ix0 (t, u)) ?_
          (repeat regstrif_gather)
          exact ⟨rfl, rfl⟩
        have mp : (rowF F w).map (fun x => Pc.D (toPc x)) = (uRow x y z).map Pc.D := by
          rw [eL]
          unfold uRow
          rw [List.map_map]
          rfl
        rw [mp]
        (repeat regstrif_gather)
        refine go_val (law_read_ok _ Ru nu) ?_
        (repeat regstrif_gather)
        refine go_val pu ?_
        (repeat regstrif_gather)
        exact ⟨h3, _, _, _, _, _, _, _, _, _, rfl⟩
  · rintro sd S2 ⟨h2, x1, x2, x3, x4, x5, x6, x7, x8, x9, rfl⟩
    (repeat regstrif_gather)
    rfl
theorem law_ok (S : List Ob) (ns : List Int) (l : ns.length ≤ 63) (hb : ∀ z ∈ ns, Builtin.Int.intBits z ≤ 1048576) : Wp (sem_law [.scr (ns.map D.int)]) S fun d _ => d = .bl true := by
  (unfold sem_law; refine Ev.go_fn rfl ?_; unfold pk_law; simp only [Ev.slots, List.map_cons, List.map_nil, List.length_cons, List.length_nil, List.cons_append, List.nil_append, List.replicate, Nat.reduceSub, Nat.reduceAdd])
  refine gs_seq (gs_own (go_val (r := [.int 1]) (by funext S; kernel_rfl) ?_))
  refine gs_seq (gs_app (by exact rfl) (by decide) (go_val (r := .int 1) (by funext S; kernel_rfl) ?_))
  refine gs_seq (gs_app (by exact rfl) (by decide) (go_val (r := .int 2) (by funext S; kernel_rfl) ?_))
  refine gs_seq (gs_frzL (by exact rfl) ?_)
  refine gs_seq (gs_if (go_val (r := false) (by funext S; kernel_rfl) ?_))
  (repeat regstrif_gather)
  simp only [List.length_map]
  (repeat regstrif_gather)
  refine Wp.mono (all_spots (by split <;> split <;> omega) S fun i h0 h1 S => ⟨_, rfl, ?_⟩) ?_
  · (repeat regstrif_gather)
    refine go_use (cup_ok S ns i h0 h1 hb) ?_
    rintro d S' ⟨rfl, hc⟩
    (repeat regstrif_gather)
    exact right_ok S' _ hc
  · intro acc S' h
    (repeat regstrif_gather)
    rw [h]
    exact go_pure rfl
theorem law_true (ns : List Int) (l : ns.length ≤ 63) (hb : ∀ z ∈ ns, Builtin.Int.intBits z ≤ 1048576) : ∃ S, sem_law [.scr (ns.map D.int)] [] = some (.ok (.bl true), S) := by
  obtain ⟨a, S, e, rfl⟩ := (law_ok [] ns l hb).ex
  exact ⟨S, e⟩
end K35
set_option maxRecDepth 100000
set_option maxHeartbeats 4000000
namespace K35
open PySem PySem.Spec PyProof.Rows L2 Ev
def adOf (l : List (Nat × Addr)) (i : Nat) : Addr := match tab l i with | some a => a | none => 0
theorem all_mk {l : PySem.W.OpenLaw} {w : World} {K : PySem.W.Frag} {h : Heap} {mg : Str → Option Value} {fa : Addr} (X : K.In h) (G : h.Ns mainGlobals mg) (hfa : mg "law" = some (.ref fa))
    {C0 : Addr} {C1 : Addr} {f0 : Addr} {f1 : Addr} {f2 : Addr} {f3 : Addr} {f4 : Addr} {f5 : Addr} {f6 : Addr} {f7 : Addr} {f8 : Addr} {f9 : Addr} {f10 : Addr} {f11 : Addr} {f12 : Addr} {f13 : Addr} {f14 : Addr} {f15 : Addr} {f16 : Addr} {f17 : Addr} {f18 : Addr} {f19 : Addr} {f20 : Addr} {f21 : Addr} {f22 : Addr} {f23 : Addr} {f24 : Addr} {f25 : Addr} {f26 : Addr} {f27 : Addr} {f28 : Addr} {f29 : Addr} {f30 : Addr} {f31 : Addr} {f32 : Addr} {f33 : Addr} {f34 : Addr} {f35 : Addr} {f36 : Addr} {f37 : Addr} {f38 : Addr} {f39 : Addr} {f40 : Addr} {f41 : Addr} {f42 : Addr} {f43 : Addr} {q31 : Addr} {mc31 : Value} {rs31 : List Value} {od0 an0 : Option Addr} {sl0 : Array (Option Value)} {oc0 kV0 dc0 pm0 cd0 ct0 : Value} {od1 an1 : Option Addr} {sl1 : Array (Option Value)} {oc1 kV1 dc1 pm1 cd1 ct1 : Value} {od2 an2 : Option Addr} {sl2 : Array (Option Value)} {oc2 kV2 dc2 pm2 cd2 ct2 : Value} {od3 an3 : Option Addr} {sl3 : Array (Option Value)} {oc3 kV3 dc3 pm3 cd3 ct3 : Value} {od4 an4 : Option Addr} {sl4 : Array (Option Value)} {oc4 kV4 dc4 pm4 cd4 ct4 : Value} {od5 an5 : Option Addr} {sl5 : Array (Option Value)} {oc5 kV5 dc5 pm5 cd5 ct5 : Value} {od6 an6 : Option Addr} {sl6 : Array (Option Value)} {oc6 kV6 dc6 pm6 cd6 ct6 : Value} {od7 an7 : Option Addr} {sl7 : Array (Option Value)} {oc7 kV7 dc7 pm7 cd7 ct7 : Value} {od8 an8 : Option Addr} {sl8 : Array (Option Value)} {oc8 kV8 dc8 pm8 cd8 ct8 : Value} {od9 an9 : Option Addr} {sl9 : Array (Option Value)} {oc9 kV9 dc9 pm9 cd9 ct9 : Value} {od10 an10 : Option Addr} {sl10 : Array (Option Value)} {oc10 kV10 dc10 pm10 cd10 ct10 : Value} {od11 an11 : Option Addr} {sl11 : Array (Option Value)} {oc11 kV11 dc11 pm11 cd11 ct11 : Value} {od12 an12 : Option Addr} {sl12 : Array (Option Value)} {oc12 kV12 dc12 pm12 cd12 ct12 : Value} {od13 an13 : Option Addr} {sl13 : Array (Option Value)} {oc13 kV13 dc13 pm13 cd13 ct13 : Value} {od14 an14 : Option Addr} {sl14 : Array (Option Value)} {oc14 kV14 dc14 pm14 cd14 ct14 : Value} {od15 an15 : Option Addr} {sl15 : Array (Option Value)} {oc15 kV15 dc15 pm15 cd15 ct15 : Value} {od16 an16 : Option Addr} {sl16 : Array (Option Value)} {oc16 kV16 dc16 pm16 cd16 ct16 : Value} {od17 an17 : Option Addr} {sl17 : Array (Option Value)} {oc17 kV17 dc17 pm17 cd17 ct17 : Value} {od18 an18 : Option Addr} {sl18 : Array (Option Value)} {oc18 kV18 dc18 pm18 cd18 ct18 : Value} {od19 an19 : Option Addr} {sl19 : Array (Option Value)} {oc19 kV19 dc19 pm19 cd19 ct19 : Value} {od20 an20 : Option Addr} {sl20 : Array (Option Value)} {oc20 kV20 dc20 pm20 cd20 ct20 : Value} {od21 an21 : Option Addr} {sl21 : Array (Option Value)} {oc21 kV21 dc21 pm21 cd21 ct21 : Value} {od22 an22 : Option Addr} {sl22 : Array (Option Value)} {oc22 kV22 dc22 pm22 cd22 ct22 : Value} {od23 an23 : Option Addr} {sl23 : Array (Option Value)} {oc23 kV23 dc23 pm23 cd23 ct23 : Value} {od24 an24 : Option Addr} {sl24 : Array (Option Value)} {oc24 kV24 dc24 pm24 cd24 ct24 : Value} {od25 an25 : Option Addr} {sl25 : Array (Option Value)} {oc25 kV25 dc25 pm25 cd25 ct25 : Value} {od26 an26 : Option Addr} {sl26 : Array (Option Value)} {oc26 kV26 dc26 pm26 cd26 ct26 : Value} {od27 an27 : Option Addr} {sl27 : Array (Option Value)} {oc27 kV27 dc27 pm27 cd27 ct27 : Value} {od28 an28 : Option Addr} {sl28 : Array (Option Value)} {oc28 kV28 dc28 pm28 cd28 ct28 : Value} {od29 an29 : Option Addr} {sl29 : Array (Option Value)} {oc29 kV29 dc29 pm29 cd29 ct29 : Value} {od30 an30 : Option Addr} {sl30 : Array (Option Value)} {oc30 kV30 dc30 pm30 cd30 ct30 : Value} {od31 an31 : Option Addr} {sl31 : Array (Option Value)} {oc31 kV31 dc31 pm31 cd31 ct31 : Value} {od32 an32 : Option Addr} {sl32 : Array (Option Value)} {oc32 kV32 dc32 pm32 cd32 ct32 : Value} {od33 an33 : Option Addr} {sl33 : Array (Option Value)} {oc33 kV33 dc33 pm33 cd33 ct33 : Value} {od34 an34 : Option Addr} {sl34 : Array (Option Value)} {oc34 kV34 dc34 pm34 cd34 ct34 : Value} {od35 an35 : Option Addr} {sl35 : Array (Option Value)} {oc35 kV35 dc35 pm35 cd35 ct35 : Value} {od36 an36 : Option Addr} {sl36 : Array (Option Value)} {oc36 kV36 dc36 pm36 cd36 ct36 : Value} {od37 an37 : Option Addr} {sl37 : Array (Option Value)} {oc37 kV37 dc37 pm37 cd37 ct37 : Value} {od38 an38 : Option Addr} {sl38 : Array (Option Value)} {oc38 kV38 dc38 pm38 cd38 ct38 : Value} {od39 an39 : Option Addr} {sl39 : Array (Option Value)} {oc39 kV39 dc39 pm39 cd39 ct39 : Value} {od40 an40 : Option Addr} {sl40 : Array (Option Value)} {oc40 kV40 dc40 pm40 cd40 ct40 : Value} {od41 an41 : Option Addr} {sl41 : Array (Option Value)} {oc41 kV41 dc41 pm41 cd41 ct41 : Value} {od42 an42 : Option Addr} {sl42 : Array (Option Value)} {oc42 kV42 dc42 pm42 cd42 ct42 : Value} {od43 an43 : Option Addr} {sl43 : Array (Option Value)} {oc43 kV43 dc43 pm43 cd43 ct43 : Value} {t_MOST_PIECES : Tok} {t_MOST_OHMS : Tok} {T_WORDS : Addr} {o_WORDS : Option Addr} {its_WORDS : Array Value} {u_WORDS : Nat} {sl_WORDS : Array (Option Value)} {T_NOTHING : Addr} {o_NOTHING : Option Addr} {its_NOTHING : Array Value} {u_NOTHING : Nat} {sl_NOTHING : Array (Option Value)} {t_DIGITS : Tok} {t_MOST_DIGITS : Tok} {t_MOST_JOINED : Tok}
    (nC0 : PySem.W.nsIn K mainGlobals "Row" = some (some (.ref C0))) (pgC0 : PySem.W.plainGet K C0 Str.empty = true) (hdC0 : PySem.W.hasDictIn K C0 = true) (poC0 : PySem.W.plainOver K C0 = true)
    (saC0 : PySem.W.findIn K (.ref C0) "__setattr__" = some (some (.builtin "object.__setattr__"))) (ccC0 : PySem.W.findIn K (.ref C0) "__class__" = some (some (.builtin "object.__class__"))) (moC0 : PySem.W.mroIn K C0 (.type "object") = some true) (naC0_told : PySem.W.findIn K (.ref C0) "told" = some none)
    (nC1 : PySem.W.nsIn K mainGlobals "Pattern" = some (some (.ref C1))) (pgC1 : PySem.W.plainGet K C1 Str.empty = true) (hdC1 : PySem.W.hasDictIn K C1 = true) (poC1 : PySem.W.plainOver K C1 = true)
    (saC1 : PySem.W.findIn K (.ref C1) "__setattr__" = some (some (.builtin "object.__setattr__"))) (ccC1 : PySem.W.findIn K (.ref C1) "__class__" = some (some (.builtin "object.__class__"))) (moC1 : PySem.W.mroIn K C1 (.type "object") = some true) (naC1_row : PySem.W.findIn K (.ref C1) "row" = some none)
    (naC1_chain : PySem.W.findIn K (.ref C1) "chain" = some none) (naC1_scale : PySem.W.findIn K (.ref C1) "scale" = some none) (a0 : PySem.W.nsIn K mainGlobals "check_pattern" = some (some (.ref f0))) (a1 : PySem.W.nsIn K mainGlobals "is_rungs" = some (some (.ref f1)))
    (a2 : PySem.W.nsIn K mainGlobals "is_rails" = some (some (.ref f2))) (a3 : PySem.W.nsIn K mainGlobals "common" = some (some (.ref f3))) (a4 : PySem.W.nsIn K mainGlobals "lowest" = some (some (.ref f4))) (a5 : PySem.W.nsIn K mainGlobals "row_of" = some (some (.ref f5)))
    (a6 : PySem.W.nsIn K mainGlobals "star_of" = some (some (.ref f6))) (a7 : PySem.W.nsIn K mainGlobals "star" = some (some (.ref f7))) (a8 : PySem.W.nsIn K mainGlobals "power_of" = some (some (.ref f8))) (a9 : PySem.W.nsIn K mainGlobals "stairs" = some (some (.ref f9)))
    (a10 : PySem.W.nsIn K mainGlobals "trace_of_power" = some (some (.ref f10))) (a11 : PySem.W.nsIn K mainGlobals "may_be" = some (some (.ref f11))) (a12 : PySem.W.nsIn K mainGlobals "root_of_power" = some (some (.ref f12))) (a13 : PySem.W.nsIn K mainGlobals "trace_root" = some (some (.ref f13)))
    (a14 : PySem.W.nsIn K mainGlobals "root_row" = some (some (.ref f14))) (a15 : PySem.W.nsIn K mainGlobals "repetition" = some (some (.ref f15))) (a16 : PySem.W.nsIn K mainGlobals "is_integer" = some (some (.ref f16))) (a17 : PySem.W.nsIn K mainGlobals "is_between" = some (some (.ref f17)))
    (a18 : PySem.W.nsIn K mainGlobals "is_piece" = some (some (.ref f18))) (a19 : PySem.W.nsIn K mainGlobals "check_pieces" = some (some (.ref f19))) (a20 : PySem.W.nsIn K mainGlobals "joined" = some (some (.ref f20))) (a21 : PySem.W.nsIn K mainGlobals "chain_of" = some (some (.ref f21)))
    (a23 : PySem.W.nsIn K mainGlobals "_law_sip" = some (some (.ref f23))) (a24 : PySem.W.nsIn K mainGlobals "_law_pick" = some (some (.ref f24))) (a25 : PySem.W.nsIn K mainGlobals "_law_row" = some (some (.ref f25))) (a26 : PySem.W.nsIn K mainGlobals "_law_mixed" = some (some (.ref f26)))
    (a27 : PySem.W.nsIn K mainGlobals "integer_in" = some (some (.ref f27))) (a28 : PySem.W.nsIn K mainGlobals "piece_in" = some (some (.ref f28))) (a30 : PySem.W.nsIn K mainGlobals "pattern_in" = some (some (.ref f30))) (a32 : PySem.W.nsIn K mainGlobals "_law_words" = some (some (.ref f32)))
    (a33 : PySem.W.nsIn K mainGlobals "_law_read" = some (some (.ref f33))) (a34 : PySem.W.nsIn K mainGlobals "_law_four" = some (some (.ref f34))) (a35 : PySem.W.nsIn K mainGlobals "_law_pair" = some (some (.ref f35))) (a36 : PySem.W.nsIn K mainGlobals "_law_trace" = some (some (.ref f36)))
    (a37 : PySem.W.nsIn K mainGlobals "_law_root_bottom" = some (some (.ref f37))) (a38 : PySem.W.nsIn K mainGlobals "_law_powers" = some (some (.ref f38))) (a39 : PySem.W.nsIn K mainGlobals "_law_power_trace" = some (some (.ref f39))) (a40 : PySem.W.nsIn K mainGlobals "_law_is_power" = some (some (.ref f40)))
    (a41 : PySem.W.nsIn K mainGlobals "_law_right" = some (some (.ref f41))) (a42 : PySem.W.nsIn K mainGlobals "_law_cup" = some (some (.ref f42))) (a43 : PySem.W.nsIn K mainGlobals "law" = some (some (.ref f43))) (a22_1 : PySem.W.findIn K (.ref C1) "__init__" = some (some (.ref f22)))
    (mkC1 : PySem.W.makesIn K C1 = true) (kpC1 : PySem.W.keepIn K (.ref C1) = true) (i22 : PySem.W.isFn K (.ref f22) = true) (a29_0 : PySem.W.findIn K (.ref C0) "__init__" = some (some (.ref f29)))
    (mkC0 : PySem.W.makesIn K C0 = true) (kpC0 : PySem.W.keepIn K (.ref C0) = true) (i29 : PySem.W.isFn K (.ref f29) = true) (t31 : PySem.W.typeIn K (.ref C1) = some mc31)
    (b31 : PySem.W.readsIn K C1 mc31 = true) (d31 : PySem.W.specialIn K (.ref C1) "__getattribute__" = some (some (.builtin "type.__getattribute__"))) (a31 : PySem.W.findCls K (.ref C1) mc31 "read" = some (.get (.builtin "staticmethod.__get__") (.ref q31) .none (.ref C1))) (e31 : PySem.W.recIn K q31 "staticmethod" = some (.ref f31 :: rs31))
    (l0 : K.lookup f0 = some ⟨oc0, od0, .func (PySem.W.fnOf "check_pattern" "check_pattern" (defArgs st_check_pattern) (defBody st_check_pattern) (defScope st_check_pattern) .none kV0 dc0 pm0 an0 cd0 ct0), sl0⟩) (c0 : PySem.W.codeIn K cd0 "check_pattern" = true) (k0 : PySem.W.keepIn K (.ref f0) = true) (l1 : K.lookup f1 = some ⟨oc1, od1, .func (PySem.W.fnOf "is_rungs" "is_rungs" (defArgs st_is_rungs) (defBody st_is_rungs) (defScope st_is_rungs) .none kV1 dc1 pm1 an1 cd1 ct1), sl1⟩)
    (c1 : PySem.W.codeIn K cd1 "is_rungs" = true) (k1 : PySem.W.keepIn K (.ref f1) = true) (l2 : K.lookup f2 = some ⟨oc2, od2, .func (PySem.W.fnOf "is_rails" "is_rails" (defArgs st_is_rails) (defBody st_is_rails) (defScope st_is_rails) .none kV2 dc2 pm2 an2 cd2 ct2), sl2⟩) (c2 : PySem.W.codeIn K cd2 "is_rails" = true)
    (k2 : PySem.W.keepIn K (.ref f2) = true) (l3 : K.lookup f3 = some ⟨oc3, od3, .func (PySem.W.fnOf "common" "common" (defArgs st_common) (defBody st_common) (defScope st_common) .none kV3 dc3 pm3 an3 cd3 ct3), sl3⟩) (c3 : PySem.W.codeIn K cd3 "common" = true) (k3 : PySem.W.keepIn K (.ref f3) = true)
    (l4 : K.lookup f4 = some ⟨oc4, od4, .func (PySem.W.fnOf "lowest" "lowest" (defArgs st_lowest) (defBody st_lowest) (defScope st_lowest) .none kV4 dc4 pm4 an4 cd4 ct4), sl4⟩) (c4 : PySem.W.codeIn K cd4 "lowest" = true) (k4 : PySem.W.keepIn K (.ref f4) = true) (l5 : K.lookup f5 = some ⟨oc5, od5, .func (PySem.W.fnOf "row_of" "row_of" (defArgs st_row_of) (defBody st_row_of) (defScope st_row_of) .none kV5 dc5 pm5 an5 cd5 ct5), sl5⟩)
    (c5 : PySem.W.codeIn K cd5 "row_of" = true) (k5 : PySem.W.keepIn K (.ref f5) = true) (l6 : K.lookup f6 = some ⟨oc6, od6, .func (PySem.W.fnOf "star_of" "star_of" (defArgs st_star_of) (defBody st_star_of) (defScope st_star_of) .none kV6 dc6 pm6 an6 cd6 ct6), sl6⟩) (c6 : PySem.W.codeIn K cd6 "star_of" = true)
    (k6 : PySem.W.keepIn K (.ref f6) = true) (l7 : K.lookup f7 = some ⟨oc7, od7, .func (PySem.W.fnOf "star" "star" (defArgs st_star) (defBody st_star) (defScope st_star) .none kV7 dc7 pm7 an7 cd7 ct7), sl7⟩) (c7 : PySem.W.codeIn K cd7 "star" = true) (k7 : PySem.W.keepIn K (.ref f7) = true)
    (l8 : K.lookup f8 = some ⟨oc8, od8, .func (PySem.W.fnOf "power_of" "power_of" (defArgs st_power_of) (defBody st_power_of) (defScope st_power_of) .none kV8 dc8 pm8 an8 cd8 ct8), sl8⟩) (c8 : PySem.W.codeIn K cd8 "power_of" = true) (k8 : PySem.W.keepIn K (.ref f8) = true) (l9 : K.lookup f9 = some ⟨oc9, od9, .func (PySem.W.fnOf "stairs" "stairs" (defArgs st_stairs) (defBody st_stairs) (defScope st_stairs) .none kV9 dc9 pm9 an9 cd9 ct9), sl9⟩)
    (c9 : PySem.W.codeIn K cd9 "stairs" = true) (k9 : PySem.W.keepIn K (.ref f9) = true) (l10 : K.lookup f10 = some ⟨oc10, od10, .func (PySem.W.fnOf "trace_of_power" "trace_of_power" (defArgs st_trace_of_power) (defBody st_trace_of_power) (defScope st_trace_of_power) .none kV10 dc10 pm10 an10 cd10 ct10), sl10⟩) (c10 : PySem.W.codeIn K cd10 "trace_of_power" = true)
    (k10 : PySem.W.keepIn K (.ref f10) = true) (l11 : K.lookup f11 = some ⟨oc11, od11, .func (PySem.W.fnOf "may_be" "may_be" (defArgs st_may_be) (defBody st_may_be) (defScope st_may_be) .none kV11 dc11 pm11 an11 cd11 ct11), sl11⟩) (c11 : PySem.W.codeIn K cd11 "may_be" = true) (k11 : PySem.W.keepIn K (.ref f11) = true)
    (l12 : K.lookup f12 = some ⟨oc12, od12, .func (PySem.W.fnOf "root_of_power" "root_of_power" (defArgs st_root_of_power) (defBody st_root_of_power) (defScope st_root_of_power) .none kV12 dc12 pm12 an12 cd12 ct12), sl12⟩) (c12 : PySem.W.codeIn K cd12 "root_of_power" = true) (k12 : PySem.W.keepIn K (.ref f12) = true) (l13 : K.lookup f13 = some ⟨oc13, od13, .func (PySem.W.fnOf "trace_root" "trace_root" (defArgs st_trace_root) (defBody st_trace_root) (defScope st_trace_root) .none kV13 dc13 pm13 an13 cd13 ct13), sl13⟩)
    (c13 : PySem.W.codeIn K cd13 "trace_root" = true) (k13 : PySem.W.keepIn K (.ref f13) = true) (l14 : K.lookup f14 = some ⟨oc14, od14, .func (PySem.W.fnOf "root_row" "root_row" (defArgs st_root_row) (defBody st_root_row) (defScope st_root_row) .none kV14 dc14 pm14 an14 cd14 ct14), sl14⟩) (c14 : PySem.W.codeIn K cd14 "root_row" = true)
    (k14 : PySem.W.keepIn K (.ref f14) = true) (l15 : K.lookup f15 = some ⟨oc15, od15, .func (PySem.W.fnOf "repetition" "repetition" (defArgs st_repetition) (defBody st_repetition) (defScope st_repetition) .none kV15 dc15 pm15 an15 cd15 ct15), sl15⟩) (c15 : PySem.W.codeIn K cd15 "repetition" = true) (k15 : PySem.W.keepIn K (.ref f15) = true)
    (l16 : K.lookup f16 = some ⟨oc16, od16, .func (PySem.W.fnOf "is_integer" "is_integer" (defArgs st_is_integer) (defBody st_is_integer) (defScope st_is_integer) .none kV16 dc16 pm16 an16 cd16 ct16), sl16⟩) (c16 : PySem.W.codeIn K cd16 "is_integer" = true) (k16 : PySem.W.keepIn K (.ref f16) = true) (l17 : K.lookup f17 = some ⟨oc17, od17, .func (PySem.W.fnOf "is_between" "is_between" (defArgs st_is_between) (defBody st_is_between) (defScope st_is_between) .none kV17 dc17 pm17 an17 cd17 ct17), sl17⟩)
    (c17 : PySem.W.codeIn K cd17 "is_between" = true) (k17 : PySem.W.keepIn K (.ref f17) = true) (l18 : K.lookup f18 = some ⟨oc18, od18, .func (PySem.W.fnOf "is_piece" "is_piece" (defArgs st_is_piece) (defBody st_is_piece) (defScope st_is_piece) .none kV18 dc18 pm18 an18 cd18 ct18), sl18⟩) (c18 : PySem.W.codeIn K cd18 "is_piece" = true)
    (k18 : PySem.W.keepIn K (.ref f18) = true) (l19 : K.lookup f19 = some ⟨oc19, od19, .func (PySem.W.fnOf "check_pieces" "check_pieces" (defArgs st_check_pieces) (defBody st_check_pieces) (defScope st_check_pieces) .none kV19 dc19 pm19 an19 cd19 ct19), sl19⟩) (c19 : PySem.W.codeIn K cd19 "check_pieces" = true) (k19 : PySem.W.keepIn K (.ref f19) = true)
    (l20 : K.lookup f20 = some ⟨oc20, od20, .func (PySem.W.fnOf "joined" "joined" (defArgs st_joined) (defBody st_joined) (defScope st_joined) .none kV20 dc20 pm20 an20 cd20 ct20), sl20⟩) (c20 : PySem.W.codeIn K cd20 "joined" = true) (k20 : PySem.W.keepIn K (.ref f20) = true) (l21 : K.lookup f21 = some ⟨oc21, od21, .func (PySem.W.fnOf "chain_of" "chain_of" (defArgs st_chain_of) (defBody st_chain_of) (defScope st_chain_of) .none kV21 dc21 pm21 an21 cd21 ct21), sl21⟩)
    (c21 : PySem.W.codeIn K cd21 "chain_of" = true) (k21 : PySem.W.keepIn K (.ref f21) = true) (l22 : K.lookup f22 = some ⟨oc22, od22, .func (PySem.W.fnOf "__init__" "Pattern.__init__" (defArgs st_PatternX_initX) (defBody st_PatternX_initX) (defScope st_PatternX_initX) .none kV22 dc22 pm22 an22 cd22 ct22), sl22⟩) (c22 : PySem.W.codeIn K cd22 "Pattern.__init__" = true)
    (k22 : PySem.W.keepIn K (.ref f22) = true) (l23 : K.lookup f23 = some ⟨oc23, od23, .func (PySem.W.fnOf "_law_sip" "_law_sip" (defArgs st__law_sip) (defBody st__law_sip) (defScope st__law_sip) .none kV23 dc23 pm23 an23 cd23 ct23), sl23⟩) (c23 : PySem.W.codeIn K cd23 "_law_sip" = true) (k23 : PySem.W.keepIn K (.ref f23) = true)
    (l24 : K.lookup f24 = some ⟨oc24, od24, .func (PySem.W.fnOf "_law_pick" "_law_pick" (defArgs st__law_pick) (defBody st__law_pick) (defScope st__law_pick) .none kV24 dc24 pm24 an24 cd24 ct24), sl24⟩) (c24 : PySem.W.codeIn K cd24 "_law_pick" = true) (k24 : PySem.W.keepIn K (.ref f24) = true) (l25 : K.lookup f25 = some ⟨oc25, od25, .func (PySem.W.fnOf "_law_row" "_law_row" (defArgs st__law_row) (defBody st__law_row) (defScope st__law_row) .none kV25 dc25 pm25 an25 cd25 ct25), sl25⟩)
    (c25 : PySem.W.codeIn K cd25 "_law_row" = true) (k25 : PySem.W.keepIn K (.ref f25) = true) (l26 : K.lookup f26 = some ⟨oc26, od26, .func (PySem.W.fnOf "_law_mixed" "_law_mixed" (defArgs st__law_mixed) (defBody st__law_mixed) (defScope st__law_mixed) .none kV26 dc26 pm26 an26 cd26 ct26), sl26⟩) (c26 : PySem.W.codeIn K cd26 "_law_mixed" = true)
    (k26 : PySem.W.keepIn K (.ref f26) = true) (l27 : K.lookup f27 = some ⟨oc27, od27, .func (PySem.W.fnOf "integer_in" "integer_in" (defArgs st_integer_in) (defBody st_integer_in) (defScope st_integer_in) .none kV27 dc27 pm27 an27 cd27 ct27), sl27⟩) (c27 : PySem.W.codeIn K cd27 "integer_in" = true) (k27 : PySem.W.keepIn K (.ref f27) = true)
    (l28 : K.lookup f28 = some ⟨oc28, od28, .func (PySem.W.fnOf "piece_in" "piece_in" (defArgs st_piece_in) (defBody st_piece_in) (defScope st_piece_in) .none kV28 dc28 pm28 an28 cd28 ct28), sl28⟩) (c28 : PySem.W.codeIn K cd28 "piece_in" = true) (k28 : PySem.W.keepIn K (.ref f28) = true) (l29 : K.lookup f29 = some ⟨oc29, od29, .func (PySem.W.fnOf "__init__" "Row.__init__" (defArgs st_RowX_initX) (defBody st_RowX_initX) (defScope st_RowX_initX) .none kV29 dc29 pm29 an29 cd29 ct29), sl29⟩)
    (c29 : PySem.W.codeIn K cd29 "Row.__init__" = true) (k29 : PySem.W.keepIn K (.ref f29) = true) (l30 : K.lookup f30 = some ⟨oc30, od30, .func (PySem.W.fnOf "pattern_in" "pattern_in" (defArgs st_pattern_in) (defBody st_pattern_in) (defScope st_pattern_in) .none kV30 dc30 pm30 an30 cd30 ct30), sl30⟩) (c30 : PySem.W.codeIn K cd30 "pattern_in" = true)
    (k30 : PySem.W.keepIn K (.ref f30) = true) (l31 : K.lookup f31 = some ⟨oc31, od31, .func (PySem.W.fnOf "read" "Pattern.read" (defArgs st_Pattern_read) (defBody st_Pattern_read) (defScope st_Pattern_read) .none kV31 dc31 pm31 an31 cd31 ct31), sl31⟩) (c31 : PySem.W.codeIn K cd31 "Pattern.read" = true) (k31 : PySem.W.keepIn K (.ref f31) = true)
    (l32 : K.lookup f32 = some ⟨oc32, od32, .func (PySem.W.fnOf "_law_words" "_law_words" (defArgs st__law_words) (defBody st__law_words) (defScope st__law_words) .none kV32 dc32 pm32 an32 cd32 ct32), sl32⟩) (c32 : PySem.W.codeIn K cd32 "_law_words" = true) (k32 : PySem.W.keepIn K (.ref f32) = true) (l33 : K.lookup f33 = some ⟨oc33, od33, .func (PySem.W.fnOf "_law_read" "_law_read" (defArgs st__law_read) (defBody st__law_read) (defScope st__law_read) .none kV33 dc33 pm33 an33 cd33 ct33), sl33⟩)
    (c33 : PySem.W.codeIn K cd33 "_law_read" = true) (k33 : PySem.W.keepIn K (.ref f33) = true) (l34 : K.lookup f34 = some ⟨oc34, od34, .func (PySem.W.fnOf "_law_four" "_law_four" (defArgs st__law_four) (defBody st__law_four) (defScope st__law_four) .none kV34 dc34 pm34 an34 cd34 ct34), sl34⟩) (c34 : PySem.W.codeIn K cd34 "_law_four" = true)
    (k34 : PySem.W.keepIn K (.ref f34) = true) (l35 : K.lookup f35 = some ⟨oc35, od35, .func (PySem.W.fnOf "_law_pair" "_law_pair" (defArgs st__law_pair) (defBody st__law_pair) (defScope st__law_pair) .none kV35 dc35 pm35 an35 cd35 ct35), sl35⟩) (c35 : PySem.W.codeIn K cd35 "_law_pair" = true) (k35 : PySem.W.keepIn K (.ref f35) = true)
    (l36 : K.lookup f36 = some ⟨oc36, od36, .func (PySem.W.fnOf "_law_trace" "_law_trace" (defArgs st__law_trace) (defBody st__law_trace) (defScope st__law_trace) .none kV36 dc36 pm36 an36 cd36 ct36), sl36⟩) (c36 : PySem.W.codeIn K cd36 "_law_trace" = true) (k36 : PySem.W.keepIn K (.ref f36) = true) (l37 : K.lookup f37 = some ⟨oc37, od37, .func (PySem.W.fnOf "_law_root_bottom" "_law_root_bottom" (defArgs st__law_root_bottom) (defBody st__law_root_bottom) (defScope st__law_root_bottom) .none kV37 dc37 pm37 an37 cd37 ct37), sl37⟩)
    (c37 : PySem.W.codeIn K cd37 "_law_root_bottom" = true) (k37 : PySem.W.keepIn K (.ref f37) = true) (l38 : K.lookup f38 = some ⟨oc38, od38, .func (PySem.W.fnOf "_law_powers" "_law_powers" (defArgs st__law_powers) (defBody st__law_powers) (defScope st__law_powers) .none kV38 dc38 pm38 an38 cd38 ct38), sl38⟩) (c38 : PySem.W.codeIn K cd38 "_law_powers" = true)
    (k38 : PySem.W.keepIn K (.ref f38) = true) (l39 : K.lookup f39 = some ⟨oc39, od39, .func (PySem.W.fnOf "_law_power_trace" "_law_power_trace" (defArgs st__law_power_trace) (defBody st__law_power_trace) (defScope st__law_power_trace) .none kV39 dc39 pm39 an39 cd39 ct39), sl39⟩) (c39 : PySem.W.codeIn K cd39 "_law_power_trace" = true) (k39 : PySem.W.keepIn K (.ref f39) = true)
    (l40 : K.lookup f40 = some ⟨oc40, od40, .func (PySem.W.fnOf "_law_is_power" "_law_is_power" (defArgs st__law_is_power) (defBody st__law_is_power) (defScope st__law_is_power) .none kV40 dc40 pm40 an40 cd40 ct40), sl40⟩) (c40 : PySem.W.codeIn K cd40 "_law_is_power" = true) (k40 : PySem.W.keepIn K (.ref f40) = true) (l41 : K.lookup f41 = some ⟨oc41, od41, .func (PySem.W.fnOf "_law_right" "_law_right" (defArgs st__law_right) (defBody st__law_right) (defScope st__law_right) .none kV41 dc41 pm41 an41 cd41 ct41), sl41⟩)
    (c41 : PySem.W.codeIn K cd41 "_law_right" = true) (k41 : PySem.W.keepIn K (.ref f41) = true) (l42 : K.lookup f42 = some ⟨oc42, od42, .func (PySem.W.fnOf "_law_cup" "_law_cup" (defArgs st__law_cup) (defBody st__law_cup) (defScope st__law_cup) .none kV42 dc42 pm42 an42 cd42 ct42), sl42⟩) (c42 : PySem.W.codeIn K cd42 "_law_cup" = true)
    (k42 : PySem.W.keepIn K (.ref f42) = true) (l43 : K.lookup f43 = some ⟨oc43, od43, .func (PySem.W.fnOf "law" "law" (defArgs st_law) (defBody st_law) (defScope st_law) .none kV43 dc43 pm43 an43 cd43 ct43), sl43⟩) (c43 : PySem.W.codeIn K cd43 "law" = true) (k43 : PySem.W.keepIn K (.ref f43) = true)
    (z_abs : PySem.W.nsIn K mainGlobals "abs" = some none) (z_all : PySem.W.nsIn K mainGlobals "all" = some none) (z_any : PySem.W.nsIn K mainGlobals "any" = some none) (z_bool : PySem.W.nsIn K mainGlobals "bool" = some none)
    (z_divmod : PySem.W.nsIn K mainGlobals "divmod" = some none) (z_enumerate : PySem.W.nsIn K mainGlobals "enumerate" = some none) (z_int : PySem.W.nsIn K mainGlobals "int" = some none) (z_isinstance : PySem.W.nsIn K mainGlobals "isinstance" = some none)
    (z_len : PySem.W.nsIn K mainGlobals "len" = some none) (z_max : PySem.W.nsIn K mainGlobals "max" = some none) (z_min : PySem.W.nsIn K mainGlobals "min" = some none) (z_range : PySem.W.nsIn K mainGlobals "range" = some none)
    (z_repr : PySem.W.nsIn K mainGlobals "repr" = some none) (z_str : PySem.W.nsIn K mainGlobals "str" = some none) (z_tuple : PySem.W.nsIn K mainGlobals "tuple" = some none) (v_MOST_PIECES : PySem.W.nsIn K mainGlobals "MOST_PIECES" = some (some (.int  4 t_MOST_PIECES)))
    (v_MOST_OHMS : PySem.W.nsIn K mainGlobals "MOST_OHMS" = some (some (.int  12 t_MOST_OHMS))) (v_WORDS : PySem.W.nsIn K mainGlobals "WORDS" = some (some (.ref T_WORDS))) (w_WORDS : K.lookup T_WORDS = some ⟨.type "tuple", o_WORDS, .seq its_WORDS u_WORDS, sl_WORDS⟩) (r_WORDS : Vals [V.str "rail", V.str "rung"] its_WORDS.toList)
    (v_NOTHING : PySem.W.nsIn K mainGlobals "NOTHING" = some (some (.ref T_NOTHING))) (w_NOTHING : K.lookup T_NOTHING = some ⟨.type "tuple", o_NOTHING, .seq its_NOTHING u_NOTHING, sl_NOTHING⟩) (r_NOTHING : Vals [V.int 1, V.int 0, V.int 0, V.int 1] its_NOTHING.toList) (v_DIGITS : PySem.W.nsIn K mainGlobals "DIGITS" = some (some (.str  "0123456789" t_DIGITS)))
    (v_MOST_DIGITS : PySem.W.nsIn K mainGlobals "MOST_DIGITS" = some (some (.int  13 t_MOST_DIGITS))) (v_MOST_JOINED : PySem.W.nsIn K mainGlobals "MOST_JOINED" = some (some (.int  8 t_MOST_JOINED))) (ihn : PySem.W.specialIn K (.builtin "object.__class__") "__get__" = some (some (.builtin "getset_descriptor.__get__"))) (iht : PySem.W.takesIn K (.builtin "object.__class__") = some true)
    (ic0 : PySem.W.isClsIn K C0 = true) (ty0 : PySem.W.typeIn K (.ref C0) = some (.type "type")) (kk0_0 : PySem.W.subIn K (.ref C0) (.ref C0) = some true) (kk0_1 : PySem.W.subIn K (.ref C0) (.ref C1) = some false)
    (ct0_none_ : PySem.W.subIn K (.ref C0) (.type "NoneType") = some false) (tc0_none_ : PySem.W.subIn K (.type "NoneType") (.ref C0) = some false) (ct0_bool : PySem.W.subIn K (.ref C0) (.type "bool") = some false) (tc0_bool : PySem.W.subIn K (.type "bool") (.ref C0) = some false)
    (ct0_int : PySem.W.subIn K (.ref C0) (.type "int") = some false) (tc0_int : PySem.W.subIn K (.type "int") (.ref C0) = some false) (ct0_str : PySem.W.subIn K (.ref C0) (.type "str") = some false) (tc0_str : PySem.W.subIn K (.type "str") (.ref C0) = some false)
    (ct0_tuple : PySem.W.subIn K (.ref C0) (.type "tuple") = some false) (tc0_tuple : PySem.W.subIn K (.type "tuple") (.ref C0) = some false) (ct0_list : PySem.W.subIn K (.ref C0) (.type "list") = some false) (tc0_list : PySem.W.subIn K (.type "list") (.ref C0) = some false)
    (ct0_dict : PySem.W.subIn K (.ref C0) (.type "dict") = some false) (tc0_dict : PySem.W.subIn K (.type "dict") (.ref C0) = some false) (ic1 : PySem.W.isClsIn K C1 = true) (ty1 : PySem.W.typeIn K (.ref C1) = some (.type "type"))
    (kk1_1 : PySem.W.subIn K (.ref C1) (.ref C1) = some true) (kk1_0 : PySem.W.subIn K (.ref C1) (.ref C0) = some false) (ct1_none_ : PySem.W.subIn K (.ref C1) (.type "NoneType") = some false) (tc1_none_ : PySem.W.subIn K (.type "NoneType") (.ref C1) = some false)
    (ct1_bool : PySem.W.subIn K (.ref C1) (.type "bool") = some false) (tc1_bool : PySem.W.subIn K (.type "bool") (.ref C1) = some false) (ct1_int : PySem.W.subIn K (.ref C1) (.type "int") = some false) (tc1_int : PySem.W.subIn K (.type "int") (.ref C1) = some false)
    (ct1_str : PySem.W.subIn K (.ref C1) (.type "str") = some false) (tc1_str : PySem.W.subIn K (.type "str") (.ref C1) = some false) (ct1_tuple : PySem.W.subIn K (.ref C1) (.type "tuple") = some false) (tc1_tuple : PySem.W.subIn K (.type "tuple") (.ref C1) = some false)
    (ct1_list : PySem.W.subIn K (.ref C1) (.type "list") = some false) (tc1_list : PySem.W.subIn K (.type "list") (.ref C1) = some false) (ct1_dict : PySem.W.subIn K (.ref C1) (.type "dict") = some false) (tc1_dict : PySem.W.subIn K (.type "dict") (.ref C1) = some false)
    : ∃ G : Sg, G.K = K ∧ ∀ base : Heap, K.In base → base.Ns mainGlobals mg → FnA l.prog w K mg base G 20 fa sem_law := by
  have e := hfa.symm.trans (PySem.W.mg_of X G a43)
  cases e
  refine ⟨GG K (adOf [(1000, C0), (1001, C1), (0, f0), (1, f1), (2, f2), (3, f3), (4, f4), (5, f5), (6, f6), (7, f7), (8, f8), (9, f9), (10, f10), (11, f11), (12, f12), (13, f13), (14, f14), (15, f15), (16, f16), (17, f17), (18, f18), (19, f19), (20, f20), (21, f21), (22, f22), (23, f23), (24, f24), (25, f25), (26, f26), (27, f27), (28, f28), (29, f29), (30, f30), (31, f31), (32, f32), (33, f33), (34, f34), (35, f35), (36, f36), (37, f37), (38, f38), (39, f39), (40, f40), (41, f41), (42, f42), (43, fa)]), rfl, fun base _ _ => ?_⟩
  have T : Facts l.prog w K mg base (adOf [(1000, C0), (1001, C1), (0, f0), (1, f1), (2, f2), (3, f3), (4, f4), (5, f5), (6, f6), (7, f7), (8, f8), (9, f9), (10, f10), (11, f11), (12, f12), (13, f13), (14, f14), (15, f15), (16, f16), (17, f17), (18, f18), (19, f19), (20, f20), (21, f21), (22, f22), (23, f23), (24, f24), (25, f25), (26, f26), (27, f27), (28, f28), (29, f29), (30, f30), (31, f31), (32, f32), (33, f33), (34, f34), (35, f35), (36, f36), (37, f37), (38, f38), (39, f39), (40, f40), (41, f41), (42, f42), (43, fa)]) :=
    { k_Row := PySem.W.mg_of X G nC0
      cl_Row := ⟨pgC0, hdC0, poC0, saC0⟩
      na_Row_told := naC0_told
      k_Pattern := PySem.W.mg_of X G nC1
      cl_Pattern := ⟨pgC1, hdC1, poC1, saC1⟩
      na_Pattern_row := naC1_row
      na_Pattern_chain := naC1_chain
      na_Pattern_scale := naC1_scale
      g_check_pattern := PySem.W.mg_of X G a0
      g_is_rungs := PySem.W.mg_of X G a1
      g_is_rails := PySem.W.mg_of X G a2
      g_common := PySem.W.mg_of X G a3
      g_lowest := PySem.W.mg_of X G a4
      g_row_of := PySem.W.mg_of X G a5
      g_star_of := PySem.W.mg_of X G a6
      g_star := PySem.W.mg_of X G a7
      g_power_of := PySem.W.mg_of X G a8
      g_stairs := PySem.W.mg_of X G a9
      g_trace_of_power := PySem.W.mg_of X G a10
      g_may_be := PySem.W.mg_of X G a11
      g_root_of_power := PySem.W.mg_of X G a12
      g_trace_root := PySem.W.mg_of X G a13
      g_root_row := PySem.W.mg_of X G a14
      g_repetition := PySem.W.mg_of X G a15
      g_is_integer := PySem.W.mg_of X G a16
      g_is_between := PySem.W.mg_of X G a17
      g_is_piece := PySem.W.mg_of X G a18
      g_check_pieces := PySem.W.mg_of X G a19
      g_joined := PySem.W.mg_of X G a20
      g_chain_of := PySem.W.mg_of X G a21
      g__law_sip := PySem.W.mg_of X G a23
      g__law_pick := PySem.W.mg_of X G a24
      g__law_row := PySem.W.mg_of X G a25
      g__law_mixed := PySem.W.mg_of X G a26
      g_integer_in := PySem.W.mg_of X G a27
      g_piece_in := PySem.W.mg_of X G a28
      g_pattern_in := PySem.W.mg_of X G a30
      g__law_words := PySem.W.mg_of X G a32
      g__law_read := PySem.W.mg_of X G a33
      g__law_four := PySem.W.mg_of X G a34
      g__law_pair := PySem.W.mg_of X G a35
      g__law_trace := PySem.W.mg_of X G a36
      g__law_root_bottom := PySem.W.mg_of X G a37
      g__law_powers := PySem.W.mg_of X G a38
      g__law_power_trace := PySem.W.mg_of X G a39
      g__law_is_power := PySem.W.mg_of X G a40
      g__law_right := PySem.W.mg_of X G a41
      g__law_cup := PySem.W.mg_of X G a42
      g_law := PySem.W.mg_of X G a43
      m_Pattern := ⟨mkC1, a22_1, i22, kpC1⟩
      m_Row := ⟨mkC0, a29_0, i29, kpC0⟩
      s_Pattern_read := ⟨_, _, _, ⟨b31, d31⟩, a31, e31⟩
      f_check_pattern := ⟨_, fun_mk (st := st_check_pattern) l0 c0 k0⟩
      f_is_rungs := ⟨_, fun_mk (st := st_is_rungs) l1 c1 k1⟩
      f_is_rails := ⟨_, fun_mk (st := st_is_rails) l2 c2 k2⟩
      f_common := ⟨_, fun_mk (st := st_common) l3 c3 k3⟩
      f_lowest := ⟨_, fun_mk (st := st_lowest) l4 c4 k4⟩
      f_row_of := ⟨_, fun_mk (st := st_row_of) l5 c5 k5⟩
      f_star_of := ⟨_, fun_mk (st := st_star_of) l6 c6 k6⟩
      f_star := ⟨_, fun_mk (st := st_star) l7 c7 k7⟩
      f_power_of := ⟨_, fun_mk (st := st_power_of) l8 c8 k8⟩
      f_stairs := ⟨_, fun_mk (st := st_stairs) l9 c9 k9⟩
      f_trace_of_power := ⟨_, fun_mk (st := st_trace_of_power) l10 c10 k10⟩
      f_may_be := ⟨_, fun_mk (st := st_may_be) l11 c11 k11⟩
      f_root_of_power := ⟨_, fun_mk (st := st_root_of_power) l12 c12 k12⟩
      f_trace_root := ⟨_, fun_mk (st := st_trace_root) l13 c13 k13⟩
      f_root_row := ⟨_, fun_mk (st := st_root_row) l14 c14 k14⟩
      f_repetition := ⟨_, fun_mk (st := st_repetition) l15 c15 k15⟩
      f_is_integer := ⟨_, fun_mk (st := st_is_integer) l16 c16 k16⟩
      f_is_between := ⟨_, fun_mk (st := st_is_between) l17 c17 k17⟩
      f_is_piece := ⟨_, fun_mk (st := st_is_piece) l18 c18 k18⟩
      f_check_pieces := ⟨_, fun_mk (st := st_check_pieces) l19 c19 k19⟩
      f_joined := ⟨_, fun_mk (st := st_joined) l20 c20 k20⟩
      f_chain_of := ⟨_, fun_mk (st := st_chain_of) l21 c21 k21⟩
      f_PatternX_initX := ⟨_, fun_mk (st := st_PatternX_initX) l22 c22 k22⟩
      f__law_sip := ⟨_, fun_mk (st := st__law_sip) l23 c23 k23⟩
      f__law_pick := ⟨_, fun_mk (st := st__law_pick) l24 c24 k24⟩
      f__law_row := ⟨_, fun_mk (st := st__law_row) l25 c25 k25⟩
      f__law_mixed := ⟨_, fun_mk (st := st__law_mixed) l26 c26 k26⟩
      f_integer_in := ⟨_, fun_mk (st := st_integer_in) l27 c27 k27⟩
      f_piece_in := ⟨_, fun_mk (st := st_piece_in) l28 c28 k28⟩
      f_RowX_initX := ⟨_, fun_mk (st := st_RowX_initX) l29 c29 k29⟩
      f_pattern_in := ⟨_, fun_mk (st := st_pattern_in) l30 c30 k30⟩
      f_Pattern_read := ⟨_, fun_mk (st := st_Pattern_read) l31 c31 k31⟩
      f__law_words := ⟨_, fun_mk (st := st__law_words) l32 c32 k32⟩
      f__law_read := ⟨_, fun_mk (st := st__law_read) l33 c33 k33⟩
      f__law_four := ⟨_, fun_mk (st := st__law_four) l34 c34 k34⟩
      f__law_pair := ⟨_, fun_mk (st := st__law_pair) l35 c35 k35⟩
      f__law_trace := ⟨_, fun_mk (st := st__law_trace) l36 c36 k36⟩
      f__law_root_bottom := ⟨_, fun_mk (st := st__law_root_bottom) l37 c37 k37⟩
      f__law_powers := ⟨_, fun_mk (st := st__law_powers) l38 c38 k38⟩
      f__law_power_trace := ⟨_, fun_mk (st := st__law_power_trace) l39 c39 k39⟩
      f__law_is_power := ⟨_, fun_mk (st := st__law_is_power) l40 c40 k40⟩
      f__law_right := ⟨_, fun_mk (st := st__law_right) l41 c41 k41⟩
      f__law_cup := ⟨_, fun_mk (st := st__law_cup) l42 c42 k42⟩
      f_law := ⟨_, fun_mk (st := st_law) l43 c43 k43⟩
      z_abs := PySem.W.mg_none_of X G z_abs
      z_all := PySem.W.mg_none_of X G z_all
      z_any := PySem.W.mg_none_of X G z_any
      z_bool := PySem.W.mg_none_of X G z_bool
      z_divmod := PySem.W.mg_none_of X G z_divmod
      z_enumerate := PySem.W.mg_none_of X G z_enumerate
      z_int := PySem.W.mg_none_of X G z_int
      z_isinstance := PySem.W.mg_none_of X G z_isinstance
      z_len := PySem.W.mg_none_of X G z_len
      z_max := PySem.W.mg_none_of X G z_max
      z_min := PySem.W.mg_none_of X G z_min
      z_range := PySem.W.mg_none_of X G z_range
      z_repr := PySem.W.mg_none_of X G z_repr
      z_str := PySem.W.mg_none_of X G z_str
      z_tuple := PySem.W.mg_none_of X G z_tuple
      c_MOST_PIECES := glob_int (PySem.W.mg_of X G v_MOST_PIECES)
      c_MOST_OHMS := glob_int (PySem.W.mg_of X G v_MOST_OHMS)
      c_WORDS := glob_tup (PySem.W.mg_of X G v_WORDS) ⟨_, _, _, w_WORDS, rfl, rfl, (by have := r_WORDS.length; rw [← Array.length_toList, ← this]; decide), r_WORDS⟩ (fun _ => ⟨_, _, rfl, rfl, ⟨_, _, rfl, rfl, rfl⟩⟩)
      c_NOTHING := glob_tup (PySem.W.mg_of X G v_NOTHING) ⟨_, _, _, w_NOTHING, rfl, rfl, (by have := r_NOTHING.length; rw [← Array.length_toList, ← this]; decide), r_NOTHING⟩ (fun _ => ⟨_, _, rfl, rfl, ⟨_, _, rfl, rfl, ⟨_, _, rfl, rfl, ⟨_, _, rfl, rfl, rfl⟩⟩⟩⟩)
      c_DIGITS := glob_str (PySem.W.mg_of X G v_DIGITS)
      c_MOST_DIGITS := glob_int (PySem.W.mg_of X G v_MOST_DIGITS)
      c_MOST_JOINED := glob_int (PySem.W.mg_of X G v_MOST_JOINED)
      isa := fun Y hY => by
        subst hY
        refine ⟨fun c hc => ?_, ihn, iht, fun c c' b hb => ?_, fun c t hc => ?_, fun t c hc => ?_⟩
        · have hc := of_decide_eq_true hc
          simp only [List.mem_cons, List.mem_nil_iff, or_false] at hc
          rcases hc with rfl | rfl
          · exact ⟨⟨pgC0, hdC0, poC0, saC0⟩, ccC0, moC0⟩
          · exact ⟨⟨pgC1, hdC1, poC1, saC1⟩, ccC1, moC1⟩
        · split at hb
          · next hh =>
            obtain ⟨h1, h2⟩ := hh
            simp only [List.mem_cons, List.mem_nil_iff, or_false] at h1 h2
            rcases h1 with rfl | rfl <;> rcases h2 with rfl | rfl <;> cases hb
            · exact Ev.kit_cc ic1 ty1 kk0_1 kk1_1
            · exact Ev.kit_cc ic0 ty0 kk0_0 kk0_0
            · exact Ev.kit_cc ic1 ty1 kk1_1 kk1_1
            · exact Ev.kit_cc ic0 ty0 kk1_0 kk0_0
          · cases hb
        · have hc := of_decide_eq_true hc
          simp only [List.mem_cons, List.mem_nil_iff, or_false] at hc
          rcases hc with rfl | rfl <;> cases t
          · exact Ev.kit_ct (by decide +kernel) ct0_none_
          · exact Ev.kit_ct (by decide +kernel) ct0_bool
          · exact Ev.kit_ct (by decide +kernel) ct0_int
          · exact Ev.kit_ct (by decide +kernel) ct0_str
          · exact Ev.kit_ct (by decide +kernel) ct0_tuple
          · exact Ev.kit_ct (by decide +kernel) ct0_list
          · exact Ev.kit_ct (by decide +kernel) ct0_dict
          · exact Ev.kit_ct (by decide +kernel) ct1_none_
          · exact Ev.kit_ct (by decide +kernel) ct1_bool
          · exact Ev.kit_ct (by decide +kernel) ct1_int
          · exact Ev.kit_ct (by decide +kernel) ct1_str
          · exact Ev.kit_ct (by decide +kernel) ct1_tuple
          · exact Ev.kit_ct (by decide +kernel) ct1_list
          · exact Ev.kit_ct (by decide +kernel) ct1_dict
        · have hc := of_decide_eq_true hc
          simp only [List.mem_cons, List.mem_nil_iff, or_false] at hc
          rcases hc with rfl | rfl <;> cases t
          · exact Ev.kit_cc ic0 ty0 tc0_none_ kk0_0
          · exact Ev.kit_cc ic0 ty0 tc0_bool kk0_0
          · exact Ev.kit_cc ic0 ty0 tc0_int kk0_0
          · exact Ev.kit_cc ic0 ty0 tc0_str kk0_0
          · exact Ev.kit_cc ic0 ty0 tc0_tuple kk0_0
          · exact Ev.kit_cc ic0 ty0 tc0_list kk0_0
          · exact Ev.kit_cc ic0 ty0 tc0_dict kk0_0
          · exact Ev.kit_cc ic1 ty1 tc1_none_ kk1_1
          · exact Ev.kit_cc ic1 ty1 tc1_bool kk1_1
          · exact Ev.kit_cc ic1 ty1 tc1_int kk1_1
          · exact Ev.kit_cc ic1 ty1 tc1_str kk1_1
          · exact Ev.kit_cc ic1 ty1 tc1_tuple kk1_1
          · exact Ev.kit_cc ic1 ty1 tc1_list kk1_1
          · exact Ev.kit_cc ic1 ty1 tc1_dict kk1_1 }
  exact ok_law T
end K35
def PySem.W.Fast.tw2600415171479634368 : Nat := 0
def PySem.W.Fast.tw18242590534059596416 : Nat := 0
def PySem.W.Fast.tw7151175233850052546 : Nat := 0
def PySem.W.Fast.tw17929701247296750211 : Nat := 0
def PySem.W.Fast.tw1381679561343298564 : Nat := 0
def PySem.W.Fast.tw6621045129630720038 : Nat := 0
def PySem.W.Fast.tw8737455382189351782 : Nat := 0
def PySem.W.Fast.tw1665613775752649768 : Nat := 0
def PySem.W.Fast.tw3062437312972649512 : Nat := 0
def PySem.W.Fast.tw15440841761745800329 : Nat := 0
def PySem.W.Fast.tw14458914081528094896 : Nat := 0
def PySem.W.Fast.tw14228724655217701937 : Nat := 0
def PySem.W.Fast.tw13631244134622158898 : Nat := 0
def PySem.W.Fast.tw7407017085399501138 : Nat := 0
def PySem.W.Fast.tw12392033507838628949 : Nat := 0
def PySem.W.Fast.tw16934659586706798459 : Nat := 0
def PySem.W.Fast.tw13499725478611602460 : Nat := 0
def PySem.W.Fast.tw12645760987453755421 : Nat := 0
def PySem.W.Fast.tw13453331354733657150 : Nat := 0
open PySem PySem.W PyProof.Rows
set_option maxHeartbeats 0 in
theorem PySem.Challenge.cw_rungladders_k35_whole_repetitions_are_th_holds : PySem.Challenge.rw_rungladders_k35_whole_repetitions_are_th.Holds := by
  w_on; o_law; k_head; (case hw => w_witness2)
  k_fill
  refine Ev.end_walk (l := PySem.Challenge.rw_rungladders_k35_whole_repetitions_are_th) (n := 63) (k := 20) rfl (by decide) rfl ⟨rfl, by decide, by decide⟩ (fun w h Y => PySem.W.kIn_of Y) ?F K35.law_true
  case F =>
    intro w mg fa h KX G hmg
    refine' K35.all_mk KX G hmg ?nC0 ?pgC0 ?hdC0 ?poC0 ?saC0 ?ccC0 ?moC0 ?naC0_told ?nC1 ?pgC1 ?hdC1 ?poC1 ?saC1 ?ccC1 ?moC1 ?naC1_row ?naC1_chain ?naC1_scale ?a0 ?a1 ?a2 ?a3 ?a4 ?a5 ?a6 ?a7 ?a8 ?a9 ?a10 ?a11 ?a12 ?a13 ?a14 ?a15 ?a16 ?a17 ?a18 ?a19 ?a20 ?a21 ?a23 ?a24 ?a25 ?a26 ?a27 ?a28 ?a30 ?a32 ?a33 ?a34 ?a35 ?a36 ?a37 ?a38 ?a39 ?a40 ?a41 ?a42 ?a43 ?a22_1 ?mkC1 ?kpC1 ?i22 ?a29_0 ?mkC0 ?kpC0 ?i29 ?t31 ?b31 ?d31 ?a31 ?e31 ?l0 ?c0 ?k0 ?l1 ?c1 ?k1 ?l2 ?c2 ?k2 ?l3 ?c3 ?k3 ?l4 ?c4 ?k4 ?l5 ?c5 ?k5 ?l6 ?c6 ?k6 ?l7 ?c7 ?k7 ?l8 ?c8 ?k8 ?l9 ?c9 ?k9 ?l10 ?c10 ?k10 ?l11 ?c11 ?k11 ?l12 ?c12 ?k12 ?l13 ?c13 ?k13 ?l14 ?c14 ?k14 ?l15 ?c15 ?k15 ?l16 ?c16 ?k16 ?l17 ?c17 ?k17 ?l18 ?c18 ?k18 ?l19 ?c19 ?k19 ?l20 ?c20 ?k20 ?l21 ?c21 ?k21 ?l22 ?c22 ?k22 ?l23 ?c23 ?k23 ?l24 ?c24 ?k24 ?l25 ?c25 ?k25 ?l26 ?c26 ?k26 ?l27 ?c27 ?k27 ?l28 ?c28 ?k28 ?l29 ?c29 ?k29 ?l30 ?c30 ?k30 ?l31 ?c31 ?k31 ?l32 ?c32 ?k32 ?l33 ?c33 ?k33 ?l34 ?c34 ?k34 ?l35 ?c35 ?k35 ?l36 ?c36 ?k36 ?l37 ?c37 ?k37 ?l38 ?c38 ?k38 ?l39 ?c39 ?k39 ?l40 ?c40 ?k40 ?l41 ?c41 ?k41 ?l42 ?c42 ?k42 ?l43 ?c43 ?k43 ?z_abs ?z_all ?z_any ?z_bool ?z_divmod ?z_enumerate ?z_int ?z_isinstance ?z_len ?z_max ?z_min ?z_range ?z_repr ?z_str ?z_tuple ?v_MOST_PIECES ?v_MOST_OHMS ?v_WORDS ?w_WORDS ?r_WORDS ?v_NOTHING ?w_NOTHING ?r_NOTHING ?v_DIGITS ?v_MOST_DIGITS ?v_MOST_JOINED ?ihn ?iht ?ic0 ?ty0 ?kk0_0 ?kk0_1 ?ct0_none_ ?tc0_none_ ?ct0_bool ?tc0_bool ?ct0_int ?tc0_int ?ct0_str ?tc0_str ?ct0_tuple ?tc0_tuple ?ct0_list ?tc0_list ?ct0_dict ?tc0_dict ?ic1 ?ty1 ?kk1_1 ?kk1_0 ?ct1_none_ ?tc1_none_ ?ct1_bool ?tc1_bool ?ct1_int ?tc1_int ?ct1_str ?tc1_str ?ct1_tuple ?tc1_tuple ?ct1_list ?tc1_list ?ct1_dict ?tc1_dict
    (case nC0 => k_is); (case nC1 => k_is); (case pgC0 => k_is); (case hdC0 => k_is); (case poC0 => k_is); (case saC0 => k_is)
    (case ccC0 => k_is); (case moC0 => k_is); (case naC0_told => k_is); (case pgC1 => k_is); (case hdC1 => k_is); (case poC1 => k_is)
    (case saC1 => k_is); (case ccC1 => k_is); (case moC1 => k_is); (case naC1_row => k_is); (case naC1_chain => k_is); (case naC1_scale => k_is)
    (case a0 => k_is); (case a1 => k_is); (case a2 => k_is); (case a3 => k_is); (case a4 => k_is); (case a5 => k_is)
    (case a6 => k_is); (case a7 => k_is); (case a8 => k_is); (case a9 => k_is); (case a10 => k_is); (case a11 => k_is)
    (case a12 => k_is); (case a13 => k_is); (case a14 => k_is); (case a15 => k_is); (case a16 => k_is); (case a17 => k_is)
    (case a18 => k_is); (case a19 => k_is); (case a20 => k_is); (case a21 => k_is); (case a23 => k_is); (case a24 => k_is)
    (case a25 => k_is); (case a26 => k_is); (case a27 => k_is); (case a28 => k_is); (case a30 => k_is); (case a32 => k_is)
    (case a33 => k_is); (case a34 => k_is); (case a35 => k_is); (case a36 => k_is); (case a37 => k_is); (case a38 => k_is)
    (case a39 => k_is); (case a40 => k_is); (case a41 => k_is); (case a42 => k_is); (case a43 => k_is); (case a22_1 => k_is)
    (case mkC1 => k_is); (case kpC1 => k_is); (case i22 => k_is); (case a29_0 => k_is); (case mkC0 => k_is); (case kpC0 => k_is)
    (case i29 => k_is); (case t31 => k_is); (case b31 => k_is); (case d31 => k_is); (case a31 => k_is); (case e31 => k_is)
    (case l0 => k_is); (case c0 => k_is); (case k0 => k_is); (case l1 => k_is); (case c1 => k_is); (case k1 => k_is)
    (case l2 => k_is); (case c2 => k_is); (case k2 => k_is); (case l3 => k_is); (case c3 => k_is); (case k3 => k_is)
    (case l4 => k_is); (case c4 => k_is); (case k4 => k_is); (case l5 => k_is); (case c5 => k_is); (case k5 => k_is)
    (case l6 => k_is); (case c6 => k_is); (case k6 => k_is); (case l7 => k_is); (case c7 => k_is); (case k7 => k_is)
    (case l8 => k_is); (case c8 => k_is); (case k8 => k_is); (case l9 => k_is); (case c9 => k_is); (case k9 => k_is)
    (case l10 => k_is); (case c10 => k_is); (case k10 => k_is); (case l11 => k_is); (case c11 => k_is); (case k11 => k_is)
    (case l12 => k_is); (case c12 => k_is); (case k12 => k_is); (case l13 => k_is); (case c13 => k_is); (case k13 => k_is)
    (case l14 => k_is); (case c14 => k_is); (case k14 => k_is); (case l15 => k_is); (case c15 => k_is); (case k15 => k_is)
    (case l16 => k_is); (case c16 => k_is); (case k16 => k_is); (case l17 => k_is); (case c17 => k_is); (case k17 => k_is)
    (case l18 => k_is); (case c18 => k_is); (case k18 => k_is); (case l19 => k_is); (case c19 => k_is); (case k19 => k_is)
    (case l20 => k_is); (case c20 => k_is); (case k20 => k_is); (case l21 => k_is); (case c21 => k_is); (case k21 => k_is)
    (case l22 => k_is); (case c22 => k_is); (case k22 => k_is); (case l23 => k_is); (case c23 => k_is); (case k23 => k_is)
    (case l24 => k_is); (case c24 => k_is); (case k24 => k_is); (case l25 => k_is); (case c25 => k_is); (case k25 => k_is)
    (case l26 => k_is); (case c26 => k_is); (case k26 => k_is); (case l27 => k_is); (case c27 => k_is); (case k27 => k_is)
    (case l28 => k_is); (case c28 => k_is); (case k28 => k_is); (case l29 => k_is); (case c29 => k_is); (case k29 => k_is)
    (case l30 => k_is); (case c30 => k_is); (case k30 => k_is); (case l31 => k_is); (case c31 => k_is); (case k31 => k_is)
    (case l32 => k_is); (case c32 => k_is); (case k32 => k_is); (case l33 => k_is); (case c33 => k_is); (case k33 => k_is)
    (case l34 => k_is); (case c34 => k_is); (case k34 => k_is); (case l35 => k_is); (case c35 => k_is); (case k35 => k_is)
    (case l36 => k_is); (case c36 => k_is); (case k36 => k_is); (case l37 => k_is); (case c37 => k_is); (case k37 => k_is)
    (case l38 => k_is); (case c38 => k_is); (case k38 => k_is); (case l39 => k_is); (case c39 => k_is); (case k39 => k_is)
    (case l40 => k_is); (case c40 => k_is); (case k40 => k_is); (case l41 => k_is); (case c41 => k_is); (case k41 => k_is)
    (case l42 => k_is); (case c42 => k_is); (case k42 => k_is); (case l43 => k_is); (case c43 => k_is); (case k43 => k_is)
    (case z_abs => k_is); (case z_all => k_is); (case z_any => k_is); (case z_bool => k_is); (case z_divmod => k_is); (case z_enumerate => k_is)
    (case z_int => k_is); (case z_isinstance => k_is); (case z_len => k_is); (case z_max => k_is); (case z_min => k_is); (case z_range => k_is)
    (case z_repr => k_is); (case z_str => k_is); (case z_tuple => k_is); (case v_MOST_PIECES => k_is); (case v_MOST_OHMS => k_is); (case v_WORDS => k_is)
    (case w_WORDS => k_is); (case r_WORDS => repeat first | exact .nil | refine .cons ⟨_, rfl⟩ ?_); (case v_NOTHING => k_is); (case w_NOTHING => k_is); (case r_NOTHING => repeat first | exact .nil | refine .cons ⟨_, rfl⟩ ?_); (case v_DIGITS => k_is)
    (case v_MOST_DIGITS => k_is); (case v_MOST_JOINED => k_is); (case ihn => k_is); (case iht => k_is); (case ic0 => k_is); (case ty0 => k_is)
    (case kk0_0 => k_is); (case kk0_1 => k_is); (case ct0_none_ => k_is); (case tc0_none_ => k_is); (case ct0_bool => k_is); (case tc0_bool => k_is)
    (case ct0_int => k_is); (case tc0_int => k_is); (case ct0_str => k_is); (case tc0_str => k_is); (case ct0_tuple => k_is); (case tc0_tuple => k_is)
    (case ct0_list => k_is); (case tc0_list => k_is); (case ct0_dict => k_is); (case tc0_dict => k_is); (case ic1 => k_is); (case ty1 => k_is)
    (case kk1_1 => k_is); (case kk1_0 => k_is); (case ct1_none_ => k_is); (case tc1_none_ => k_is); (case ct1_bool => k_is); (case tc1_bool => k_is)
    (case ct1_int => k_is); (case tc1_int => k_is); (case ct1_str => k_is); (case tc1_str => k_is); (case ct1_tuple => k_is); (case tc1_tuple => k_is)
    (case ct1_list => k_is); (case tc1_list => k_is); (case ct1_dict => k_is); (case tc1_dict => k_is)
