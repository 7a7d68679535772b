import PyProof.Rows.All
import Wide.All
import OpenK.AllK
import Wide.FinOn
import HandS.Text
import HandS.Comp
import HandS.Iter
import HandS.Ends
import HandS.ExcOwn
import HandS.WideBits
import HandS.Wide
import HandS.TupAny
import HandS.TupMul
import HandS.Words
import HandS.Property
import HandS.TryOnly
import HandS.IsInst
import HandS.FStr
import HandS.RaiseMore
import PyProof.ReprRoads
import HandS.Deep
import HandS.Style
import HandS.Star
import HandS.ClsMeth
import HandS.SlotsOwn
import KE.GoesEnum
import HandS.EndBits
import PyProof.InstNe
import KE.KCallOwn
import KE.KFmtOwn
import HandS.Nested
import KE.KSuper
import HandS.Flt
import KE.DatumOrd
import HandS.More
import PyProof.NeKinds
import HandS.GenList
import PyProof.FactsAll.dict
import HandS.HeadHook3
import KE.RegKSuper
import HandS.Zip
import HandS.SortInts
import PyProof.SliceList
import PyProof.P3In
import HandS.Small
import PyProof.Rows.Range3
import PyProof.EqAt
import PyProof.StrLawsRepr
import PySem.Challenge.RW_rungladders_k06_sets_of_numbers_made
set_option Elab.async false
set_option linter.all false
local macro_rules | `(tactic| leaf_len) => `(tactic| first | exact Or.inl rfl | exact Or.inr (Or.inl rfl) | exact Or.inr (Or.inr rfl))
local macro_rules | `(tactic| mem_news) => `(tactic| first | exact Or.inl rfl | exact Or.inr rfl)
set_option maxRecDepth 100000
set_option maxHeartbeats 0
namespace Hk
open PySem PySem.W
noncomputable def pk (os : List Obj) : List Nat → Nat → List (Option Obj) :=
  List.rec (motive := fun _ => List Nat → Nat → List (Option Obj)) (fun _ _ => []) (fun o _ ih as i => match as with
    | [] => []
    | a :: as' => match Nat.beq a i with
      | true => alive o :: ih as' (Nat.succ i)
      | false => ih (a :: as') (Nat.succ i)) os
theorem pk_of : ∀ (os : List Obj) (as : List Nat) (i : Nat) (pre : List Obj), pre.length = i → (pk os as i).length = as.length → as.map (fun a => (pre ++ os)[a]?.bind alive) = pk os as i
  | [], as, i, pre, _, h => by
    have h : 0 = as.length := h
    obtain rfl : as = [] := List.length_eq_zero_iff.mp h.symm
    rfl
  | o :: os, [], i, pre, _, _ => rfl
  | o :: os, a :: as, i, pre, hp, h => by
    have e : pk (o :: os) (a :: as) i = match Nat.beq a i with
      | true => alive o :: pk os as (Nat.succ i)
      | false => pk os (a :: as) (Nat.succ i) := rfl
    rw [e] at h ⊢
    have ap : pre ++ o :: os = (pre ++ [o]) ++ os := by rw [List.append_assoc]; rfl
    cases q : Nat.beq a i with
    | true =>
      rw [q] at h
      have ai : a = i := Nat.eq_of_beq_eq_true q
      subst ai hp
      have ih := pk_of os as (Nat.succ pre.length) (pre ++ [o]) (by rw [List.length_append]; rfl) (Nat.succ.inj h)
      show _ :: _ = alive o :: pk os as (Nat.succ pre.length)
      rw [← ih, ap]
      congr 1
      rw [← ap]
      show (pre ++ o :: os)[pre.length]?.bind alive = alive o
      rw [List.getElem?_append_right (Nat.le_refl _), Nat.sub_self]
      rfl
    | false =>
      rw [q] at h
      have ih := pk_of os (a :: as) (Nat.succ i) (pre ++ [o]) (by rw [List.length_append, hp]; rfl) h
      show _ = pk os (a :: as) (Nat.succ i)
      rw [← ih, ap]
theorem get_alive (h : Heap) (a : Nat) : h.get? a = h.objs.toList[a]?.bind alive := by
  unfold Heap.get?
  rw [Array.getElem?_toList]
  rcases h.objs[a]? with _ | ⟨c, d, dt, sl⟩
  · rfl
  · cases dt <;> rfl
theorem hk_of {K : Params → Frag} {as : List Addr} (e : ∀ P, as = (K P).map (·.1)) (w : World) (s : Shared) (x : pk s.heap.objs.toList as 0 = (K w.params).map fun p => some p.2) : InK K w s.heap := by
  refine InK.of e w s ?_
  have l : (pk s.heap.objs.toList as 0).length = as.length := by
    rw [x, List.length_map]
    conv => rhs; rw [e w.params]
    rw [List.length_map]
  rw [← x, ← pk_of s.heap.objs.toList as 0 [] rfl l]
  exact List.map_congr_left fun a _ => get_alive _ a
noncomputable def cHook (K : Params → Frag) (as : List Addr) (e : ∀ P, as = (K P).map (·.1)) : Hook :=
  ⟨List (Option Obj), fun s => pk s.heap.objs.toList as 0, fun w => (K w.params).map fun p => some p.2, InK K, hk_of e, InK.keeps⟩
theorem cIn_of {K : Params → Frag} {as : List Addr} {e : ∀ P, as = (K P).map (·.1)} {w : World} {h : Heap} (Y : (cHook K as e).says w h) : (K w.params).In h := Y
end Hk
local macro_rules
  | `(tactic| o_head ($f:ident $k $a $p)) => if f.getId.eraseMacroScopes == `Hk.cHook then Lean.Macro.throwUnsupported else `(tactic| o_head (Hk.cHook $k $a $p))
def PySem.W.Fast.tw7366069951543892384 : Nat := 0
def PySem.W.Fast.tw13042459611357652006 : Nat := 0
def PySem.W.Fast.tw7471566084016538664 : Nat := 0
def PySem.W.Fast.tw4635983067859430056 : Nat := 0
def PySem.W.Fast.tw7745268743241886504 : Nat := 0
def PySem.W.Fast.tw4915476168556631792 : Nat := 0
def PySem.W.Fast.tw11719204118875286097 : Nat := 0
def PySem.W.Fast.tw16200348448652037107 : Nat := 0
def PySem.W.Fast.tw13718700214530440121 : Nat := 0
def PySem.W.Fast.tw10120947469117332571 : Nat := 0
def PySem.W.Fast.tw16934637110142794685 : Nat := 0
open_top hd06 for PySem.Challenge.rw_rungladders_k06_sets_of_numbers_made
set_option maxRecDepth 100000
namespace Ev
open PySem L2
inductive TyN where
  | none_ | bool | int | str | tuple | list | dict
  deriving DecidableEq
def TyN.name : TyN → String
  | .none_ => "NoneType" | .bool => "bool" | .int => "int" | .str => "str" | .tuple => "tuple" | .list => "list" | .dict => "dict"
inductive D where
  | non | bl (b : Bool) | int (i : Int) | str (x : Str)
  | tup (ds : List D) | lst (ds : List D) | scr (ds : List D)
  | dct (ks : List Key) (ds : List D)
  | ins (c : Nat) (ds : List D)
  | ref (n : Nat)
  | ty (t : TyN) | cls (c : Nat)
  deriving Inhabited
inductive Ob where
  | lst (ds : List D) | dct (ks : List Key) (ds : List D) | ins (c : Nat) (ds : List D)
  deriving Inhabited
structure Exn where
  cls : Nat
  arg : Option D
  deriving Inhabited
structure Sg where
  K : PySem.W.Frag
  ca : Nat → Addr
  fn : Nat → List Str
  xc : Nat → Value
  xf : Nat → Str
  gd : Bool := true
structure Wd where
  m : List Addr
  F : Addr → Prop
  H : Hp
  x : Option Addr := none
def RdF (w : Wd) (a : Addr) (o : HO) : Prop := w.F a ∧ Rd w.H a o
def KTup (K : PySem.W.Frag) (a : Addr) (xs : List V) : Prop := ∃ (o : Obj) (its : Array Value) (n : Nat), K.lookup a = some o ∧ o.cls = .type "tuple" ∧ o.data = .seq its n ∧ its.size ≤ sizeLine ∧ Vals xs its.toList
def KLst (K : PySem.W.Frag) (a : Addr) (xs : List V) : Prop := ∃ (o : Obj) (its : Array Value) (n : Nat), K.lookup a = some o ∧ o.cls = .type "list" ∧ o.dict = none ∧ o.data = .seq its n ∧ its.size ≤ sizeLine ∧ Vals xs its.toList
mutual
def RepV (G : Sg) (w : Wd) : D → V → Prop
  | .non, v => v = .non
  | .bl b, v => v = .bl b
  | .int i, v => v = .int i
  | .str x, v => v = .str x
  | .tup ds, v => ∃ a vs, v = .ref a ∧ (RdF w a (.tup vs) ∨ KTup G.K a vs) ∧ RepVs G w ds vs
  | .lst ds, v => ∃ a vs, v = .ref a ∧ w.F a ∧ w.H a = some (.lst vs) ∧ RepVs G w ds vs
  | .scr ds, v => ∃ a vs, v = .ref a ∧ (RdF w a (.lst vs) ∨ KLst G.K a vs) ∧ RepVs G w ds vs
  | .dct ks ds, v => ∃ a vs, v = .ref a ∧ w.F a ∧ w.H a = some (.dK (ks.zip vs)) ∧ ks.length = vs.length ∧ RepVs G w ds vs
  | .ins c ds, v => ∃ a dx vs, v = .ref a ∧ w.F a ∧ w.H a = some (.ins (G.ca c) dx ((G.fn c).zip vs)) ∧ vs.length ≤ (G.fn c).length ∧ RepVs G w ds vs
  | .ref n, v => ∃ a, v = .ref a ∧ w.m[n]? = some a
  | .ty t, v => v = .ty t.name
  | .cls c, v => v = .ref (G.ca c)
def RepVs (G : Sg) (w : Wd) : List D → List V → Prop
  | [], vs => vs = []
  | d :: ds, vs => ∃ v r, vs = v :: r ∧ RepV G w d v ∧ RepVs G w ds r
end
def RepO (G : Sg) (w : Wd) (a : Addr) : Ob → Prop
  | .lst ds => ∃ vs, w.H a = some (.lst vs) ∧ RepVs G w ds vs
  | .dct ks ds => ∃ vs, w.H a = some (.dK (ks.zip vs)) ∧ ks.length = vs.length ∧ RepVs G w ds vs
  | .ins c ds => ∃ dx vs, w.H a = some (.ins (G.ca c) dx ((G.fn c).zip vs)) ∧ vs.length ≤ (G.fn c).length ∧ RepVs G w ds vs
def RepX (G : Sg) (w : Wd) (e : Exn) (cls : Value) (x : Option Addr) : Prop :=
  cls = G.xc e.cls ∧ match e.arg with
    | none => True
    | some d => ∃ a v, x = some a ∧ w.F a ∧ w.H a = some (.xd [(G.xf e.cls, v)]) ∧ RepV G w d v
structure Ext (w w' : Wd) : Prop where
  m : ∃ r, w'.m = w.m ++ r
  F : ∀ a, w.F a → w'.F a
  H : ∀ b o, b ∉ w.m → w.H b = some o → w'.H b = some o
  nm : ∀ b, b ∈ w'.m → b ∈ w.m ∨ w.H b = none
  nF : ∀ b, w'.F b → w.F b ∨ w.H b = none
  al : ∀ b, w'.H b = none → w.H b = none
theorem Ext.refl (w : Wd) : Ext w w := ⟨⟨[], by simp⟩, fun _ h => h, fun _ _ _ h => h, fun _ h => .inl h, fun _ h => .inl h, fun _ h => h⟩
theorem Ext.trans {w w1 w2 : Wd} (a : Ext w w1) (b : Ext w1 w2) : Ext w w2 := by
  obtain ⟨r, er⟩ := a.m
  obtain ⟨r', er'⟩ := b.m
  refine ⟨⟨r ++ r', by rw [er', er, List.append_assoc]⟩, fun x h => b.F x (a.F x h), fun x o hm h => b.H x o (fun z => ?_) (a.H x o hm h), fun x h => ?_, fun x h => ?_, fun x h => a.al x (b.al x h)⟩
  · rcases a.nm x z with z | z
    · exact hm z
    · rw [h] at z; cases z
  · rcases b.nm x h with z | z
    · exact a.nm x z
    · exact .inr (a.al x z)
  · rcases b.nF x h with z | z
    · exact a.nF x z
    · exact .inr (a.al x z)
structure Stay (w w' : Wd) : Prop where
  m : ∃ r, w'.m = w.m ++ r
  F : ∀ a, w.F a → w'.F a
  H : ∀ a o, w.F a → w.H a = some o → w'.H a = some o
theorem Stay.refl (w : Wd) : Stay w w := ⟨⟨[], by simp⟩, fun _ h => h, fun _ _ _ h => h⟩
theorem Stay.trans {w w1 w2 : Wd} (a : Stay w w1) (b : Stay w1 w2) : Stay w w2 := by
  obtain ⟨r, er⟩ := a.m
  obtain ⟨r', er'⟩ := b.m
  exact ⟨⟨r ++ r', by rw [er', er, List.append_assoc]⟩, fun x h => b.F x (a.F x h), fun x o f h => b.H x o (a.F x f) (a.H x o f h)⟩
theorem Ext.stay {w w' : Wd} (e : Ext w w') (dj : ∀ a, w.F a → a ∉ w.m) : Stay w w' := ⟨e.m, e.F, fun a o f h => e.H a o (dj a f) h⟩
section
variable {G : Sg} {w w' : Wd}
theorem RdF.stay (e : Stay w w') {a : Addr} {o : HO} (h : RdF w a o) : RdF w' a o := by
  obtain ⟨f, h⟩ := h
  refine ⟨e.F a f, ?_⟩
  rcases h with h | ⟨u, h⟩
  · exact .inl (e.H a _ f h)
  · exact .inr ⟨u, e.H a _ f h⟩
mutual
theorem RepV.stay (e : Stay w w') : ∀ (d : D) (v : V), RepV G w d v → RepV G w' d v
  | .non, _, h => h
  | .bl _, _, h => h
  | .int _, _, h => h
  | .str _, _, h => h
  | .tup ds, _, h => by
    obtain ⟨a, vs, e1, h1, h2⟩ := h
    exact ⟨a, vs, e1, h1.imp (fun z => z.stay e) id, RepVs.stay e ds vs h2⟩
  | .lst ds, _, h => by
    obtain ⟨a, vs, e1, f, h1, h2⟩ := h
    exact ⟨a, vs, e1, e.F a f, e.H a _ f h1, RepVs.stay e ds vs h2⟩
  | .scr ds, _, h => by
    obtain ⟨a, vs, e1, h1, h2⟩ := h
    exact ⟨a, vs, e1, h1.imp (fun z => z.stay e) id, RepVs.stay e ds vs h2⟩
  | .dct ks ds, _, h => by
    obtain ⟨a, vs, e1, f, h1, h2, h3⟩ := h
    exact ⟨a, vs, e1, e.F a f, e.H a _ f h1, h2, RepVs.stay e ds vs h3⟩
  | .ins c ds, _, h => by
    obtain ⟨a, dx, vs, e1, f, h1, h2, h3⟩ := h
    exact ⟨a, dx, vs, e1, e.F a f, e.H a _ f h1, h2, RepVs.stay e ds vs h3⟩
  | .ref n, _, h => by
    obtain ⟨a, e1, h1⟩ := h
    obtain ⟨r, er⟩ := e.m
    refine ⟨a, e1, ?_⟩
    rw [er, List.getElem?_append_left (List.getElem?_eq_some_iff.mp h1).1]
    exact h1
  | .ty _, _, h => h
  | .cls _, _, h => h
theorem RepVs.stay (e : Stay w w') : ∀ (ds : List D) (vs : List V), RepVs G w ds vs → RepVs G w' ds vs
  | [], _, h => h
  | d :: ds, _, h => by
    obtain ⟨v, r, e1, h1, h2⟩ := h
    exact ⟨v, r, e1, RepV.stay e d v h1, RepVs.stay e ds r h2⟩
end
theorem RepV.mono (e : Ext w w') (dj : ∀ a, w.F a → a ∉ w.m) (d : D) (v : V) : RepV G w d v → RepV G w' d v := RepV.stay (e.stay dj) d v
theorem RepVs.mono (e : Ext w w') (dj : ∀ a, w.F a → a ∉ w.m) (ds : List D) (vs : List V) : RepVs G w ds vs → RepVs G w' ds vs := RepVs.stay (e.stay dj) ds vs
theorem RepO.mono (e : Ext w w') (dj : ∀ a, w.F a → a ∉ w.m) {a : Addr} (ha : a ∉ w.m) : ∀ (o : Ob), RepO G w a o → RepO G w' a o
  | .lst ds, ⟨vs, h1, h2⟩ => ⟨vs, e.H a _ ha h1, RepVs.mono e dj _ _ h2⟩
  | .dct ks ds, ⟨vs, h1, h2, h3⟩ => ⟨vs, e.H a _ ha h1, h2, RepVs.mono e dj _ _ h3⟩
  | .ins c ds, ⟨dx, vs, h1, h2, h3⟩ => ⟨dx, vs, e.H a _ ha h1, h2, RepVs.mono e dj _ _ h3⟩
theorem RepVs.length : ∀ {ds : List D} {vs : List V}, RepVs G w ds vs → ds.length = vs.length
  | [], _, h => by cases (show _ = _ from h); rfl
  | _ :: ds, _, ⟨_, _, e, _, h⟩ => by rw [e, List.length_cons, List.length_cons, RepVs.length h]
theorem RepVs.get : ∀ {ds : List D} {vs : List V} {i : Nat} {d : D}, RepVs G w ds vs → ds[i]? = some d → ∃ v, vs[i]? = some v ∧ RepV G w d v
  | [], _, _, _, _, e => by simp at e
  | d :: ds, _, 0, _, ⟨v, r, e, h, _⟩, q => by
    subst e
    simp at q
    subst q
    exact ⟨v, rfl, h⟩
  | _ :: ds, _, i + 1, _, ⟨v, r, e, _, h⟩, q => by
    subst e
    simpa using RepVs.get (i := i) h (by simpa using q)
theorem RepVs.append : ∀ {ds es : List D} {vs us : List V}, RepVs G w ds vs → RepVs G w es us → RepVs G w (ds ++ es) (vs ++ us)
  | [], _, _, _, h, q => by cases (show _ = _ from h); exact q
  | d :: ds, _, _, _, ⟨v, r, e, h, t⟩, q => by subst e; exact ⟨v, _, rfl, h, RepVs.append t q⟩
theorem RepVs.take : ∀ (n : Nat) {ds : List D} {vs : List V}, RepVs G w ds vs → RepVs G w (ds.take n) (vs.take n)
  | 0, _, _, _ => rfl
  | n + 1, [], _, h => by cases (show _ = _ from h); rfl
  | n + 1, d :: ds, _, ⟨v, r, e, h, t⟩ => by subst e; exact ⟨v, _, rfl, h, RepVs.take n t⟩
theorem RepVs.drop : ∀ (n : Nat) {ds : List D} {vs : List V}, RepVs G w ds vs → RepVs G w (ds.drop n) (vs.drop n)
  | 0, _, _, h => h
  | n + 1, [], _, h => by cases (show _ = _ from h); rfl
  | n + 1, d :: ds, _, ⟨v, r, e, h, t⟩ => by subst e; exact RepVs.drop n t
theorem RepVs.reverse : ∀ {ds : List D} {vs : List V}, RepVs G w ds vs → RepVs G w ds.reverse vs.reverse
  | [], _, h => by cases (show _ = _ from h); rfl
  | d :: ds, _, ⟨v, r, e, h, t⟩ => by
    subst e
    rw [List.reverse_cons, List.reverse_cons]
    exact RepVs.append (RepVs.reverse t) ⟨v, [], rfl, h, rfl⟩
theorem RepVs.set : ∀ (i : Nat) {ds : List D} {vs : List V} {d : D} {v : V}, RepVs G w ds vs → RepV G w d v → RepVs G w (ds.set i d) (vs.set i v)
  | _, [], _, _, _, h, _ => by cases (show _ = _ from h); rfl
  | 0, d :: ds, _, _, _, ⟨v, r, e, h, t⟩, q => by subst e; exact ⟨_, _, rfl, q, t⟩
  | i + 1, d :: ds, _, _, _, ⟨v, r, e, h, t⟩, q => by subst e; exact ⟨_, _, rfl, h, RepVs.set i t q⟩
theorem RepVs.one {d : D} {v : V} (h : RepV G w d v) : RepVs G w [d] [v] := ⟨v, [], rfl, h, rfl⟩
theorem RepVs.rep : ∀ (k : Nat) {ds : List D} {vs : List V}, RepVs G w ds vs → RepVs G w (List.replicate k ds).flatten (List.replicate k vs).flatten
  | 0, _, _, _ => rfl
  | k + 1, _, _, h => by
    rw [List.replicate_succ, List.replicate_succ, List.flatten_cons, List.flatten_cons]
    exact RepVs.append h (RepVs.rep k h)
end
structure RepS (G : Sg) (w : Wd) (S : List Ob) : Prop where
  len : w.m.length = S.length
  nd : w.m.Nodup
  dj : ∀ a, w.F a → a ∉ w.m
  fh : ∀ a, w.F a → w.H a ≠ none
  ob : ∀ (n : Nat) (a : Addr) (o : Ob), w.m[n]? = some a → S[n]? = some o → RepO G w a o
inductive SV where
  | no | val (d : D) | own (o : Ob)
  deriving Inhabited
structure R (G : Sg) (w0 w : Wd) (sd : List SV) (S : List Ob) (σ : St) : Prop where
  ex : Ext w0 w
  st : RepS G w S
  ln : σ.length = sd.length
  vl : ∀ (i : Nat) (d : D), sd[i]? = some (.val d) → ∃ v, σ[i]? = some (some v) ∧ RepV G w d v
  ow : ∀ (i : Nat) (o : Ob), sd[i]? = some (.own o) → ∃ a, σ[i]? = some (some (.ref a)) ∧ RepO G w a o ∧ ¬ w.F a ∧ a ∉ w.m ∧ w0.H a = none
  ap : ∀ (i j : Nat) (o o' : Ob) (a : Addr), sd[i]? = some (.own o) → sd[j]? = some (.own o') → σ[i]? = some (some (.ref a)) → σ[j]? = some (some (.ref a)) → i = j
  sf : ∀ a o, w0.x = some a → sd[0]? = some (.own o) → σ[0]? = some (some (.ref a))
theorem RepO.there {G : Sg} {w : Wd} {a : Addr} {o : Ob} (h : RepO G w a o) : w.H a ≠ none := by
  cases o with
  | lst ds => obtain ⟨_, e, _⟩ := h; rw [e]; exact fun z => nomatch z
  | dct ks ds => obtain ⟨_, e, _⟩ := h; rw [e]; exact fun z => nomatch z
  | ins c ds => obtain ⟨_, _, e, _⟩ := h; rw [e]; exact fun z => nomatch z
theorem R.step {G : Sg} {w0 w w1 : Wd} {sd : List SV} {S S1 : List Ob} {σ : St} (r : R G w0 w sd S σ) (e : Ext w w1) (s : RepS G w1 S1) : R G w0 w1 sd S1 σ := by
  refine ⟨r.ex.trans e, s, r.ln, fun i d h => ?_, fun i o h => ?_, r.ap, r.sf⟩
  · obtain ⟨v, h1, h2⟩ := r.vl i d h
    exact ⟨v, h1, RepV.mono e r.st.dj d v h2⟩
  · obtain ⟨a, h1, h2, h3, h4, h5⟩ := r.ow i o h
    refine ⟨a, h1, RepO.mono e r.st.dj h4 o h2, fun z => ?_, fun z => ?_, h5⟩
    · rcases e.nF a z with z | z
      · exact h3 z
      · exact h2.there z
    · rcases e.nm a z with z | z
      · exact h4 z
      · exact h2.there z
def M (α : Type) : Type := List Ob → Option (Except Exn α × List Ob)
namespace M
variable {α β γ : Type}
def pure (a : α) : M α := fun S => some (.ok a, S)
def err (e : Exn) : M α := fun S => some (.error e, S)
def stuck : M α := fun _ => none
def bind (f : M α) (k : α → M β) : M β := fun S => match f S with
  | none => none
  | some (.error e, S1) => some (.error e, S1)
  | some (.ok a, S1) => k a S1
theorem bind_assoc (f : M α) (k : α → M β) (l : β → M γ) : bind (bind f k) l = bind f fun a => bind (k a) l := by
  funext S
  unfold bind
  rcases f S with _ | ⟨_ | _, _⟩ <;> rfl
theorem bind_ite (c : Prop) [Decidable c] (f g : M α) (k : α → M β) : bind (if c then f else g) k = if c then bind f k else bind g k := by split <;> rfl
end M
def FinG {α β : Type} (G : Sg) (rep : Wd → α → β → Prop) (W : Value → Option Addr → Hp → Prop) (w : Wd) (Q : β → Hp → Prop) : Option (Except Exn α × List Ob) → Prop
  | none => False
  | some (.ok d, S) => ∀ w' v, Ext w w' → RepS G w' S → rep w' d v → Q v w'.H
  | some (.error e, S) => ∀ w' cls x, Ext w w' → RepS G w' S → RepX G w' e cls x → W cls x w'.H
section
variable {α β γ δ : Type} {G : Sg} {rep : Wd → α → β → Prop} {rep' : Wd → γ → δ → Prop} {W : Value → Option Addr → Hp → Prop} {w w1 : Wd} {Q : β → Hp → Prop} {Q' : δ → Hp → Prop}
theorem FinG.ext {r : Option (Except Exn α × List Ob)} (e : Ext w w1) (h : FinG G rep W w Q r) : FinG G rep W w1 Q r := by
  rcases r with _ | ⟨_ | _, _⟩
  · exact h
  · exact fun w' c x e' => h w' c x (e.trans e')
  · exact fun w' v e' => h w' v (e.trans e')
theorem fin_pure {a : α} {b : β} {S : List Ob} (h : FinG G rep W w Q (M.pure a S)) (s : RepS G w S) (r : rep w a b) : Q b w.H := h w b (Ext.refl w) s r
end
def teG {α β : Type} (G : Sg) (rep : Wd → α → β → Prop) (W : WX) (f : List SV → M α) : St → Hp → (β → Hp → Prop) → Prop := fun σ H Q =>
  ∃ w0 w sd S, w.H = H ∧ R G w0 w sd S σ ∧ FinG G rep (fun c x H => W c x σ H) w Q (f sd S)
def repB : Wd → Bool → Bool → Prop := fun _ a b => b = a
abbrev teV (G : Sg) (W : WX) (f : List SV → M D) : TE := teG G (RepV G) W f
abbrev teB (G : Sg) (W : WX) (f : List SV → M Bool) : TT := teG G repB W f
abbrev teA (G : Sg) (W : WX) (f : List SV → M (List D)) : TA := teG G (RepVs G) W f
abbrev PV (G : Sg) (X : Cx) (W : WX) (e : Expr) (f : List SV → M D) : Prop := PE X e (teV G W f)
abbrev PB (G : Sg) (X : Cx) (W : WX) (e : Expr) (f : List SV → M Bool) : Prop := PT X e (teB G W f)
abbrev PL (G : Sg) (X : Cx) (W : WX) (es : List Expr) (f : List SV → M (List D)) : Prop := PA X es (teA G W f)
theorem PE.imp {X : Cx} {e : Expr} {t t' : TE} (h : PE X e t) (i : ∀ σ H Q, t' σ H Q → t σ H Q) : PE X e t' := ⟨fun p s σ H Q I q => h.run p s σ H Q I (i σ H Q q)⟩
theorem PT.imp {X : Cx} {e : Expr} {t t' : TT} (h : PT X e t) (i : ∀ σ H Q, t' σ H Q → t σ H Q) : PT X e t' := ⟨fun p s σ H Q I q => h.run p s σ H Q I (i σ H Q q)⟩
theorem PW.imp {X : Cx} {e : Expr} {t t' : TT} (h : PW X e t) (i : ∀ σ H Q, t' σ H Q → t σ H Q) : PW X e t' := ⟨fun wh p s σ H Q I q => h.run wh p s σ H Q I (i σ H Q q)⟩
theorem PA.imp {X : Cx} {e : List Expr} {t t' : TA} (h : PA X e t) (i : ∀ σ H Q, t' σ H Q → t σ H Q) : PA X e t' := ⟨fun ps p s σ H Q I q => h.run ps p s σ H Q I (i σ H Q q)⟩
theorem PS.imp {X : Cx} {e : Stmt} {t t' : TS} (h : PS X e t) (i : ∀ D σ H, t' D σ H → t D σ H) : PS X e t' := ⟨fun p s σ H D I q => h.run p s σ H D I (i D σ H q)⟩
theorem PSs.imp {X : Cx} {e : List Stmt} {t t' : TS} (h : PSs X e t) (i : ∀ D σ H, t' D σ H → t D σ H) : PSs X e t' := ⟨fun p s σ H D I q => h.run p s σ H D I (i D σ H q)⟩
theorem fin_step {α β γ δ : Type} {G : Sg} {rep : Wd → α → β → Prop} {rep' : Wd → γ → δ → Prop} {W : Value → Option Addr → Hp → Prop} {w : Wd} {Q : β → Hp → Prop} {Q' : δ → Hp → Prop} {f : M α} {k : α → M γ} {S : List Ob}
    (h : FinG G rep' W w Q' (M.bind f k S)) (c : ∀ w1 S1 d v, Ext w w1 → RepS G w1 S1 → rep w1 d v → FinG G rep' W w1 Q' (k d S1) → Q v w1.H) : FinG G rep W w Q (f S) := by
  unfold M.bind at h
  rcases hf : f S with _ | ⟨_ | d, S1⟩
  · rw [hf] at h; exact h
  · rw [hf] at h; exact h
  · rw [hf] at h
    exact fun w' v e s r => c w' S1 d v e s r (FinG.ext e h)
end Ev
set_option maxRecDepth 100000
set_option maxHeartbeats 2000000
namespace Ev
open PySem L2
theorem RepO.to {G : Sg} {w w' : Wd} {a : Addr} (h : w'.H a = w.H a) (e : Stay w w') : ∀ {o : Ob}, RepO G w a o → RepO G w' a o
  | .lst _, ⟨vs, h1, h2⟩ => ⟨vs, h.trans h1, RepVs.stay e _ _ h2⟩
  | .dct _ _, ⟨vs, h1, h2, h3⟩ => ⟨vs, h.trans h1, h2, RepVs.stay e _ _ h3⟩
  | .ins _ _, ⟨dx, vs, h1, h2, h3⟩ => ⟨dx, vs, h.trans h1, h2, RepVs.stay e _ _ h3⟩
theorem RepS.there {G : Sg} {w : Wd} {S : List Ob} (s : RepS G w S) {a : Addr} (h : a ∈ w.m) : w.H a ≠ none := by
  obtain ⟨n, hn⟩ := List.getElem?_of_mem h
  have l : n < S.length := by rw [← s.len]; exact (List.getElem?_eq_some_iff.mp hn).1
  exact (s.ob n a S[n] hn (List.getElem?_eq_getElem l)).there
def Wd.frz (w : Wd) (p : Addr) (o : HO) : Wd := ⟨w.m, fun a => w.F a ∨ a = p, upd w.H p o, w.x⟩
def Wd.new (w : Wd) (p : Addr) (o : HO) : Wd := ⟨w.m, w.F, upd w.H p o, w.x⟩
section
variable {G : Sg} {w : Wd} {S : List Ob} {p : Addr} {o : HO}
theorem Ext.frz (hp : w.H p = none) : Ext w (w.frz p o) := by
  refine ⟨⟨[], by simp [Wd.frz]⟩, fun _ h => .inl h, fun b u _ h => ?_, fun _ h => .inl h, fun b h => ?_, fun b h => ?_⟩
  · show upd w.H p o b = some u
    rw [upd_ne (ne_of_none h hp)]; exact h
  · rcases h with h | h
    · exact .inl h
    · exact .inr (h ▸ hp)
  · have h : upd w.H p o b = none := h
    by_cases e : b = p
    · rw [e]; exact hp
    · rw [upd_ne e] at h; exact h
theorem Ext.new (hp : w.H p = none) : Ext w (w.new p o) := by
  have e := Ext.frz (o := o) hp
  exact ⟨e.m, fun _ h => h, e.H, e.nm, fun _ h => .inl h, e.al⟩
theorem RepS.frz (s : RepS G w S) (hp : w.H p = none) : RepS G (w.frz p o) S := by
  refine ⟨s.len, s.nd, fun a h => ?_, fun a h => ?_, fun n a u h1 h2 => ?_⟩
  · rcases h with h | h
    · exact s.dj a h
    · exact fun z => s.there z (h ▸ hp)
  · show upd w.H p o a ≠ none
    by_cases e : a = p
    · rw [e, upd_same]; exact fun z => nomatch z
    · rw [upd_ne e]
      rcases h with h | h
      · exact s.fh a h
      · exact absurd h e
  · have ne : a ≠ p := fun z => s.there (List.mem_of_getElem? h1) (z ▸ hp)
    exact RepO.to (upd_ne ne) ((Ext.frz hp).stay s.dj) (s.ob n a u h1 h2)
theorem RepS.new (s : RepS G w S) (hp : w.H p = none) : RepS G (w.new p o) S := by
  refine ⟨s.len, s.nd, s.dj, fun a h => ?_, fun n a u h1 h2 => ?_⟩
  · show upd w.H p o a ≠ none
    rw [upd_ne (fun e => s.fh a h (by rw [e]; exact hp))]
    exact s.fh a h
  · have ne : a ≠ p := fun z => s.there (List.mem_of_getElem? h1) (z ▸ hp)
    exact RepO.to (upd_ne ne) ((Ext.new hp).stay s.dj) (s.ob n a u h1 h2)
end
def getv (i : Nat) : List SV → M D := fun sd => match sd[i]? with
  | some (.val d) => M.pure d
  | _ => M.stuck
def repL (G : Sg) (n : Nat) : Wd → List D → List V → Prop := fun w ds vs => RepVs G w ds vs ∧ vs.length = n
abbrev PLn (G : Sg) (X : Cx) (W : WX) (n : Nat) (es : List Expr) (f : List SV → M (List D)) : Prop := PA X es (teG G (repL G n) W f)
def notStar : Expr → Bool
  | .Starred _ _ => false
  | _ => true
theorem starEach_cons {e : Expr} {es : List Expr} {env : Env} (h : notStar e = true) : starEach (e :: es) env = (false, eval e env) :: starEach es env := by
  cases e <;> first | rfl | cases h
theorem starEach_all {env : Env} : ∀ {es : List Expr}, es.all notStar = true → ∀ pos, (backTo pos (starEach es env)).any (·.1) = false
  | [], _, _ => rfl
  | e :: es, h, pos => by
    simp only [List.all_cons, Bool.and_eq_true] at h
    rw [starEach_cons h.1]
    show (false || (backTo pos (starEach es env)).any (·.1)) = false
    rw [starEach_all h.2]
    rfl
section
variable {G : Sg} {X : Cx} {W : WX}
theorem v_var {i : Nat} {x : Str} {pos : Pos} (hN : X.N[i]? = some x) (hv : Vis X.env.scope x) (hd : (x == ("__debug__" : Str)) = false) (hcd : (x == ("__classdict__" : Str)) = false) : PV G X W (.Name x pos) (getv i) := by
  refine PE.imp (pe_var hN hv hd hcd) fun σ H Q h => ?_
  obtain ⟨w0, w, sd, S, e, r, q⟩ := h
  subst e
  unfold getv at q
  rcases hx : sd[i]? with _ | _ | d | o
  · rw [hx] at q; exact False.elim q
  · rw [hx] at q; exact False.elim q
  · rw [hx] at q
    obtain ⟨v, h1, h2⟩ := r.vl i d hx
    exact ⟨v, h1, fin_pure q r.st h2⟩
  · rw [hx] at q; exact False.elim q
theorem v_lit {e : Expr} {v : V} {d : D} (h : PE X e (tC v)) (r : ∀ w S, RepS G w S → RepV G w d v) : PV G X W e (fun _ => M.pure d) := by
  refine PE.imp h fun σ H Q h => ?_
  obtain ⟨w0, w, sd, S, e, rr, q⟩ := h
  subst e
  exact fin_pure q rr.st (r w S rr.st)
theorem l_nil : PLn G X W 0 [] (fun _ => M.pure []) := by
  refine PA.imp pa_nil fun σ H Q h => ?_
  obtain ⟨w0, w, sd, S, e, r, q⟩ := h
  subst e
  exact fin_pure q r.st ⟨rfl, rfl⟩
theorem l_cons {n : Nat} {e : Expr} {es : List Expr} {f : List SV → M D} {g : List SV → M (List D)} (he : PV G X W e f) (hr : PLn G X W n es g) (hs : notStar e = true) :
    PLn G X W (n + 1) (e :: es) (fun sd => M.bind (f sd) fun d => M.bind (g sd) fun ds => M.pure (d :: ds)) := by
  refine PA.imp (pa_cons he hr (starEach_cons hs)) fun σ H Q h => ?_
  obtain ⟨w0, w, sd, S, e, r, q⟩ := h
  refine ⟨w0, w, sd, S, e, r, fin_step q fun w1 S1 d v e1 s1 rv q1 => ⟨w0, w1, sd, S1, rfl, r.step e1 s1, fin_step q1 fun w2 S2 ds vs e2 s2 rvs q2 => ?_⟩⟩
  exact fin_pure q2 s2 ⟨⟨v, vs, rfl, RepV.mono e2 s1.dj d v rv, rvs.1⟩, by rw [List.length_cons, rvs.2]⟩
theorem v_tup {n : Nat} {es : List Expr} {g : List SV → M (List D)} {x1 : Nat} {pos : Pos} (h : PLn G X W n es g) (hn : n ≤ sizeLine) : PV G X W (.Tuple es x1 pos) (fun sd => M.bind (g sd) fun ds => M.pure (.tup ds)) := by
  refine PE.imp (pe_tup h) fun σ H Q h => ?_
  obtain ⟨w0, w, sd, S, e, r, q⟩ := h
  refine ⟨w0, w, sd, S, e, r, fin_step q fun w1 S1 ds vs e1 s1 rv q1 => ⟨by rw [rv.2]; exact hn, fun p hp => ?_⟩⟩
  exact q1 (w1.frz p (.tup vs)) _ (Ext.frz hp) (s1.frz hp) ⟨p, vs, rfl, .inl ⟨.inr rfl, .inl upd_same⟩, RepVs.mono (Ext.frz hp) s1.dj _ _ rv.1⟩
theorem v_lst {n : Nat} {es : List Expr} {g : List SV → M (List D)} {pos : Pos} (h : PLn G X W n es g) (hn : n ≤ sizeLine) : PV G X W (.List es pos) (fun sd => M.bind (g sd) fun ds => M.pure (.lst ds)) := by
  refine PE.imp (pe_lst h) fun σ H Q h => ?_
  obtain ⟨w0, w, sd, S, e, r, q⟩ := h
  refine ⟨w0, w, sd, S, e, r, fin_step q fun w1 S1 ds vs e1 s1 rv q1 => ⟨by rw [rv.2]; exact hn, fun p hp => ?_⟩⟩
  exact q1 (w1.frz p (.lst vs)) _ (Ext.frz hp) (s1.frz hp) ⟨p, vs, rfl, .inr rfl, upd_same, RepVs.mono (Ext.frz hp) s1.dj _ _ rv.1⟩
def rD2 (G : Sg) (g : D → D → M D) : R2 := fun v u H Q => ∃ W w S d e, w.H = H ∧ RepS G w S ∧ RepV G w d v ∧ RepV G w e u ∧ FinG G (RepV G) W w Q (g d e S)
theorem v_bin {op : Operator} {g : D → D → M D} {a b : Expr} {fa fb : List SV → M D} {pos : Pos} (ho : OpR X (binaryOp op) (rD2 G g)) (ha : PV G X W a fa) (hb : PV G X W b fb) :
    PV G X W (.BinOp a op b pos) (fun sd => M.bind (fa sd) fun x => M.bind (fb sd) fun y => g x y) := by
  refine PE.imp (pe_op ho ha hb) fun σ H Q h => ?_
  obtain ⟨w0, w, sd, S, e, r, q⟩ := h
  refine ⟨w0, w, sd, S, e, r, fin_step q fun w1 S1 d v e1 s1 rv q1 => ⟨w0, w1, sd, S1, rfl, r.step e1 s1, fin_step q1 fun w2 S2 d2 v2 e2 s2 rv2 q2 => ?_⟩⟩
  exact ⟨_, w2, S2, d, d2, rfl, s2, RepV.mono e2 s1.dj d v rv, rv2, q2⟩
theorem v_cmp {op : CmpOp} {g : D → D → M D} {a b : Expr} {fa fb : List SV → M D} {pos : Pos} (ho : OpR X (compareOp op) (rD2 G g)) (ha : PV G X W a fa) (hb : PV G X W b fb) (hm : behindInMarks op b = false) :
    PV G X W (.Compare a [op] [b] pos) (fun sd => M.bind (fa sd) fun x => M.bind (fb sd) fun y => g x y) := by
  refine PE.imp (pe_cmpR ho ha hb hm) fun σ H Q h => ?_
  obtain ⟨w0, w, sd, S, e, r, q⟩ := h
  refine ⟨w0, w, sd, S, e, r, fin_step q fun w1 S1 d v e1 s1 rv q1 => ⟨w0, w1, sd, S1, rfl, r.step e1 s1, fin_step q1 fun w2 S2 d2 v2 e2 s2 rv2 q2 => ?_⟩⟩
  exact ⟨_, w2, S2, d, d2, rfl, s2, RepV.mono e2 s1.dj d v rv, rv2, q2⟩
def toB : D → M Bool
  | .bl b => M.pure b
  | _ => M.stuck
theorem toB_fin {W' : Value → Option Addr → Hp → Prop} {w : Wd} {Q : Bool → Hp → Prop} {d : D} {v : V} {S : List Ob} (h : FinG G repB W' w Q (toB d S)) (s : RepS G w S) (r : RepV G w d v) : ∃ k, v = .bl k ∧ Q k w.H := by
  cases d with
  | bl b =>
    cases (show v = .bl b from r)
    exact ⟨b, rfl, fin_pure h s rfl⟩
  | _ => exact False.elim h
theorem b_cmp {op : CmpOp} {g : D → D → M D} {a b : Expr} {fa fb : List SV → M D} {pos : Pos} (ho : OpR X (compareOp op) (rD2 G g)) (ha : PV G X W a fa) (hb : PV G X W b fb) (hm : behindInMarks op b = false) :
    PB G X W (.Compare a [op] [b] pos) (fun sd => M.bind (fa sd) fun x => M.bind (fb sd) fun y => M.bind (g x y) toB) := by
  refine PT.imp (pt_cmpR ho ha hb hm) fun σ H Q h => ?_
  obtain ⟨w0, w, sd, S, e, r, q⟩ := h
  refine ⟨w0, w, sd, S, e, r, fin_step q fun w1 S1 d v e1 s1 rv q1 => ⟨w0, w1, sd, S1, rfl, r.step e1 s1, fin_step q1 fun w2 S2 d2 v2 e2 s2 rv2 q2 => ?_⟩⟩
  exact ⟨_, w2, S2, d, d2, rfl, s2, RepV.mono e2 s1.dj d v rv, rv2, fin_step q2 fun w3 S3 d3 v3 e3 s3 rv3 q3 => toB_fin q3 s3 rv3⟩
theorem b_val {e : Expr} {f : List SV → M D} (h : PV G X W e f) (he : ∀ whole, isTrue e X.env whole = (do let v ← whole; standAt e.pos; holding [v] (truthy v))) : PB G X W e (fun sd => M.bind (f sd) toB) := by
  refine PT.imp (pt_val h he) fun σ H Q h => ?_
  obtain ⟨w0, w, sd, S, e, r, q⟩ := h
  exact ⟨w0, w, sd, S, e, r, fin_step q fun w1 S1 d v e1 s1 rv q1 => toB_fin q1 s1 rv⟩
theorem b_not {a : Expr} {f : List SV → M Bool} {pos : Pos} (ha : PB G X W a f) : PB G X W (.UnaryOp .Not a pos) (fun sd => M.bind (f sd) fun b => M.pure (!b)) := by
  refine PT.imp (pt_not ha) fun σ H Q h => ?_
  obtain ⟨w0, w, sd, S, e, r, q⟩ := h
  exact ⟨w0, w, sd, S, e, r, fin_step q fun w1 S1 d v e1 s1 rv q1 => by cases rv; exact fin_pure q1 s1 rfl⟩
abbrev PBW (G : Sg) (X : Cx) (W : WX) (e : Expr) (f : List SV → M Bool) : Prop := PW X e (teB G W f)
theorem w_and1 {a : Expr} {f : List SV → M Bool} {pos : Pos} (ha : PB G X W a f) : PBW G X W (.BoolOp .And [a] pos) f := pw_and1 ha
theorem w_or1 {a : Expr} {f : List SV → M Bool} {pos : Pos} (ha : PB G X W a f) : PBW G X W (.BoolOp .Or [a] pos) f := pw_or1 ha
theorem w_and {a b : Expr} {rest : List Expr} {f g : List SV → M Bool} {pos : Pos} (ha : PB G X W a f) (hb : PBW G X W (.BoolOp .And (b :: rest) pos) g) :
    PBW G X W (.BoolOp .And (a :: b :: rest) pos) (fun sd => M.bind (f sd) fun k => if k = true then g sd else M.pure false) := by
  refine PW.imp (pw_and ha hb) fun σ H Q h => ?_
  obtain ⟨w0, w, sd, S, e, r, q⟩ := h
  refine ⟨w0, w, sd, S, e, r, fin_step q fun w1 S1 d v e1 s1 rv q1 => ?_⟩
  cases (show v = d from rv)
  cases d with
  | true => exact ⟨w0, w1, sd, S1, rfl, r.step e1 s1, q1⟩
  | false => exact fin_pure q1 s1 rfl
theorem w_or {a b : Expr} {rest : List Expr} {f g : List SV → M Bool} {pos : Pos} (ha : PB G X W a f) (hb : PBW G X W (.BoolOp .Or (b :: rest) pos) g) :
    PBW G X W (.BoolOp .Or (a :: b :: rest) pos) (fun sd => M.bind (f sd) fun k => if k = true then M.pure true else g sd) := by
  refine PW.imp (pw_or ha hb) fun σ H Q h => ?_
  obtain ⟨w0, w, sd, S, e, r, q⟩ := h
  refine ⟨w0, w, sd, S, e, r, fin_step q fun w1 S1 d v e1 s1 rv q1 => ?_⟩
  cases (show v = d from rv)
  cases d with
  | true => exact fin_pure q1 s1 rfl
  | false => exact ⟨w0, w1, sd, S1, rfl, r.step e1 s1, q1⟩
theorem v_one {op : BoolOp} {a : Expr} {f : List SV → M D} {pos : Pos} (ha : PV G X W a f) : PV G X W (.BoolOp op [a] pos) f := pe_one ha
theorem v_and {a b : Expr} {rest : List Expr} {f g : List SV → M D} {pos : Pos} (ha : PV G X W a f) (hb : PV G X W (.BoolOp .And (b :: rest) pos) g) :
    PV G X W (.BoolOp .And (a :: b :: rest) pos) (fun sd => M.bind (f sd) fun d => M.bind (toB d) fun k => if k = true then g sd else M.pure (.bl false)) := by
  refine PE.imp (pe_and ha hb) fun σ H Q h => ?_
  obtain ⟨w0, w, sd, S, e, r, q⟩ := h
  refine ⟨w0, w, sd, S, e, r, fin_step q fun w1 S1 d v e1 s1 rv q1 => ?_⟩
  cases d with
  | bl b =>
    cases (show v = .bl b from rv)
    refine ⟨b, rfl, ?_⟩
    cases b with
    | true => exact ⟨w0, w1, sd, S1, rfl, r.step e1 s1, q1⟩
    | false => exact fin_pure (b := V.bl false) q1 s1 rfl
  | _ => exact False.elim q1
theorem v_or {a b : Expr} {rest : List Expr} {f g : List SV → M D} {pos : Pos} (ha : PV G X W a f) (hb : PV G X W (.BoolOp .Or (b :: rest) pos) g) :
    PV G X W (.BoolOp .Or (a :: b :: rest) pos) (fun sd => M.bind (f sd) fun d => M.bind (toB d) fun k => if k = true then M.pure (.bl true) else g sd) := by
  refine PE.imp (pe_or ha hb) fun σ H Q h => ?_
  obtain ⟨w0, w, sd, S, e, r, q⟩ := h
  refine ⟨w0, w, sd, S, e, r, fin_step q fun w1 S1 d v e1 s1 rv q1 => ?_⟩
  cases d with
  | bl b =>
    cases (show v = .bl b from rv)
    refine ⟨b, rfl, ?_⟩
    cases b with
    | true => exact fin_pure (b := V.bl true) q1 s1 rfl
    | false => exact ⟨w0, w1, sd, S1, rfl, r.step e1 s1, q1⟩
  | _ => exact False.elim q1
theorem v_not {a : Expr} {f : List SV → M D} {pos : Pos} (ha : PV G X W a f) : PV G X W (.UnaryOp .Not a pos) (fun sd => M.bind (f sd) fun d => M.bind (toB d) fun k => M.pure (.bl (!k))) := by
  refine PE.imp (pe_not ha) fun σ H Q h => ?_
  obtain ⟨w0, w, sd, S, e, r, q⟩ := h
  refine ⟨w0, w, sd, S, e, r, fin_step q fun w1 S1 d v e1 s1 rv q1 => ?_⟩
  cases d with
  | bl b =>
    cases (show v = .bl b from rv)
    exact ⟨b, rfl, fin_pure (b := V.bl (!b)) q1 s1 rfl⟩
  | _ => exact False.elim q1
theorem v_ite {c a b : Expr} {f : List SV → M Bool} {fa fb : List SV → M D} {pos : Pos} (hc : PB G X W c f) (ha : PV G X W a fa) (hb : PV G X W b fb) : PV G X W (.IfExp c a b pos) (fun sd => M.bind (f sd) fun k => if k = true then fa sd else fb sd) := by
  refine PE.imp (pe_ifExp hc ha hb) fun σ H Q h => ?_
  obtain ⟨w0, w, sd, S, e, r, q⟩ := h
  refine ⟨w0, w, sd, S, e, r, fin_step q fun w1 S1 d v e1 s1 rv q1 => ?_⟩
  cases (show v = d from rv)
  cases d with
  | true => exact ⟨w0, w1, sd, S1, rfl, r.step e1 s1, q1⟩
  | false => exact ⟨w0, w1, sd, S1, rfl, r.step e1 s1, q1⟩
end
end Ev
set_option maxRecDepth 100000
set_option maxHeartbeats 2000000
namespace Ev
open PySem L2
theorem OpR.imp {X : Cx} {f : Value → Value → Sem Value} {r r' : R2} (h : OpR X f r) (i : ∀ v u H Q, r' v u H Q → r v u H Q) : OpR X f r' := fun pins s σ H x y v u Q I rx ry q => h pins s σ H x y v u Q I rx ry (i _ _ _ _ q)
section
variable {G : Sg} {X : Cx} {w : Wd} {a : Addr} {vs : List V}
theorem sqT_of (cK : G.K = X.K) (h : RdF w a (.tup vs) ∨ KTup G.K a vs) : SqT X.K w.H a vs := by
  rw [← cK]
  exact h.imp (fun z => z.2) id
theorem sqL_of (cK : G.K = X.K) (h : RdF w a (.lst vs) ∨ KLst G.K a vs) : SqL X.K w.H a vs := by
  rw [← cK]
  exact h.imp (fun z => z.2) id
end
def lim : Nat := 16777216
theorem lim_eq : lim = sizeLine := by decide
def dAdd : D → D → M D
  | .int i, .int j => M.pure (.int (i + j))
  | .str x, .str y => if x.length + y.length ≤ lim then M.pure (.str (x ++ y)) else M.stuck
  | .lst a, .lst b => if a.length + b.length ≤ lim then M.pure (.lst (a ++ b)) else M.stuck
  | .tup a, .tup b => if a.length + b.length ≤ lim then M.pure (.tup (a ++ b)) else M.stuck
  | _, _ => M.stuck
def dSub : D → D → M D
  | .int i, .int j => M.pure (.int (i - j))
  | _, _ => M.stuck
def mulOk (i j : Int) : Bool := decide ((Builtin.Int.intBits i : Int) + (Builtin.Int.intBits j : Int) ≤ 134217728)
theorem mulOk_of {i j : Int} (h : mulOk i j = true) : CMulX i j := by
  have z : (Builtin.Int.intBits i : Int) + (Builtin.Int.intBits j : Int) ≤ 134217728 := of_decide_eq_true h
  exact z
theorem mulOk_by {i j : Int} {a b : Nat} (ha : i.natAbs < 2 ^ a) (hb : j.natAbs < 2 ^ b) (h : a + b ≤ 134217728) : mulOk i j = true := by
  unfold mulOk
  exact decide_eq_true (mulx_ok ha hb h)
def dMul : D → D → M D
  | .int i, .int j => if mulOk i j = true then M.pure (.int (i * j)) else M.stuck
  | .lst a, .int k => if a.length * k.toNat ≤ lim ∧ -(2 ^ 63) ≤ k ∧ k < 2 ^ 63 then M.pure (.lst (List.replicate k.toNat a).flatten) else M.stuck
  | .tup a, .int k => if 2 ≤ k ∧ k ≤ 1000 ∧ a.length ≤ 1000 ∧ a.isEmpty = false then M.pure (.tup (List.replicate k.toNat a).flatten) else M.stuck
  | _, _ => M.stuck
def divOk (j : Int) : Bool := decide (0 < j) && decide (j.natAbs.log2 < 9000)
def dFdiv : D → D → M D
  | .int i, .int j => if divOk j = true then M.pure (.int (i / j)) else M.stuck
  | _, _ => M.stuck
def dMod : D → D → M D
  | .int i, .int j => if 0 < j then M.pure (.int (i % j)) else M.stuck
  | _, _ => M.stuck
def dPow : D → D → M D
  | .int i, .int j => if 0 ≤ j ∧ j ≤ 1000000 ∧ i.natAbs < 2 ^ 64 then M.pure (.int (i ^ j.toNat)) else M.stuck
  | _, _ => M.stuck
def dCmpI (p : Int → Int → Bool) : D → D → M D
  | .int i, .int j => M.pure (.bl (p i j))
  | _, _ => M.stuck
section
variable {G : Sg} {X : Cx}
theorem FinG.ite {α β : Type} {rep : Wd → α → β → Prop} {W : Value → Option Addr → Hp → Prop} {w : Wd} {Q : β → Hp → Prop} {c : Prop} [Decidable c] {f : M α} {S : List Ob} (h : FinG G rep W w Q ((if c then f else M.stuck) S)) : c ∧ FinG G rep W w Q (f S) := by
  by_cases hc : c
  · rw [if_pos hc] at h; exact ⟨hc, h⟩
  · rw [if_neg hc] at h; exact h.elim
theorem o_int {f : Value → Value → Sem Value} {C : Int → Int → Prop} {g : Int → Int → V} {g' : Int → Int → D} {dg : D → D → M D} (h : OpR X f (rI C g)) (hg : ∀ w i j, RepV G w (g' i j) (g i j))
    (hd : ∀ d e S W w Q, FinG G (RepV G) W w Q (dg d e S) → ∃ i j, d = .int i ∧ e = .int j ∧ C i j ∧ dg d e S = M.pure (g' i j) S) : OpR X f (rD2 G dg) := by
  refine OpR.imp h fun v u H Q q => ?_
  obtain ⟨W, w, S, d, e, rfl, s, r1, r2, q⟩ := q
  obtain ⟨i, j, rfl, rfl, c, eq⟩ := hd d e S W w Q q
  rw [eq] at q
  exact ⟨i, j, r1, r2, c, fin_pure q s (hg w i j)⟩
theorem o_int0 {f : Value → Value → Sem Value} {g : Int → Int → V} {g' : Int → Int → D} {dg : D → D → M D} (h : OpR X f (rI0 g)) (hg : ∀ w i j, RepV G w (g' i j) (g i j))
    (hd : ∀ d e S W w Q, FinG G (RepV G) W w Q (dg d e S) → ∃ i j, d = .int i ∧ e = .int j ∧ dg d e S = M.pure (g' i j) S) : OpR X f (rD2 G dg) := by
  refine OpR.imp h fun v u H Q q => ?_
  obtain ⟨W, w, S, d, e, rfl, s, r1, r2, q⟩ := q
  obtain ⟨i, j, rfl, rfl, eq⟩ := hd d e S W w Q q
  rw [eq] at q
  exact ⟨i, j, r1, r2, fin_pure q s (hg w i j)⟩
theorem o_cmpI {op : CmpOp} {p : Int → Int → Bool} (h : OpR X (compareOp op) (rI0 fun i j => .bl (p i j))) : OpR X (compareOp op) (rD2 G (dCmpI p)) :=
  o_int0 (g' := fun i j => .bl (p i j)) h (fun _ _ _ => rfl) fun d e S W w Q q => by
    cases d <;> cases e <;> first | exact ⟨_, _, rfl, rfl, rfl⟩ | exact q.elim
theorem o_lt : OpR X (compareOp .Lt) (rD2 G (dCmpI fun i j => decide (i < j))) := o_cmpI op_lt
theorem o_le : OpR X (compareOp .LtE) (rD2 G (dCmpI fun i j => decide (i ≤ j))) := o_cmpI op_le
theorem o_gt : OpR X (compareOp .Gt) (rD2 G (dCmpI fun i j => decide (j < i))) := o_cmpI op_gt
theorem o_ge : OpR X (compareOp .GtE) (rD2 G (dCmpI fun i j => decide (j ≤ i))) := o_cmpI op_ge
theorem o_fdiv : OpR X (binaryOp .FloorDiv) (rD2 G dFdiv) := o_int (g' := fun i j => .int (i / j)) (C := fun i j => CDivW i j) op_fdivW (fun _ _ _ => rfl) fun d e S W w Q q => by
    cases d <;> cases e <;> first
      | exact q.elim
      | (obtain ⟨c, q⟩ := FinG.ite q
         refine ⟨_, _, rfl, rfl, ?_, congrFun (if_pos c) S⟩
         unfold divOk at c
         rw [Bool.and_eq_true] at c
         exact ⟨of_decide_eq_true c.1, of_decide_eq_true c.2⟩)
instance {i j : Int} : Decidable (CDivW i j) := by unfold CDivW; infer_instance
theorem o_mod : OpR X (binaryOp .Mod) (rD2 G dMod) := o_int (g' := fun i j => .int (i % j)) (C := fun _ j => 0 < j) op_mod (fun _ _ _ => rfl) fun d e S W w Q q => by
    cases d <;> cases e <;> first
      | exact q.elim
      | (obtain ⟨c, q⟩ := FinG.ite q
         exact ⟨_, _, rfl, rfl, c, congrFun (if_pos c) S⟩)
instance {i j : Int} : Decidable (CPow i j) := by unfold CPow; infer_instance
theorem o_pow : OpR X (binaryOp .Pow) (rD2 G dPow) := o_int (g' := fun i j => .int (i ^ j.toNat)) (C := CPow) op_pow (fun _ _ _ => rfl) fun d e S W w Q q => by
    cases d <;> cases e <;> first
      | exact q.elim
      | (obtain ⟨c, q⟩ := FinG.ite q
         exact ⟨_, _, rfl, rfl, c, congrFun (if_pos c) S⟩)
theorem o_add (cK : G.K = X.K) : OpR X (binaryOp .Add) (rD2 G dAdd) := by
  refine OpR.imp (op_add.or (op_add_str.or (op_cat.or op_catA))) fun v u H Q q => ?_
  obtain ⟨W, w, S, d, e, rfl, s, r1, r2, q⟩ := q
  cases d <;> cases e <;> first | exact q.elim | skip
  · exact .inl ⟨_, _, r1, r2, fin_pure (b := V.int _) q s rfl⟩
  · obtain ⟨c, q⟩ := FinG.ite q
    exact .inr (.inl ⟨_, _, r1, r2, by rw [← lim_eq]; exact c, fin_pure (b := V.str _) q s rfl⟩)
  · rename_i ds es
    obtain ⟨c, q⟩ := FinG.ite q
    obtain ⟨a, va, ea, ha, ra⟩ := r1
    obtain ⟨b, vb, eb, hb, rb⟩ := r2
    rw [ra.length, rb.length, lim_eq] at c
    refine .inr (.inr (.inr ⟨a, b, va, vb, ea, eb, sqT_of cK ha, sqT_of cK hb, c, fun e => ?_, fun n e => ?_, fun _ _ p hp => ?_⟩))
    · subst e
      have e : ds = [] := List.eq_nil_of_length_eq_zero (by rw [ra.length]; rfl)
      subst e
      exact fin_pure q s ⟨b, vb, rfl, hb, rb⟩
    · subst e
      have e : es = [] := List.eq_nil_of_length_eq_zero (by rw [rb.length]; rfl)
      subst e
      rw [List.append_nil] at q
      exact fin_pure q s ⟨a, va, rfl, ha, ra⟩
    · exact q (w.frz p (.tup (va ++ vb))) _ (Ext.frz hp) (s.frz hp) ⟨p, _, rfl, .inl ⟨.inr rfl, .inl upd_same⟩, RepVs.mono (Ext.frz hp) s.dj _ _ (RepVs.append ra rb)⟩
  · rename_i ds es
    obtain ⟨c, q⟩ := FinG.ite q
    obtain ⟨a, va, ea, fa, ha, ra⟩ := r1
    obtain ⟨b, vb, eb, fb, hb, rb⟩ := r2
    rw [ra.length, rb.length, lim_eq] at c
    refine .inr (.inr (.inl ⟨a, b, va, vb, ea, eb, ha, hb, c, fun p hp => ?_⟩))
    exact q (w.frz p (.lst (va ++ vb))) _ (Ext.frz hp) (s.frz hp) ⟨p, _, rfl, .inr rfl, upd_same, RepVs.mono (Ext.frz hp) s.dj _ _ (RepVs.append ra rb)⟩
instance {i j : Int} : Decidable (CMulW i j) := by unfold CMulW; infer_instance
theorem o_mul (cK : G.K = X.K) : OpR X (binaryOp .Mult) (rD2 G dMul) := by
  refine OpR.imp (op_mulX.or (op_rep.or op_repT)) fun v u H Q q => ?_
  obtain ⟨W, w, S, d, e, rfl, s, r1, r2, q⟩ := q
  cases d <;> cases e <;> first | exact q.elim | skip
  · obtain ⟨c, q⟩ := FinG.ite q
    exact .inl ⟨_, _, r1, r2, mulOk_of c, fin_pure (b := V.int _) q s rfl⟩
  · rename_i ds k
    have q : FinG G (RepV G) W w Q ((if 2 ≤ k ∧ k ≤ 1000 ∧ ds.length ≤ 1000 ∧ ds.isEmpty = false then M.pure (.tup (List.replicate k.toNat ds).flatten) else M.stuck) S) := q
    obtain ⟨⟨c1, c2, c, c3⟩, q⟩ := FinG.ite q
    obtain ⟨a, va, ea, ha, ra⟩ := r1
    rw [ra.length] at c
    refine .inr (.inr ⟨a, k, va, ea, r2, sqT_of cK ha, fun e => ?_, c1, c2, c, fun p hp => ?_⟩)
    · subst e
      have e : ds = [] := List.eq_nil_of_length_eq_zero (by rw [ra.length]; rfl)
      rw [e] at c3
      cases c3
    · exact q (w.frz p _) _ (Ext.frz hp) (s.frz hp) ⟨p, _, rfl, .inl ⟨.inr rfl, .inl upd_same⟩, RepVs.mono (Ext.frz hp) s.dj _ _ (RepVs.rep _ ra)⟩
  · rename_i ds k
    obtain ⟨⟨c, c1, c2⟩, q⟩ := FinG.ite q
    obtain ⟨a, va, ea, fa, ha, ra⟩ := r1
    rw [ra.length, lim_eq] at c
    refine .inr (.inl ⟨a, k, va, ea, r2, ha, c1, c2, c, fun p hp => ?_⟩)
    exact q (w.frz p _) _ (Ext.frz hp) (s.frz hp) ⟨p, _, rfl, .inr rfl, upd_same, RepVs.mono (Ext.frz hp) s.dj _ _ (RepVs.rep _ ra)⟩
end
end Ev
set_option maxRecDepth 100000
set_option maxHeartbeats 2000000
namespace Ev
open PySem PySem.Spec PyProof.Rows L2
structure Rm (b : Bool) (k : Nat) (A : Around) : Prop where
  room : Room k A
  gd : b = true → A.guards = some []
theorem Rm.mono {b : Bool} {j k : Nat} {A : Around} (h : Rm b k A) (l : j ≤ k) : Rm b j A := ⟨h.room.mono l, h.gd⟩
theorem Rm.deeper {b : Bool} {k : Nat} {A : Around} (h : Rm b (k + 1) A) (env : Env) : Rm b k (A.deeper env) := ⟨h.room.deeper env, h.gd⟩
theorem Rm.in1 {b : Bool} {k : Nat} {A : Around} (h : Rm b (k + 1) A) : Rm b k A.in1 := ⟨h.room.in1, h.gd⟩
theorem make_guards {A : Around} {C : Addr} {us : List Value} {kw : List (Str × Value)} (h : A.guards = some []) :
    (A.under (.builtin "type.__call__" ⟨.ref C :: us, kw⟩)).guards = some [] := by
  show pushGuards (Code.guards (.builtin "type.__call__" ⟨.ref C :: us, kw⟩)) A.guards = some []
  rw [h]
  have e : Code.guards (.builtin "type.__call__" ⟨.ref C :: us, kw⟩) = [] := by
    show (if guardIds.contains "type.__call__" = true then _ else _) = _
    rw [if_neg (by decide +kernel)]
  rw [e]
  rfl
theorem Rm.make {b : Bool} {k : Nat} {A : Around} (h : Rm b (k + 1) A) (C : Addr) (us : List Value) (kw : List (Str × Value)) :
    Rm b k (A.under (.builtin "type.__call__" ⟨.ref C :: us, kw⟩)) := ⟨h.room.make C us kw, fun z => make_guards (h.gd z)⟩
structure Gn (P : Program) (w : World) (K : PySem.W.Frag) (mg : Str → Option Value) (base : Heap) (b : Bool) (k : Nat) (f : Addr) (fd : FuncData) (ps : List Str) (sp : Sp) : Prop where
  len : ∀ vs H Q E, sp vs H Q E → vs.length = ps.length
  run : ∀ (A : Around) (fr : List Env) (s : Shared) (H : Hp) (args : Args) (us : List Value) (vs : List V) (Q : VK) (E : XK),
    Rm b k A → Env0 P w K mg base A fr s H → BindsTo s fd args (ps.zip us) → Vals vs us → sp vs H Q E →
    codeAny (model P w) A (.call (.ref f) args) (CR (L2.CX P w) fr P w H s Q E) s
section
variable {P : Program} {w : World} {K : PySem.W.Frag} {mg : Str → Option Value} {base : Heap} {b : Bool} {j k : Nat} {f : Addr} {fd : FuncData} {sp : Sp} {N ps : List Str}
theorem Gn.mono (F : Gn P w K mg base b j f fd ps sp) (h : j ≤ k) : Gn P w K mg base b k f fd ps sp :=
  ⟨F.len, fun A fr s H args us vs Q E hr => F.run A fr s H args us vs Q E (hr.mono h)⟩
theorem gn_of {name qual : Str} {params : Arguments} {body : List Stmt} {scope : Scope} {dV kV doc pm cdv ct oc : Value} {an od : Option Addr} {osl : Array (Option Value)}
    (lk : K.lookup f = some ⟨oc, od, .func (PySem.W.fnOf name qual params body scope dV kV doc pm an cdv ct), osl⟩) (hcd : PySem.W.codeIn K cdv qual = true) (SC : FnScope N ps scope)
    (len : ∀ vs H Q E, sp vs H Q E → vs.length = ps.length)
    (hb : ∀ (A : Around) (fr : List Env) (s : Shared) (H : Hp) (vs : List V) (Q : VK) (E : XK),
      Rm b k (A.deeper (envOfC qual scope s.heap.objs.size f cdv)) → sp vs H Q E →
      ∃ t, PSs (cxOf (L2.CX P w) P w K mg base N qual scope f cdv A fr s H E) body t ∧ t { nx := fun _ H' => Q .non H', rt := Q } (start N vs) H) :
    Gn P w K mg base b (k + 1) f (PySem.W.fnOf name qual params body scope dV kV doc pm an cdv ct) ps sp := by
  refine ⟨len, ?_⟩
  intro A fr s H args us vs Q E hr e0 hbind rv hsp
  have inK : K.In s.heap := by
    refine e0.mod.kin.keeps ?_
    exact fun b o e => (e0.bs b o e).1
  have noL : s.heap.NoLimit := by
    refine e0.mod.nolimit.keeps ?_
    exact fun b o e => (e0.bs b o e).1
  have kinds : ∀ y ∈ ps.zip us, scope.names.lookup y.1 = some .local ∨
      (scope.names.lookup y.1 = some .cell ∧ ((cellsFrom (s.heap.objs.size + 1) scope.names []).lookup y.1).isSome = true) := by
    rintro ⟨n, v⟩ hy
    have hn := SC.par n (List.of_mem_zip hy).1
    exact hn.imp id fun q => ⟨q, PySem.W.cellsFrom_some _ _ _ (.inl q)⟩
  refine codeAny_call_function hr.room.depth (inK _ _ lk) rfl SC.co SC.gen rfl ?_ (hbind _ _ _ _ ?_)
  · exact PySem.W.codeRec_of inK hcd
  refine wpAny_newFunctionEnv_cells SC.kind kinds ?_
  rintro env rfl s1 x
  refine ⟨noL.keeps x.toInCall.keep, codeAny_func ?_⟩
  obtain ⟨t, ht, hq⟩ := hb A fr s H vs Q E (hr.deeper _) hsp
  have I := inv_start (CX := L2.CX P w) (P := P) (w := w) (E := E) SC hr.room.hd e0 (len _ _ _ _ hsp) rv x
  have run := ht.run [] s1 _ H _ I hq
  refine wpAny_mono run ?_ (fun e s' hs => hs)
  intro fl s' hs
  cases fl with
  | ret u =>
    obtain ⟨v, σ', H', J, r', q⟩ := hs
    exact ⟨v, H', J.os, J.bare, J.base, J.hok, r', q⟩
  | next =>
    obtain ⟨σ', H', J, q⟩ := hs
    exact ⟨V.non, H', J.os, J.bare, J.base, J.hok, rfl, q⟩
  | brk =>
    obtain ⟨_, _, _, q⟩ := hs
    exact q.elim
  | cont =>
    obtain ⟨_, _, _, q⟩ := hs
    exact q.elim
end
def spV (G : Sg) (g : List D → M D) : Sp := fun vs H Q E => ∃ w ds S, w.H = H ∧ RepS G w S ∧ RepVs G w ds vs ∧ FinG G (RepV G) E w Q (g ds S)
abbrev PassS (X : Cx) (W : WX) : Prop := ∀ σ, PassesAt (L2.CX X.prog X.w) X σ (WE W σ)
end Ev
set_option maxRecDepth 100000
set_option maxHeartbeats 2000000
namespace Ev
open PySem PySem.Spec PyProof.Rows L2
structure Ctx (G : Sg) (X : Cx) (W : WX) (k : Nat) : Prop where
  cK : G.K = X.K
  calm : X.calm = true
  rm : Rm G.gd (k + 1) X.A
  nd : X.N.Nodup
  px : PassS X W
  po : PassesOwn (model X.prog X.w) X.A X.env X.xe
theorem Ctx.rm0 {G : Sg} {X : Cx} {W : WX} {k : Nat} (c : Ctx G X W k) : Rm G.gd k X.A := c.rm.mono (Nat.le_succ _)
structure FnA (P : Program) (w : World) (K : PySem.W.Frag) (mg : Str → Option Value) (base : Heap) (G : Sg) (k : Nat) (f : Addr) (sem : List D → M D) : Prop where
  run : ∀ (A : Around) (fr : List Env) (s : Shared) (H : Hp) (us : List Value) (vs : List V) (Q : VK) (E : XK),
    Rm G.gd k A → Env0 P w K mg base A fr s H → Vals vs us → spV G sem vs H Q E → codeAny (model P w) A (.call (.ref f) ⟨us, []⟩) (CR (L2.CX P w) fr P w H s Q E) s
  kp : PySem.W.keepIn K (.ref f) = true
theorem FnA.of {P : Program} {w : World} {K : PySem.W.Frag} {mg : Str → Option Value} {base : Heap} {G : Sg} {k : Nat} {f : Addr} {fd : FuncData} {ps : List Str} {sem : List D → M D} (g : Gn P w K mg base G.gd k f fd ps (spV G sem)) (b : Binds K fd ps [])
    (kp : PySem.W.keepIn K (.ref f) = true) : FnA P w K mg base G k f sem := by
  refine ⟨fun A fr s H us vs Q E hr e0 r h => ?_, kp⟩
  have hl : us.length = ps.length := r.length.symm.trans (g.len _ _ _ _ h)
  have inK : K.In s.heap := e0.mod.kin.keeps fun b o e => (e0.bs b o e).1
  have hb := b s us inK (by rw [List.append_nil]; exact hl)
  rw [List.append_nil] at hb
  exact g.run A fr s H ⟨us, []⟩ us vs Q E hr e0 hb r h
theorem FnA.mono {P : Program} {w : World} {K : PySem.W.Frag} {mg : Str → Option Value} {base : Heap} {G : Sg} {j k : Nat} {f : Addr} {sem : List D → M D} (F : FnA P w K mg base G j f sem) (h : j ≤ k) : FnA P w K mg base G k f sem :=
  ⟨fun A fr s H us vs Q E hr => F.run A fr s H us vs Q E (hr.mono h), F.kp⟩
abbrev FnX (X : Cx) (G : Sg) (k : Nat) (f : Addr) (sem : List D → M D) : Prop := FnA X.prog X.w X.K X.mg X.base G k f sem
section
variable {G : Sg} {X : Cx} {W : WX} {k n : Nat} {f : Addr} {sem : List D → M D} {x : Str} {p pos apos : Pos} {e o : Expr} {es : List Expr} {fa : List SV → M (List D)} {σ : L2.St}
theorem run_fa {pins : List (Addr × Obj)} {H : Hp} {s : Shared} {Q : VK} {us : List Value} {vs : List V} (c : Ctx G X W k) (F : FnX X G k f sem) (I : Inv X pins σ H s) (r : Vals vs us)
    (h : spV G sem vs H Q (WE W σ)) : wpAny (model X.prog X.w) X.A (call (.ref f) us) (EP X pins σ Q) X.xe s := by
  have body := F.run X.A X.stack s H us vs Q (WE W σ) c.rm0 I.env0 r h
  refine wpAny_call (codeAny_mono body ?_)
  intro res s' hq
  rcases res with e | fl
  · exact c.px σ pins H s e s' I hq
  · cases fl with
    | ret u => exact I.after hq
    | next => exact hq.elim
    | brk => exact hq.elim
    | cont => exact hq.elim
def insOf : Option Ob → Option Nat
  | some (.ins c _) => some c
  | _ => none
def clsOf (d : D) : M Nat := fun S => match d with
  | .ins c _ => some (.ok c, S)
  | .ref n => match insOf S[n]? with
    | some c => some (.ok c, S)
    | none => none
  | _ => none
theorem clsOf_rep {w : Wd} {S : List Ob} {d : D} {v : V} {c : Nat} {S' : List Ob} (s : RepS G w S) (r : RepV G w d v) (h : clsOf d S = some (.ok c, S')) : S' = S ∧ ∃ a dx vs, v = .ref a ∧ w.H a = some (.ins (G.ca c) dx ((G.fn c).zip vs)) := by
  unfold clsOf at h
  cases d with
  | ins c' ds =>
    simp only [Option.some.injEq, Prod.mk.injEq, Except.ok.injEq] at h
    obtain ⟨rfl, rfl⟩ := h
    obtain ⟨a, dx, vs, e1, _, h1, _⟩ := r
    exact ⟨rfl, a, dx, vs, e1, h1⟩
  | ref n =>
    obtain ⟨a, e1, h1⟩ := r
    rcases hn : S[n]? with _ | ⟨_ | _ | ⟨c', ds⟩⟩
    · simp [hn, insOf] at h
    · simp [hn, insOf] at h
    · simp [hn, insOf] at h
    · simp only [hn, insOf, Option.some.injEq, Prod.mk.injEq, Except.ok.injEq] at h
      obtain ⟨rfl, rfl⟩ := h
      obtain ⟨dx, vs, h2, _⟩ := s.ob n a _ h1 hn
      exact ⟨rfl, a, dx, vs, e1, h2⟩
  | _ => simp at h
theorem clsOf_noerr {d : D} {S S' : List Ob} {x : Exn} : clsOf d S ≠ some (.error x, S') := by
  intro h
  unfold clsOf at h
  split at h
  · simp at h
  · split at h <;> simp at h
  · simp at h
theorem lookup_zip_none {m : Str} : ∀ {fs : List Str} {vs : List V}, m ∉ fs → (fs.zip vs).lookup m = none
  | [], _, _ => rfl
  | _ :: _, [], _ => rfl
  | f :: fs, v :: vs, h => by
    have h1 : ¬ m = f := fun e => h (by rw [e]; exact List.mem_cons_self)
    rw [List.zip_cons_cons, List.lookup_cons]
    have hb : (m == f) = false := by simpa using h1
    rw [hb]
    exact lookup_zip_none fun z => h (List.mem_cons_of_mem _ z)
theorem lookup_zip_some {m : Str} : ∀ {fs : List Str} {vs : List V} {i : Nat} {v : V}, fs.Nodup → fs[i]? = some m → vs[i]? = some v → (fs.zip vs).lookup m = some v
  | [], _, _, _, _, h, _ => by simp at h
  | _ :: _, [], _, _, _, _, h => by simp at h
  | f :: fs, u :: vs, 0, v, _, h1, h2 => by
    simp at h1 h2
    subst h1 h2
    simp
  | f :: fs, u :: vs, i + 1, v, nd, h1, h2 => by
    have nd := List.nodup_cons.mp nd
    have hm : fs[i]? = some m := by simpa using h1
    have hne : (m == f) = false := by
      have : ¬ m = f := fun e => nd.1 (e ▸ List.mem_of_getElem? hm)
      simpa using this
    rw [List.zip_cons_cons, List.lookup_cons, hne]
    exact lookup_zip_some nd.2 hm (by simpa using h2)
def plainBase : Expr → Bool
  | .Call (.Name _ _) [] [] _ => false
  | _ => true
theorem attr_base {env : Env} {m : Str} {whole : Sem Value} (h : plainBase o = true) : attributeBase o m env whole = whole := by
  unfold attributeBase
  split
  · cases h
  · rfl
theorem star_form {env : Env} : ∀ {l : List Expr}, l.all notStar = true → (backTo pos (starEach l env)).all (fun y => !y.1) = true
  | [], _ => rfl
  | a :: l, h => by
    have h : notStar a = true ∧ l.all notStar = true := by simpa using h
    rw [starEach_cons h.1]
    show (true && (backTo pos (starEach l env)).all (fun y => !y.1)) = true
    rw [star_form h.2]
    rfl
theorem meth_tree {env : Env} {m : Str} {args : List Expr} (hb : plainBase o = true) (hs : args.all notStar = true) (hl : args.length < 30) (hp : (apos.endLine == pos.line) = true) :
    eval (.Call (.Attribute o m apos) args [] pos) env = (do
      let ov ← eval o env
      standAt apos.atName
      let (f, first) ← holding [ov] (getMethod ov m (do return (← importBound o env).getD true))
      callWith pos f first (backTo pos (starEach args env)) (backToKw pos (keywordEach [] env))) := by
  have e1 : eval (.Call (.Attribute o m apos) args [] pos) env = (do
      let ov ← attributeBase o m env (eval o env)
      standAt apos.atName
      methodCall o m apos pos env ov (args.length + ([] : List Keyword).length) (backTo pos (starEach args env)) (backToKw pos (keywordEach [] env))) := rfl
  have few : methodCallForm (args.length + ([] : List Keyword).length) (backTo pos (starEach args env)) (backToKw pos (keywordEach [] env)) = true := by
    unfold methodCallForm
    rw [star_form hs]
    show (true && true && decide (args.length + 0 + 0 < 30)) = true
    rw [decide_eq_true (by omega)]
    rfl
  rw [e1, attr_base hb]
  unfold methodCall
  rw [few]
  have mp : methodCallPos true o env apos pos = (pure pos : Sem Pos) := by
    unfold methodCallPos
    rw [hp]
    rfl
  rw [mp]
  rfl
def pick (tbl : Nat → Option (List D → M D)) (d : D) : M (List D → M D) := M.bind (clsOf d) fun c => match tbl c with
  | some g => M.pure g
  | none => M.stuck
theorem pick_fin {α β : Type} {rep : Wd → α → β → Prop} {W' : Value → Option Addr → Hp → Prop} {w : Wd} {Q : β → Hp → Prop} {S : List Ob} {tbl : Nat → Option (List D → M D)} {d : D} {k : (List D → M D) → M α} {v : V} (s : RepS G w S) (rd : RepV G w d v)
    (h : FinG G rep W' w Q (M.bind (pick tbl d) k S)) : ∃ c g, tbl c = some g ∧ FinG G rep W' w Q (k g S) ∧ clsOf d S = some (.ok c, S) ∧ ∃ a dx vs, v = .ref a ∧ w.H a = some (.ins (G.ca c) dx ((G.fn c).zip vs)) := by
  unfold pick M.bind at h
  rcases hc : clsOf d S with _ | ⟨x | c, S2⟩
  · rw [hc] at h; exact h.elim
  · exact absurd hc clsOf_noerr
  · obtain ⟨rfl, a, dx, vs, e1, h1⟩ := clsOf_rep s rd hc
    rw [hc] at h
    simp only at h
    rcases ht : tbl c with _ | g
    · rw [ht] at h; exact h.elim
    · rw [ht] at h
      exact ⟨c, g, ht, h, rfl, a, dx, vs, e1, h1⟩
def fldsOf (d : D) : M (Nat × List D) := fun S => match d with
  | .ins c ds => some (.ok (c, ds), S)
  | .ref n => match S[n]? with
    | some (.ins c ds) => some (.ok (c, ds), S)
    | _ => none
  | _ => none
theorem fldsOf_rep {w : Wd} {S : List Ob} {d : D} {v : V} {c : Nat} {ds : List D} {S' : List Ob} (s : RepS G w S) (r : RepV G w d v) (h : fldsOf d S = some (.ok (c, ds), S')) :
    S' = S ∧ ∃ a dx vs, v = .ref a ∧ w.H a = some (.ins (G.ca c) dx ((G.fn c).zip vs)) ∧ RepVs G w ds vs := by
  unfold fldsOf at h
  cases d with
  | ins c' es =>
    simp only [Option.some.injEq, Prod.mk.injEq, Except.ok.injEq] at h
    obtain ⟨⟨rfl, rfl⟩, rfl⟩ := h
    obtain ⟨a, dx, vs, e1, _, h1, _, h3⟩ := r
    exact ⟨rfl, a, dx, vs, e1, h1, h3⟩
  | ref n =>
    obtain ⟨a, e1, h1⟩ := r
    rcases hn : S[n]? with _ | ⟨_ | _ | ⟨c', es⟩⟩
    · simp [hn] at h
    · simp [hn] at h
    · simp [hn] at h
    · simp only [hn, Option.some.injEq, Prod.mk.injEq, Except.ok.injEq] at h
      obtain ⟨⟨rfl, rfl⟩, rfl⟩ := h
      obtain ⟨dx, vs, h2, _, h3⟩ := s.ob n a _ h1 hn
      exact ⟨rfl, a, dx, vs, e1, h2, h3⟩
  | _ => simp at h
theorem fldsOf_noerr {d : D} {S S' : List Ob} {x : Exn} : fldsOf d S ≠ some (.error x, S') := by
  intro h
  unfold fldsOf at h
  split at h
  · simp at h
  · split at h <;> simp at h
  · simp at h
inductive At where
  | fld (i : Nat)
  | prop (g : List D → M D)
def noErr {α : Type} (f : M α) : M α := fun S => match f S with
  | some (.ok a, S') => some (.ok a, S')
  | _ => none
def attr (tbl : Nat → Option At) (d : D) : M D := M.bind (fldsOf d) fun cd => match tbl cd.1 with
  | some (.fld i) => match cd.2[i]? with
    | some x => M.pure x
    | none => M.stuck
  | some (.prop g) => noErr (g [d])
  | none => M.stuck
structure AttrT (X : Cx) (G : Sg) (k : Nat) (m : Str) (tbl : Nat → Option At) : Prop where
  fld : ∀ c i, tbl c = some (.fld i) → Cls X.K (G.ca c) ∧ NoAttr X.K (G.ca c) m ∧ (G.fn c).Nodup ∧ (G.fn c)[i]? = some m
  prop : ∀ c g, tbl c = some (.prop g) → ∃ p f, Cls X.K (G.ca c) ∧ PropOf X.K (G.ca c) m p f ∧ FnX X G k f g
theorem run_prop {pins : List (Addr × Obj)} {H : Hp} {s : Shared} {Q : VK} {b : Bool} {E' : Value → Shared → Prop} {a C dx p : Addr} {fs : List (Str × V)} {m : Str} (hr : Rm G.gd (k + 1) X.A) (I : Inv X pins σ H s) (ea : H a = some (.ins C dx fs)) (cl : Cls X.K C)
    (hp : PropOf X.K C m p f) (F : FnX X G k f sem) (h : spV G sem [.ref a] H Q (fun _ _ _ => False)) : wpAny (model X.prog X.w) X.A (getAttr (.ref a) m b) (EP X pins σ Q) E' s := by
  obtain ⟨mA, O, _, _, _, _⟩ := ins_get I.hok ea
  obtain ⟨od, J, _⟩ := O.look
  obtain ⟨rest, hrec⟩ := hp.rec_
  have I1 := I.tok (s.toks + 1)
  have hc : (PySem.W.clsIn X.K C).isSome = true := by
    obtain ⟨cd, hc, _⟩ := PySem.W.any_some cl.hd
    exact hc ▸ rfl
  have pg := PySem.W.plainGet_of (cl.get m)
  have body := F.run X.A.in1 X.stack { s with toks := s.toks + 1 } H [.ref a] [.ref a] Q (fun _ _ _ => False) hr.in1 I1.env0.in1 (.cons rfl .nil) h
  refine PySem.W.get_bind I.kIn J pg.1 (PySem.W.findObj_data hc hp.at_ hp.get hp.tak) pg.2 (wpAny_call (PySem.W.prop_get (s := { s with toks := s.toks + 1 }) I.kIn hrec (codeAny_mono body ?_)))
  intro res s' hq
  rcases res with er | fl
  · obtain ⟨_, _, _, _, _, _, _, _, _, _, _, _, z⟩ := hq
    exact z.elim
  · cases fl with
    | ret u =>
      obtain ⟨v, H', I3, rv, q3⟩ := I1.after hq
      show wpAny _ _ (handedOut u) _ _ _
      rw [PySem.W.handedOut_of (handed_of rv)]
      exact wpAny_pure ⟨v, H', I3, rv, q3⟩
    | next => exact hq.elim
    | brk => exact hq.elim
    | cont => exact hq.elim
theorem noErr_fin {W' W'' : Value → Option Addr → Hp → Prop} {α β : Type} {rep : Wd → α → β → Prop} {w : Wd} {Q : β → Hp → Prop} {S : List Ob} {g : M α} (h : FinG G rep W' w Q (noErr g S)) : FinG G rep W'' w Q (g S) := by
  unfold noErr at h
  rcases hg : g S with _ | ⟨x | a, S2⟩
  · rw [hg] at h; exact h.elim
  · rw [hg] at h; exact h.elim
  · rw [hg] at h; exact h
theorem v_attr {m : Str} {tbl : Nat → Option At} {fo : List SV → M D} (c : Ctx G X W k) (T : AttrT X G k m tbl) (ho : PV G X W o fo) (hb : plainBase o = true) : PV G X W (.Attribute o m pos) (fun sd => M.bind (fo sd) (attr tbl)) := by
  constructor
  intro pins s σ H Q I ⟨w0, w, sd, S, eH, r, q⟩
  refine attr_of (attr_base hb) (thn (ho.run pins s σ H (fun v H1 => ∃ w1 S1 d, w1.H = H1 ∧ RepS G w1 S1 ∧ RepV G w1 d v ∧ FinG G (RepV G) (fun c x H => W c x σ H) w1 Q (attr tbl d S1)) I ?_) ?_)
  · exact ⟨w0, w, sd, S, eH, r, fin_step q fun w1 S1 d v e1 s1 rv q1 => ⟨w1, S1, d, rfl, s1, rv, q1⟩⟩
  · rintro u s1 ⟨v, H1, I1, rv, w1, S1, d, eH1, s1', rd, q1⟩
    subst eH1
    unfold attr M.bind at q1
    rcases hc : fldsOf d S1 with _ | ⟨x | ⟨c', ds⟩, S2⟩
    · rw [hc] at q1; exact q1.elim
    · exact absurd hc fldsOf_noerr
    · obtain ⟨rfl, a, dx, vs, ev, hv, hds⟩ := fldsOf_rep s1' rd hc
      subst ev
      obtain rfl : u = Value.ref a := rv
      rw [hc] at q1
      simp only at q1
      rcases ht : tbl c' with _ | ⟨i | g⟩
      · rw [ht] at q1; exact q1.elim
      · rw [ht] at q1
        simp only at q1
        obtain ⟨cl, na, nd, hi⟩ := T.fld c' i ht
        rcases hx : ds[i]? with _ | y
        · rw [hx] at q1; exact q1.elim
        · rw [hx] at q1
          obtain ⟨z, hz, rz⟩ := hds.get hx
          refine getattr_ok I1 hv cl na (lookup_zip_some nd hi hz) fun u2 s2 I2 r2 => ?_
          exact ⟨z, w1.H, I2, r2, fin_pure q1 s1' rz⟩
      · rw [ht] at q1
        obtain ⟨p, f, cl, hp, F⟩ := T.prop c' g ht
        exact run_prop c.rm I1 hv cl hp F ⟨w1, [d], S2, rfl, s1', ⟨_, _, rfl, rd, rfl⟩, noErr_fin q1⟩
end
end Ev
set_option maxRecDepth 100000
set_option maxHeartbeats 2000000
namespace Ev
open PySem PySem.Spec PyProof.Rows L2
inductive Out where
  | next (sd : List SV) | ret (d : D) | brk (sd : List SV) | cont (sd : List SV) | err (e : Exn) (sd : List SV)
abbrev MS : Type := List SV → List Ob → Option (Out × List Ob)
def FinS (G : Sg) (W : WX) (w0 w : Wd) (D : Ends) : Option (Out × List Ob) → Prop
  | none => False
  | some (.next sd, S) => ∀ w' σ', Stay w w' → R G w0 w' sd S σ' → D.nx σ' w'.H
  | some (.ret d, S) => ∀ w' v, Ext w0 w' → RepS G w' S → RepV G w' d v → D.rt v w'.H
  | some (.brk sd, S) => ∀ w' σ', Stay w w' → R G w0 w' sd S σ' → D.bk σ' w'.H
  | some (.cont sd, S) => ∀ w' σ', Stay w w' → R G w0 w' sd S σ' → D.ct σ' w'.H
  | some (.err e sd, S) => ∀ w' σ' cls x, Stay w w' → R G w0 w' sd S σ' → RepX G w' e cls x → W cls x σ' w'.H
def tsV (G : Sg) (W : WX) (f : MS) : TS := fun D σ H => ∃ w0 w sd S, w.H = H ∧ R G w0 w sd S σ ∧ FinS G W w0 w D (f sd S)
abbrev PSV (G : Sg) (X : Cx) (W : WX) (st : Stmt) (f : MS) : Prop := PS X st (tsV G W f)
abbrev PSsV (G : Sg) (X : Cx) (W : WX) (st : List Stmt) (f : MS) : Prop := PSs X st (tsV G W f)
theorem FinS.stay {G : Sg} {W : WX} {w0 w w1 : Wd} {D : Ends} {r : Option (Out × List Ob)} (e : Stay w w1) (h : FinS G W w0 w D r) : FinS G W w0 w1 D r := by
  rcases r with _ | ⟨_ | _ | _ | _ | _, _⟩
  · exact h
  · exact fun w' σ' s => h w' σ' (e.trans s)
  · exact h
  · exact fun w' σ' s => h w' σ' (e.trans s)
  · exact fun w' σ' s => h w' σ' (e.trans s)
  · exact fun w' σ' c x s => h w' σ' c x (e.trans s)
def exS {α : Type} (f : List SV → M α) (k : α → MS) : MS := fun sd S => match f sd S with
  | none => none
  | some (.error e, S1) => some (.err e sd, S1)
  | some (.ok d, S1) => k d sd S1
def seqS (f g : MS) : MS := fun sd S => match f sd S with
  | some (.next sd', S') => g sd' S'
  | o => o
def nextS : MS := fun sd S => some (.next sd, S)
def stuckS : MS := fun _ _ => none
section
variable {G : Sg} {X : Cx} {W : WX} {k : Nat} {w0 w : Wd} {En : Ends}
theorem exS_step {α β : Type} {rep : Wd → α → β → Prop} {f : List SV → M α} {kk : α → MS} {sd : List SV} {S : List Ob} {σ : L2.St} {Q : β → Hp → Prop} (h : FinS G W w0 w En (exS f kk sd S)) (r : R G w0 w sd S σ)
    (c : ∀ w1 S1 d v, Ext w w1 → R G w0 w1 sd S1 σ → rep w1 d v → FinS G W w0 w1 En (kk d sd S1) → Q v w1.H) : FinG G rep (fun c x H => W c x σ H) w Q (f sd S) := by
  unfold exS at h
  rcases hf : f sd S with _ | ⟨_ | d, S1⟩
  · rw [hf] at h; exact h
  · rw [hf] at h
    exact fun w' cls x e s rx => h w' σ cls x (e.stay r.st.dj) (r.step e s) rx
  · rw [hf] at h
    exact fun w' v e s rv => c w' S1 d v e (r.step e s) rv (FinS.stay (e.stay r.st.dj) h)
theorem ss_nil : PSsV G X W [] nextS := by
  refine PSs.imp pss_nil fun D σ H h => ?_
  obtain ⟨w0, w, sd, S, e, r, q⟩ := h
  subst e
  exact q w σ (Stay.refl w) r
theorem ss_cons {st : Stmt} {rest : List Stmt} {f g : MS} (h1 : PSV G X W st f) (h2 : PSsV G X W rest g) : PSsV G X W (st :: rest) (seqS f g) := by
  refine PSs.imp (pss_cons h1 h2) fun D σ H h => ?_
  obtain ⟨w0, w, sd, S, e, r, q⟩ := h
  refine ⟨w0, w, sd, S, e, r, ?_⟩
  unfold seqS at q
  rcases hf : f sd S with _ | ⟨_ | _ | _ | _ | _, S1⟩
  · rw [hf] at q; exact q
  · rw [hf] at q
    exact fun w' σ' s r' => ⟨w0, w', _, S1, rfl, r', FinS.stay s q⟩
  · rw [hf] at q; exact q
  · rw [hf] at q; exact q
  · rw [hf] at q; exact q
  · rw [hf] at q; exact q
theorem ss_never {sts : List Stmt} : PSsV G X W sts stuckS := ⟨fun _ _ _ _ _ _ ⟨_, _, _, _, _, _, q⟩ => q.elim⟩
theorem s_never {st : Stmt} : PSV G X W st stuckS := ⟨fun _ _ _ _ _ _ ⟨_, _, _, _, _, _, q⟩ => q.elim⟩
def retS (f : List SV → M D) : MS := exS f fun d _ S => some (.ret d, S)
theorem s_ret {e : Expr} {f : List SV → M D} {pos : Pos} (h : PV G X W e f) : PSV G X W (.Return (some e) pos) (retS f) := by
  refine PS.imp (ps_ret h) fun D σ H q => ?_
  obtain ⟨w0, w, sd, S, e, r, q⟩ := q
  exact ⟨w0, w, sd, S, e, r, exS_step q r fun w1 S1 d v _ r1 rv q1 => q1 w1 v r1.ex r1.st rv⟩
def swapFree : Expr → Bool
  | .ListComp .. | .SetComp .. | .DictComp .. => false
  | _ => true
theorem swap_free {e : Expr} {t : Option Expr} {l : Nat} {env : Env} (h : swapFree e = true) : swapsWith e t l env = pure false := by
  cases e <;> first | rfl | cases h
theorem s_expr {e : Expr} {f : List SV → M D} {pos : Pos} (h : PV G X W e f) (hs : swapFree e = true) : PSV G X W (.Expr e pos) (exS f fun _ => nextS) := by
  refine PS.imp (ps_expr h (swap_free hs)) fun D σ H q => ?_
  obtain ⟨w0, w, sd, S, e, r, q⟩ := q
  exact ⟨w0, w, sd, S, e, r, exS_step q r fun w1 S1 d v _ r1 rv q1 => q1 w1 σ (Stay.refl w1) r1⟩
theorem s_if {c : Expr} {a b : List Stmt} {fc : List SV → M Bool} {fa fb : MS} {pos : Pos} (hc : PB G X W c fc) (ha : PSsV G X W a fa) (hb : PSsV G X W b fb) :
    PSV G X W (.If c a b pos) (exS fc fun k => if k = true then fa else fb) := by
  refine PS.imp (ps_if hc ha hb) fun D σ H q => ?_
  obtain ⟨w0, w, sd, S, e, r, q⟩ := q
  refine ⟨w0, w, sd, S, e, r, exS_step q r fun w1 S1 d v _ r1 rv q1 => ?_⟩
  cases (show v = d from rv)
  cases d with
  | true => exact ⟨w0, w1, sd, S1, rfl, r1, q1⟩
  | false => exact ⟨w0, w1, sd, S1, rfl, r1, q1⟩
theorem R.setv {sd : List SV} {S : List Ob} {σ : L2.St} {d : D} {v : V} (r : R G w0 w sd S σ) (rv : RepV G w d v) (i : Nat) : R G w0 w (sd.set i (.val d)) S (σ.set i (some v)) := by
  have key : ∀ {j : Nat} {x : SV}, (sd.set i (.val d))[j]? = some x → (j = i ∧ i < sd.length ∧ x = .val d) ∨ (j ≠ i ∧ sd[j]? = some x) := fun {j x} h => by
    by_cases e : i = j
    · subst e
      by_cases l : i < sd.length
      · rw [List.getElem?_set_self l] at h
        cases h
        exact .inl ⟨rfl, l, rfl⟩
      · rw [List.getElem?_eq_none (by simpa using l)] at h
        cases h
    · rw [List.getElem?_set_ne e] at h
      exact .inr ⟨fun z => e z.symm, h⟩
  refine ⟨r.ex, r.st, by rw [List.length_set, List.length_set]; exact r.ln, fun j x h => ?_, fun j o h => ?_, fun j1 j2 o o' a h1 h2 h3 h4 => ?_, fun a o e h => by
    rcases key h with ⟨_, _, e⟩ | ⟨ne, h⟩
    · cases e
    · rw [List.getElem?_set_ne (fun z => ne z.symm)]
      exact r.sf a o e h⟩
  · rcases key h with ⟨rfl, l, e⟩ | ⟨ne, h⟩
    · cases e
      exact ⟨v, List.getElem?_set_self (by rw [r.ln]; exact l), rv⟩
    · rw [List.getElem?_set_ne (fun z => ne z.symm)]
      exact r.vl j x h
  · rcases key h with ⟨_, _, e⟩ | ⟨ne, h⟩
    · cases e
    · rw [List.getElem?_set_ne (fun z => ne z.symm)]
      exact r.ow j o h
  · rcases key h1 with ⟨_, _, e⟩ | ⟨n1, h1⟩
    · cases e
    · rcases key h2 with ⟨_, _, e⟩ | ⟨n2, h2⟩
      · cases e
      · rw [List.getElem?_set_ne (fun z => n1 z.symm)] at h3
        rw [List.getElem?_set_ne (fun z => n2 z.symm)] at h4
        exact r.ap j1 j2 o o' a h1 h2 h3 h4
abbrev Tgt : Type := D → List SV → List Ob → Option (List SV × List Ob)
abbrev Tgts : Type := List D → List SV → List Ob → Option (List SV × List Ob)
def FinT (G : Sg) (w0 w : Wd) (σ : L2.St) (ts : List Nat) (Q : L2.St → Hp → Prop) : Option (List SV × List Ob) → Prop
  | none => False
  | some (sd, S) => ∀ w' σ', Stay w w' → R G w0 w' sd S σ' → (∀ i, i ∉ ts → σ'[i]? = σ[i]?) → Q σ' w'.H
def tgV (G : Sg) (ts : List Nat) (f : Tgt) : TG := fun v σ H Q => ∃ w0 w sd S d, w.H = H ∧ R G w0 w sd S σ ∧ RepV G w d v ∧ FinT G w0 w σ ts Q (f d sd S)
def tgsV (G : Sg) (ts : List Nat) (n : Nat) (f : Tgts) : TGs := fun vs σ H Q => ∃ w0 w sd S ds, w.H = H ∧ R G w0 w sd S σ ∧ RepVs G w ds vs ∧ ds.length = n ∧ FinT G w0 w σ ts Q (f ds sd S)
abbrev PGV (G : Sg) (X : Cx) (ts : List Nat) (t : Expr) (f : Tgt) : Prop := PG X t (tgV G ts f)
abbrev PGsV (G : Sg) (X : Cx) (ts : List Nat) (n : Nat) (t : List Expr) (f : Tgts) : Prop := PGs X t (tgsV G ts n f)
theorem PG.imp {t : Expr} {g g' : TG} (h : PG X t g) (i : ∀ v σ H Q, g' v σ H Q → g v σ H Q) : PG X t g' := ⟨fun p s σ H v u Q I r q => h.run p s σ H v u Q I r (i _ _ _ _ q)⟩
theorem PGs.imp {t : List Expr} {g g' : TGs} (h : PGs X t g) (i : ∀ v σ H Q, g' v σ H Q → g v σ H Q) : PGs X t g' := ⟨fun p s σ H v u Q I r q => h.run p s σ H v u Q I r (i _ _ _ _ q)⟩
theorem PG.or {t : Expr} {g g' : TG} (h : PG X t g) (h' : PG X t g') : PG X t (fun v σ H Q => g v σ H Q ∨ g' v σ H Q) := ⟨fun p s σ H v u Q I r q => q.elim (h.run p s σ H v u Q I r) (h'.run p s σ H v u Q I r)⟩
def setT (i : Nat) : Tgt := fun d sd S => some (sd.set i (.val d), S)
theorem g_name {i : Nat} {x : Str} {pos : Pos} (hN : X.N.Nodup) (hi : X.N[i]? = some x) (hx : Loc X.env.scope x) (hf : X.fn x = true ∨ X.env.scope.names.lookup x = some .local) : PGV G X [i] (.Name x pos) (setT i) := by
  refine PG.imp (pg_name hN hi hx hf) fun v σ H Q q => ?_
  obtain ⟨w0, w, sd, S, d, e, r, rv, q⟩ := q
  subst e
  refine q w (σ.set i (some v)) (Stay.refl w) (r.setv rv i) fun j hj => ?_
  rw [List.getElem?_set_ne (fun z => hj (by rw [z]; exact List.mem_cons_self))]
theorem gs_nil : PGsV G X [] 0 [] (fun _ sd S => some (sd, S)) := by
  refine PGs.imp pgs_nil fun vs σ H Q q => ?_
  obtain ⟨w0, w, sd, S, ds, e, r, rv, hl, q⟩ := q
  subst e
  have ed : ds = [] := List.eq_nil_of_length_eq_zero hl
  subst ed
  exact ⟨rv, q w σ (Stay.refl w) r fun _ _ => rfl⟩
def consT (f : Tgt) (g : Tgts) : Tgts := fun ds sd S => match ds with
  | [] => none
  | d :: ds => match f d sd S with
    | none => none
    | some (sd1, S1) => g ds sd1 S1
theorem assignEach_cons {e : Expr} {es : List Expr} {env : Env} (h : notStar e = true) : assignEach (e :: es) env = (false, assign e env) :: assignEach es env := by
  cases e <;> first | rfl | cases h
theorem gs_cons {ts us : List Nat} {n : Nat} {e : Expr} {es : List Expr} {f : Tgt} {g : Tgts} (h1 : PGV G X ts e f) (h2 : PGsV G X us n es g) (hs : notStar e = true) : PGsV G X (ts ++ us) (n + 1) (e :: es) (consT f g) := by
  refine PGs.imp (pgs_cons h1 h2 (by rw [assignEach_cons hs]; rfl)) fun vs σ H Q q => ?_
  obtain ⟨w0, w, sd, S, ds, e, r, rv, hl, q⟩ := q
  subst e
  cases ds with
  | nil => exact q.elim
  | cons d ds =>
    obtain ⟨v, vr, ev, rd, rr⟩ := rv
    refine ⟨v, vr, ev, w0, w, sd, S, d, rfl, r, rd, ?_⟩
    unfold consT at q
    simp only at q
    rcases hf : f d sd S with _ | ⟨sd1, S1⟩
    · rw [hf] at q; exact q
    · rw [hf] at q
      simp only at q
      intro w1 σ1 s1 r1 k1
      refine ⟨w0, w1, sd1, S1, ds, rfl, r1, RepVs.stay s1 _ _ rr, by simpa using hl, ?_⟩
      rcases hg : g ds sd1 S1 with _ | ⟨sd2, S2⟩
      · rw [hg] at q; exact q
      · rw [hg] at q
        intro w2 σ2 s2 r2 k2
        refine q w2 σ2 (s1.trans s2) r2 fun i hi => ?_
        rw [k2 i (fun z => hi (List.mem_append_right _ z)), k1 i (fun z => hi (List.mem_append_left _ z))]
def tupT (n : Nat) (g : Tgts) : Tgt := fun d sd S => match d with
  | .tup ds => if ds.length = n then g ds sd S else none
  | .lst ds => if ds.length = n then g ds sd S else none
  | _ => none
theorem assignEach_len {env : Env} : ∀ {es : List Expr}, es.all notStar = true → (assignEach es env).length = es.length ∧ (assignEach es env).findIdx? (·.1) = none
  | [], _ => ⟨rfl, rfl⟩
  | e :: es, h => by
    have h : notStar e = true ∧ es.all notStar = true := by simpa using h
    obtain ⟨h1, h2⟩ := assignEach_len (env := env) h.2
    rw [assignEach_cons h.1]
    refine ⟨by rw [List.length_cons, List.length_cons, h1], ?_⟩
    rw [List.findIdx?_cons]
    show (if false = true then _ else _) = none
    rw [if_neg Bool.false_ne_true, h2]
    rfl
theorem g_tup {ts : List Nat} {es : List Expr} {j n : Nat} {g : Tgts} {pos : Pos} (cK : G.K = X.K) (hc : X.calm = true) (h : PGsV G X ts n es g) (hs : es.all notStar = true) (hn : es.length = n) : PGV G X ts (.Tuple es j pos) (tupT n g) := by
  have hl := assignEach_len (env := X.env) hs
  refine PG.imp (PG.or (pg_tup hc h (hl.1.trans hn) hl.2) (pg_lst hc h (hl.1.trans hn) hl.2)) fun v σ H Q q => ?_
  obtain ⟨w0, w, sd, S, d, e, r, rv, q⟩ := q
  subst e
  cases d with
  | tup ds =>
    obtain ⟨a, vs, ev, ha, rs⟩ := rv
    by_cases hd : ds.length = n
    · simp only [tupT, if_pos hd] at q
      exact .inl ⟨a, vs, ev, sqT_of cK ha, by rw [← rs.length]; exact hd, w0, w, sd, S, ds, rfl, r, rs, hd, q⟩
    · simp only [tupT, if_neg hd] at q
      exact q.elim
  | lst ds =>
    obtain ⟨a, vs, ev, fa, ha, rs⟩ := rv
    by_cases hd : ds.length = n
    · simp only [tupT, if_pos hd] at q
      exact .inr ⟨a, vs, ev, .of ha, by rw [← rs.length]; exact hd, w0, w, sd, S, ds, rfl, r, rs, hd, q⟩
    · simp only [tupT, if_neg hd] at q
      exact q.elim
  | _ => exact q.elim
def asgS (f : List SV → M D) (t : Tgt) : MS := exS f fun d sd S => match t d sd S with
  | some (sd', S') => some (.next sd', S')
  | none => none
theorem asg_fin {ts : List Nat} {t : Tgt} {d : D} {sd : List SV} {S : List Ob} {σ : L2.St} {v : V} (q : FinS G W w0 w En (match t d sd S with | some (sd', S') => some (.next sd', S') | none => none)) (r : R G w0 w sd S σ) (rv : RepV G w d v) : tgV G ts t v σ w.H En.nx := by
  refine ⟨w0, w, sd, S, d, rfl, r, rv, ?_⟩
  rcases ht : t d sd S with _ | ⟨sd1, S1⟩
  · rw [ht] at q; exact q
  · rw [ht] at q
    exact fun w' σ' s r' _ => q w' σ' s r'
theorem s_asg {ts : List Nat} {tg e : Expr} {f : List SV → M D} {t : Tgt} {pos : Pos} (he : PV G X W e f) (hg : PGV G X ts tg t) (hs : swapsWithSole [tg] e pos.line X.env = pure false) (hw : swappedStores [tg] e X.env = pure none) (hst : notStar tg = true) :
    PSV G X W (.Assign [tg] e pos) (asgS f t) := by
  refine PS.imp (ps_asg he hg hs hw (by rw [assignEach_cons hst]; rfl)) fun D σ H q => ?_
  obtain ⟨w0, w, sd, S, e, r, q⟩ := q
  exact ⟨w0, w, sd, S, e, r, exS_step q r fun w1 S1 d v e1 r1 rv q1 => asg_fin q1 r1 rv⟩
theorem s_set {i : Nat} {x : Str} {e : Expr} {f : List SV → M D} {pos pos' : Pos} (c : Ctx G X W k) (hi : X.N[i]? = some x) (hx : Loc X.env.scope x) (he : PV G X W e f) (hs : swapFree e = true) (hf : X.fn x = true ∨ X.env.scope.names.lookup x = some .local) :
    PSV G X W (.Assign [.Name x pos'] e pos) (asgS f (setT i)) := by
  refine PS.imp (ps_set c.nd hi hx he (swap_free hs) hf) fun D σ H q => ?_
  obtain ⟨w0, w, sd, S, e, r, q⟩ := q
  exact ⟨w0, w, sd, S, e, r, exS_step q r fun w1 S1 d v e1 r1 rv q1 => q1 w1 (σ.set i (some v)) (Stay.refl w1) (r1.setv rv i)⟩
def parS (i j : Nat) (f : List SV → M (List D)) : MS := exS f fun ds sd S => match ds with
  | [a, b] => some (.next ((sd.set i (.val a)).set j (.val b)), S)
  | _ => none
end
end Ev
set_option maxRecDepth 100000
set_option maxHeartbeats 2000000
namespace Ev
open PySem PySem.Spec PyProof.Rows L2
structure Yld (G : Sg) (w : Wd) (ds : List D) (J : It) : Prop where
  stop : ∀ w' i, Stay w w' → ds.length ≤ i → J.stop i w'.H
  go : ∀ w' i, Stay w w' → i < ds.length → J.go i w'.H
  yld : ∀ w' i d x H' S, Stay w w' → RepS G w' S → ds[i]? = some d → J.yld i w'.H x H' → ∃ w'', w''.H = H' ∧ Ext w' w'' ∧ RepS G w'' S ∧ RepV G w'' d x
abbrev PIV (G : Sg) (X : Cx) (W : WX) (tg iter : Expr) (f : List SV → M (List D)) : Prop := PI X tg iter (fun σ H Rr => teG G (Yld G) W f σ H Rr)
theorem PI.imp {X : Cx} {t e : Expr} {g g' : TI} (h : PI X t e g) (i : ∀ σ H Q, g' σ H Q → g σ H Q) : PI X t e g' := ⟨fun p s σ H R I q => h.run p s σ H R I (i _ _ _ q)⟩
def seqOf : D → M (List D)
  | .lst ds => M.pure ds
  | .tup ds => M.pure ds
  | .scr ds => M.pure ds
  | _ => M.stuck
section
variable {G : Sg} {X : Cx} {W : WX} {k : Nat} {w : Wd}
theorem RepVs.get_len {ds : List D} {vs : List V} (h : RepVs G w ds vs) {i : Nat} : i < ds.length → ∃ v, vs[i]? = some v := fun hi => by
  obtain ⟨v, e, _⟩ := h.get (List.getElem?_eq_getElem hi)
  exact ⟨v, e⟩
theorem yld_list (cK : G.K = X.K) {ds : List D} {vs : List V} {a : Addr} (h : RdF w a (.lst vs) ∨ KLst G.K a vs) (r : RepVs G w ds vs) : Yld G w ds (Itl X.K a) := by
  have sq : ∀ w', Stay w w' → SqL X.K w'.H a vs := fun w' s => sqL_of cK (h.imp (fun z => z.stay s) id)
  refine ⟨fun w' i s hi => ⟨vs, sq w' s, by rw [← r.length]; exact hi⟩, fun w' i s hi => ?_, fun w' i d x H' S s st hd hy => ?_⟩
  · obtain ⟨v, e⟩ := r.get_len hi
    exact ⟨vs, v, sq w' s, e⟩
  · obtain ⟨e, hx⟩ := hy
    obtain ⟨v, ev, rv⟩ := r.get hd
    have := hx vs (sq w' s)
    rw [ev] at this
    cases this
    exact ⟨w', e.symm, Ext.refl _, st, RepV.stay s _ _ rv⟩
theorem yld_tup (cK : G.K = X.K) {ds : List D} {vs : List V} {a : Addr} (h : RdF w a (.tup vs) ∨ KTup G.K a vs) (r : RepVs G w ds vs) : Yld G w ds (Itt X.K a) := by
  have sq : ∀ w', Stay w w' → SqT X.K w'.H a vs := fun w' s => sqT_of cK (h.imp (fun z => z.stay s) id)
  refine ⟨fun w' i s hi => ⟨vs, sq w' s, by rw [← r.length]; exact hi⟩, fun w' i s hi => ?_, fun w' i d x H' S s st hd hy => ?_⟩
  · obtain ⟨v, e⟩ := r.get_len hi
    exact ⟨vs, v, sq w' s, e⟩
  · obtain ⟨e, hx⟩ := hy
    obtain ⟨v, ev, rv⟩ := r.get hd
    have := hx vs (sq w' s)
    rw [ev] at this
    cases this
    exact ⟨w', e.symm, Ext.refl _, st, RepV.stay s _ _ rv⟩
theorem PI.or {t e : Expr} {g g' : TI} (h : PI X t e g) (h' : PI X t e g') : PI X t e (fun σ H Q => g σ H Q ∨ g' σ H Q) := ⟨fun p s σ H R I q => q.elim (h.run p s σ H R I) (h'.run p s σ H R I)⟩
theorem i_seq {tg e : Expr} {f : List SV → M D} (c : Ctx G X W k) (he : PV G X W e f) : PIV G X W tg e (fun sd => M.bind (f sd) seqOf) := by
  refine PI.imp (PI.or (pi_list he) (pi_tup he)) fun σ H Q q => ?_
  obtain ⟨w0, w, sd, S, e, r, q⟩ := q
  rcases hf : f sd S with _ | ⟨x | d, S1⟩
  · simp only [M.bind, hf] at q; exact q.elim
  · refine .inl ⟨w0, w, sd, S, e, r, ?_⟩
    simp only [M.bind, hf] at q
    rw [hf]
    exact q
  · simp only [M.bind, hf] at q
    cases d with
    | lst ds =>
      refine .inl ⟨w0, w, sd, S, e, r, ?_⟩
      rw [hf]
      intro w' v e1 s1 rv
      obtain ⟨a, vs, ev, fa, ha, rs⟩ := rv
      have hh : RdF w' a (.lst vs) ∨ KLst G.K a vs := .inl ⟨fa, .inl ha⟩
      exact ⟨a, ev, ⟨vs, sqL_of c.cK hh⟩, q w' _ e1 s1 (yld_list c.cK hh rs)⟩
    | scr ds =>
      refine .inl ⟨w0, w, sd, S, e, r, ?_⟩
      rw [hf]
      intro w' v e1 s1 rv
      obtain ⟨a, vs, ev, hh, rs⟩ := rv
      exact ⟨a, ev, ⟨vs, sqL_of c.cK hh⟩, q w' _ e1 s1 (yld_list c.cK hh rs)⟩
    | tup ds =>
      refine .inr ⟨w0, w, sd, S, e, r, ?_⟩
      rw [hf]
      intro w' v e1 s1 rv
      obtain ⟨a, vs, ev, hh, rs⟩ := rv
      exact ⟨a, ev, ⟨vs, sqT_of c.cK hh⟩, q w' _ e1 s1 (yld_tup c.cK hh rs)⟩
    | _ => exact q.elim
def rngD (lo : Int) (n : Nat) : List D := (List.range n).map fun i => .int (lo + (i : Nat))
theorem yld_rng {lo : Int} {n : Nat} : Yld G w (rngD lo n) (Itr lo n) := by
  have hl : (rngD lo n).length = n := by unfold rngD; rw [List.length_map, List.length_range]
  refine ⟨fun w' i s hi => by rw [hl] at hi; exact hi, fun w' i s hi => by rw [hl] at hi; exact hi, fun w' i d x H' S s st hd hy => ?_⟩
  obtain ⟨e1, e2⟩ := hy
  refine ⟨w', e1.symm, Ext.refl _, st, ?_⟩
  unfold rngD at hd
  rw [List.getElem?_map] at hd
  rcases hr : (List.range n)[i]? with _ | j
  · rw [hr] at hd; cases hd
  · rw [hr] at hd
    have hj : i = j := by
      have h2 := List.getElem?_eq_some_iff.mp hr
      obtain ⟨h3, h4⟩ := h2
      rw [List.getElem_range] at h4
      exact h4
    cases hd
    rw [hj] at e2
    exact e2
def rng1 : List D → M (List D)
  | [.int j] => if -(2 ^ 62) ≤ j ∧ j < 2 ^ 62 then M.pure (rngD 0 j.toNat) else M.stuck
  | _ => M.stuck
def rng2 : List D → M (List D)
  | [.int i, .int j] => if (-(2 ^ 62) ≤ i ∧ i < 2 ^ 62) ∧ -(2 ^ 62) ≤ j ∧ j < 2 ^ 62 then M.pure (rngD i (j - i).toNat) else M.stuck
  | _ => M.stuck
theorem i_rng1 {tg a : Expr} {n : Nat} {f : List SV → M (List D)} {p pos : Pos} (hg : Gl X "range") (hm : X.mg "range" = none) (ha : PLn G X W n [a] f) (hs : notStar a = true) : PIV G X W tg (.Call (.Name "range" p) [a] [] pos) (fun sd => M.bind (f sd) rng1) := by
  refine PI.imp (pi_range1 hg hm ha (starEach_cons hs)) fun σ H Q q => ?_
  obtain ⟨w0, w, sd, S, e, r, q⟩ := q
  refine ⟨w0, w, sd, S, e, r, fin_step q fun w1 S1 ds vs e1 s1 rv q1 => ?_⟩
  rcases ds with _ | ⟨d, _ | ⟨d2, ds⟩⟩
  · exact q1.elim
  · cases d with
    | int j =>
      obtain ⟨v, t, ev, h1, h2⟩ := rv.1
      cases (show t = [] from h2)
      cases (show v = .int j from h1)
      obtain ⟨⟨c1, c2⟩, q1⟩ := FinG.ite q1
      exact ⟨j, ev, c1, c2, fin_pure q1 s1 yld_rng⟩
    | _ => exact q1.elim
  · cases d <;> exact q1.elim
def loopS (t : Tgt) (body : MS) : List D → MS
  | [] => nextS
  | d :: ds => fun sd S => match t d sd S with
    | none => none
    | some (sd1, S1) => match body sd1 S1 with
      | some (.next sd2, S2) => loopS t body ds sd2 S2
      | some (.cont sd2, S2) => loopS t body ds sd2 S2
      | some (.brk sd2, S2) => some (.next sd2, S2)
      | o => o
def forS (f : List SV → M (List D)) (t : Tgt) (body : MS) : MS := exS f (loopS t body)
def setFree : Expr → Bool
  | .Set .. => false
  | _ => true
theorem set_free {e : Expr} {env : Env} (h : setFree e = true) : ∀ x, foldedSetIterable e env x = pure x := by
  intro x
  cases e <;> first | rfl | cases h
theorem drop_cons {α : Type} {l : List α} {i : Nat} (h : i < l.length) : ∃ d, l[i]? = some d ∧ l.drop i = d :: l.drop (i + 1) := ⟨l[i], List.getElem?_eq_getElem h, List.drop_eq_getElem_cons h⟩
theorem s_for {ts : List Nat} {tg iter : Expr} {body : List Stmt} {f : List SV → M (List D)} {t : Tgt} {fb : MS} {pos : Pos} (c : Ctx G X W k) (hi : PIV G X W tg iter f) (hg : PGV G X ts tg t) (hb : PSsV G X W body fb) (hs : setFree iter = true) :
    PSV G X W (.For tg iter body [] pos) (forS f t fb) := by
  refine PS.imp (ps_for c.po c.calm hi hg hb (set_free hs)) fun En σ H q => ?_
  obtain ⟨w0, w, sd, S, e, r, q⟩ := q
  refine ⟨w0, w, sd, S, e, r, exS_step q r fun w1 S1 ds J e1 r1 Y q1 => ?_⟩
  refine ⟨fun i m σ H => m = ds.length - i ∧ i ≤ ds.length ∧ ∃ w sd S, w.H = H ∧ Stay w1 w ∧ R G w0 w sd S σ ∧ FinS G W w0 w En (loopS t fb (ds.drop i) sd S), ⟨_, rfl, Nat.zero_le _, w1, sd, S1, rfl, Stay.refl _, r1, q1⟩, ?_⟩
  rintro i m σ2 H2 ⟨rfl, hi2, w2, sd2, S2, rfl, st2, r2, q2⟩
  by_cases hlt : i < ds.length
  · obtain ⟨d, hd, hdr⟩ := drop_cons hlt
    rw [hdr] at q2
    refine .inr ⟨Y.go w2 i st2 hlt, _, fun σ' H' hN => ⟨ds.length - (i + 1), by omega, hN⟩, fun x H' hy => ?_⟩
    obtain ⟨w3, rfl, e3, s3, rx⟩ := Y.yld w2 i d x H' S2 st2 r2.st hd hy
    have r3 := r2.step e3 s3
    refine ⟨w0, w3, sd2, S2, d, rfl, r3, rx, ?_⟩
    unfold loopS at q2
    rcases ht : t d sd2 S2 with _ | ⟨sd4, S4⟩
    · rw [ht] at q2; exact q2
    · rw [ht] at q2
      simp only at q2
      intro w4 σ4 st4 r4 _
      refine ⟨w0, w4, sd4, S4, rfl, r4, ?_⟩
      have st24 : Stay w2 w4 := (e3.stay r2.st.dj).trans st4
      rcases hb : fb sd4 S4 with _ | ⟨_ | _ | _ | _ | _, S5⟩
      · rw [hb] at q2; exact q2
      · rw [hb] at q2
        exact fun w5 σ5 st5 r5 => ⟨rfl, hlt, w5, _, S5, rfl, st2.trans (st24.trans st5), r5, FinS.stay (st24.trans st5) q2⟩
      · rw [hb] at q2; exact q2
      · rw [hb] at q2
        exact fun w5 σ5 st5 r5 => q2 w5 σ5 (st24.trans st5) r5
      · rw [hb] at q2
        exact fun w5 σ5 st5 r5 => ⟨rfl, hlt, w5, _, S5, rfl, st2.trans (st24.trans st5), r5, FinS.stay (st24.trans st5) q2⟩
      · rw [hb] at q2
        exact fun w5 σ5 cl y st5 r5 => q2 w5 σ5 cl y (st24.trans st5) r5
  · have e : i = ds.length := by omega
    subst e
    rw [List.drop_length] at q2
    exact .inl ⟨Y.stop w2 _ st2 (Nat.le_refl _), q2 w2 σ2 (Stay.refl _) r2⟩
def iterS (c : List SV → M Bool) (body : MS) : Nat → MS
  | 0 => stuckS
  | n + 1 => exS c fun b => if b = true then (fun sd S => match body sd S with
      | some (.next sd2, S2) => iterS c body n sd2 S2
      | some (.cont sd2, S2) => iterS c body n sd2 S2
      | some (.brk sd2, S2) => some (.next sd2, S2)
      | o => o) else nextS
def bigW : Nat := 2 ^ 64
def whileS (c : List SV → M Bool) (body : MS) : MS := iterS c body bigW
theorem s_while {cond : Expr} {body : List Stmt} {f : List SV → M Bool} {fb : MS} {pos : Pos} (c : Ctx G X W k) (hc : PB G X W cond f) (hb : PSsV G X W body fb) : PSV G X W (.While cond body [] pos) (whileS f fb) := by
  refine PS.imp (ps_while c.po hc hb) fun En σ H q => ?_
  obtain ⟨w0, w, sd, S, e, r, q⟩ := q
  refine ⟨fun m σ H => ∃ w sd S, w.H = H ∧ R G w0 w sd S σ ∧ FinS G W w0 w En (iterS f fb m sd S), ⟨bigW, w, sd, S, e, r, q⟩, ?_⟩
  rintro m σ1 H1 ⟨w1, sd1, S1, rfl, r1, q1⟩
  cases m with
  | zero => exact q1.elim
  | succ m =>
    unfold iterS at q1
    refine ⟨w0, w1, sd1, S1, rfl, r1, exS_step q1 r1 fun w2 S2 d v e2 r2 rv q2 => ?_⟩
    cases (show v = d from rv)
    cases d with
    | false => exact q2 w2 σ1 (Stay.refl _) r2
    | true =>
      refine ⟨_, fun σ' H' hN => ⟨m, Nat.lt_succ_self _, hN⟩, w0, w2, sd1, S2, rfl, r2, ?_⟩
      have q2 : FinS G W w0 w2 En (match fb sd1 S2 with
        | some (.next sd2, S2) => iterS f fb m sd2 S2
        | some (.cont sd2, S2) => iterS f fb m sd2 S2
        | some (.brk sd2, S2) => some (.next sd2, S2)
        | o => o) := q2
      rcases hb : fb sd1 S2 with _ | ⟨_ | _ | _ | _ | _, S5⟩
      · rw [hb] at q2; exact q2
      · rw [hb] at q2
        exact fun w5 σ5 st5 r5 => ⟨w5, _, S5, rfl, r5, FinS.stay st5 q2⟩
      · rw [hb] at q2; exact q2
      · rw [hb] at q2
        exact fun w5 σ5 st5 r5 => q2 w5 σ5 st5 r5
      · rw [hb] at q2
        exact fun w5 σ5 st5 r5 => ⟨w5, _, S5, rfl, r5, FinS.stay st5 q2⟩
      · rw [hb] at q2
        exact fun w5 σ5 cl y st5 r5 => q2 w5 σ5 cl y st5 r5
end
end Ev
set_option maxRecDepth 100000
set_option maxHeartbeats 2000000
namespace Ev
open PySem PySem.Spec PyProof.Rows L2
def Wd.wr (w : Wd) (p : Addr) (o : HO) : Wd := ⟨w.m, w.F, upd w.H p o, w.x⟩
def Wd.fz (w : Wd) (p : Addr) : Wd := ⟨w.m, fun a => w.F a ∨ a = p, w.H, w.x⟩
section
variable {G : Sg} {w w1 : Wd} {S : List Ob} {p : Addr} {o : HO}
theorem Stay.wr (h : ¬ w.F p) : Stay w (w.wr p o) := ⟨⟨[], by simp [Wd.wr]⟩, fun _ z => z, fun a u f z => by
  show upd w.H p o a = some u
  rw [upd_ne (fun e => h (by rw [← e]; exact f))]; exact z⟩
theorem RepS.wr (s : RepS G w S) (hf : ¬ w.F p) (hm : p ∉ w.m) : RepS G (w.wr p o) S := by
  refine ⟨s.len, s.nd, s.dj, fun a h => ?_, fun n a u h1 h2 => ?_⟩
  · show upd w.H p o a ≠ none
    rw [upd_ne (fun e => hf (by rw [← e]; exact h))]
    exact s.fh a h
  · have ne : a ≠ p := fun z => hm (z ▸ List.mem_of_getElem? h1)
    exact RepO.to (upd_ne ne) (Stay.wr hf) (s.ob n a u h1 h2)
theorem Ext.wr (e : Ext w1 w) (hp : w1.H p = none) : Ext w1 (w.wr p o) := by
  refine ⟨e.m, e.F, fun b u hm h => ?_, e.nm, e.nF, fun b h => ?_⟩
  · show upd w.H p o b = some u
    rw [upd_ne (fun z => by rw [z, hp] at h; cases h)]
    exact e.H b u hm h
  · have h : upd w.H p o b = none := h
    by_cases z : b = p
    · rw [z]; exact hp
    · rw [upd_ne z] at h
      exact e.al b h
theorem Stay.fz : Stay w (w.fz p) := ⟨⟨[], by simp [Wd.fz]⟩, fun _ z => .inl z, fun _ _ _ z => z⟩
theorem RepS.fz (s : RepS G w S) (hm : p ∉ w.m) (hh : w.H p ≠ none) : RepS G (w.fz p) S := by
  refine ⟨s.len, s.nd, fun a h => ?_, fun a h => ?_, fun n a u h1 h2 => RepO.to (w := w) (w' := w.fz p) rfl Stay.fz (s.ob n a u h1 h2)⟩
  · rcases h with h | h
    · exact s.dj a h
    · rw [h]; exact hm
  · rcases h with h | h
    · exact s.fh a h
    · rw [h]; exact hh
theorem Ext.fz (e : Ext w1 w) (hp : w1.H p = none) : Ext w1 (w.fz p) := by
  refine ⟨e.m, fun a h => .inl (e.F a h), e.H, e.nm, fun b h => ?_, e.al⟩
  rcases h with h | h
  · exact e.nF b h
  · exact .inr (h ▸ hp)
end
abbrev TgP : Type := D → List SV → Option (List SV)
abbrev TgPs : Type := List D → List SV → Option (List SV)
def FinP (G : Sg) (w0 w : Wd) (S : List Ob) (σ : L2.St) (ts : List Nat) (Q : L2.St → Hp → Prop) : Option (List SV) → Prop
  | none => False
  | some sd => ∀ σ', R G w0 w sd S σ' → (∀ i, i ∉ ts → σ'[i]? = σ[i]?) → σ'.length = σ.length → Q σ' w.H
def tgP (G : Sg) (ts : List Nat) (f : TgP) : TG := fun v σ H Q => ∃ w0 w sd S d, w.H = H ∧ R G w0 w sd S σ ∧ RepV G w d v ∧ FinP G w0 w S σ ts Q (f d sd)
def tgPs (G : Sg) (ts : List Nat) (n : Nat) (f : TgPs) : TGs := fun vs σ H Q => ∃ w0 w sd S ds, w.H = H ∧ R G w0 w sd S σ ∧ RepVs G w ds vs ∧ ds.length = n ∧ FinP G w0 w S σ ts Q (f ds sd)
abbrev PGP (G : Sg) (X : Cx) (ts : List Nat) (t : Expr) (f : TgP) : Prop := PG X t (tgP G ts f)
abbrev PGPs (G : Sg) (X : Cx) (ts : List Nat) (n : Nat) (t : List Expr) (f : TgPs) : Prop := PGs X t (tgPs G ts n f)
def nmP (i : Nat) : TgP := fun d sd => some (sd.set i (.val d))
def consP (f : TgP) (g : TgPs) : TgPs := fun ds sd => match ds with
  | [] => none
  | d :: ds => match f d sd with
    | none => none
    | some sd1 => g ds sd1
def tupP (n : Nat) (g : TgPs) : TgP := fun d sd => match d with
  | .tup ds => if ds.length = n then g ds sd else none
  | .lst ds => if ds.length = n then g ds sd else none
  | _ => none
section
variable {G : Sg} {X : Cx} {W : WX} {k : Nat} {w0 w : Wd}
theorem p_name {i : Nat} {x : Str} {pos : Pos} (hN : X.N.Nodup) (hi : X.N[i]? = some x) (hx : Loc X.env.scope x) (hf : X.fn x = true ∨ X.env.scope.names.lookup x = some .local) : PGP G X [i] (.Name x pos) (nmP i) := by
  refine PG.imp (pg_name hN hi hx hf) fun v σ H Q q => ?_
  obtain ⟨w0, w, sd, S, d, e, r, rv, q⟩ := q
  subst e
  refine q (σ.set i (some v)) (r.setv rv i) (fun j hj => ?_) (List.length_set ..)
  rw [List.getElem?_set_ne (fun z => hj (by rw [z]; exact List.mem_cons_self))]
theorem ps_nilP : PGPs G X [] 0 [] (fun _ sd => some sd) := by
  refine PGs.imp pgs_nil fun vs σ H Q q => ?_
  obtain ⟨w0, w, sd, S, ds, e, r, rv, hl, q⟩ := q
  subst e
  have ed : ds = [] := List.eq_nil_of_length_eq_zero hl
  subst ed
  exact ⟨rv, q σ r (fun _ _ => rfl) rfl⟩
theorem ps_consP {ts us : List Nat} {n : Nat} {e : Expr} {es : List Expr} {f : TgP} {g : TgPs} (h1 : PGP G X ts e f) (h2 : PGPs G X us n es g) (hs : notStar e = true) : PGPs G X (ts ++ us) (n + 1) (e :: es) (consP f g) := by
  refine PGs.imp (pgs_cons h1 h2 (by rw [assignEach_cons hs]; rfl)) fun vs σ H Q q => ?_
  obtain ⟨w0, w, sd, S, ds, e, r, rv, hl, q⟩ := q
  subst e
  cases ds with
  | nil => exact q.elim
  | cons d ds =>
    obtain ⟨v, vr, ev, rd, rr⟩ := rv
    refine ⟨v, vr, ev, w0, w, sd, S, d, rfl, r, rd, ?_⟩
    unfold consP at q
    simp only at q
    rcases hf : f d sd with _ | sd1
    · rw [hf] at q; exact q
    · rw [hf] at q
      simp only at q
      intro σ1 r1 k1 l1
      refine ⟨w0, w, sd1, S, ds, rfl, r1, rr, by simpa using hl, ?_⟩
      rcases hg : g ds sd1 with _ | sd2
      · rw [hg] at q; exact q
      · rw [hg] at q
        intro σ2 r2 k2 l2
        refine q σ2 r2 (fun i hi => ?_) (l2.trans l1)
        rw [k2 i (fun z => hi (List.mem_append_right _ z)), k1 i (fun z => hi (List.mem_append_left _ z))]
theorem p_tup {ts : List Nat} {es : List Expr} {j n : Nat} {g : TgPs} {pos : Pos} (cK : G.K = X.K) (hc : X.calm = true) (h : PGPs G X ts n es g) (hs : es.all notStar = true) (hn : es.length = n) : PGP G X ts (.Tuple es j pos) (tupP n g) := by
  have hl := assignEach_len (env := X.env) hs
  refine PG.imp (PG.or (pg_tup hc h (hl.1.trans hn) hl.2) (pg_lst hc h (hl.1.trans hn) hl.2)) fun v σ H Q q => ?_
  obtain ⟨w0, w, sd, S, d, e, r, rv, q⟩ := q
  subst e
  cases d with
  | tup ds =>
    obtain ⟨a, vs, ev, ha, rs⟩ := rv
    by_cases hd : ds.length = n
    · simp only [tupP, if_pos hd] at q
      exact .inl ⟨a, vs, ev, sqT_of cK ha, by rw [← rs.length]; exact hd, w0, w, sd, S, ds, rfl, r, rs, hd, q⟩
    · simp only [tupP, if_neg hd] at q
      exact q.elim
  | lst ds =>
    obtain ⟨a, vs, ev, fa, ha, rs⟩ := rv
    by_cases hd : ds.length = n
    · simp only [tupP, if_pos hd] at q
      exact .inr ⟨a, vs, ev, .of ha, by rw [← rs.length]; exact hd, w0, w, sd, S, ds, rfl, r, rs, hd, q⟩
    · simp only [tupP, if_neg hd] at q
      exact q.elim
  | _ => exact q.elim
def wipeD (sd : List SV) : List Nat → List SV
  | [] => sd
  | v :: vs => (wipeD sd vs).set v .no
theorem R.setno {sd : List SV} {S : List Ob} {σ : L2.St} (r : R G w0 w sd S σ) (i : Nat) : R G w0 w (sd.set i .no) S (σ.set i none) := by
  have key : ∀ {j : Nat} {x : SV}, (sd.set i .no)[j]? = some x → x ≠ .no → j ≠ i ∧ sd[j]? = some x := fun {j x} h hx => by
    by_cases e : i = j
    · subst e
      by_cases l : i < sd.length
      · rw [List.getElem?_set_self l] at h
        cases h
        exact absurd rfl hx
      · rw [List.getElem?_eq_none (by simpa using l)] at h
        cases h
    · rw [List.getElem?_set_ne e] at h
      exact ⟨fun z => e z.symm, h⟩
  refine ⟨r.ex, r.st, by rw [List.length_set, List.length_set]; exact r.ln, fun j x h => ?_, fun j o h => ?_, fun j1 j2 o o' a h1 h2 h3 h4 => ?_, fun a o e h => by
    obtain ⟨ne, h⟩ := key h (fun z => nomatch z)
    rw [List.getElem?_set_ne (fun z => ne z.symm)]
    exact r.sf a o e h⟩
  · obtain ⟨ne, h⟩ := key h (fun z => nomatch z)
    rw [List.getElem?_set_ne (fun z => ne z.symm)]
    exact r.vl j x h
  · obtain ⟨ne, h⟩ := key h (fun z => nomatch z)
    rw [List.getElem?_set_ne (fun z => ne z.symm)]
    exact r.ow j o h
  · obtain ⟨n1, h1⟩ := key h1 (fun z => nomatch z)
    obtain ⟨n2, h2⟩ := key h2 (fun z => nomatch z)
    rw [List.getElem?_set_ne (fun z => n1 z.symm)] at h3
    rw [List.getElem?_set_ne (fun z => n2 z.symm)] at h4
    exact r.ap j1 j2 o o' a h1 h2 h3 h4
theorem R.wipe {sd : List SV} {S : List Ob} {σ : L2.St} (r : R G w0 w sd S σ) : ∀ vs : List Nat, R G w0 w (wipeD sd vs) S (wipe σ vs)
  | [] => r
  | v :: vs => (R.wipe r vs).setno v
theorem wipe_get (σ : L2.St) : ∀ (vs : List Nat) (j : Nat), (wipe σ vs)[j]? = if j ∈ vs then (if j < σ.length then some none else none) else σ[j]?
  | [], j => by simp [wipe]
  | v :: vs, j => by
    unfold wipe
    by_cases e : v = j
    · subst e
      rw [if_pos List.mem_cons_self]
      by_cases l : v < σ.length
      · rw [List.getElem?_set_self (by rw [wipe_length]; exact l), if_pos l]
      · rw [List.getElem?_eq_none (by rw [List.length_set, wipe_length]; omega), if_neg l]
    · rw [List.getElem?_set_ne e, wipe_get σ vs j]
      have : (j ∈ v :: vs) ↔ j ∈ vs := by simp [Ne.symm e, eq_comm, show ¬ j = v from fun z => e z.symm]
      by_cases hj : j ∈ vs
      · rw [if_pos hj, if_pos (this.mpr hj)]
      · rw [if_neg hj, if_neg (fun z => hj (this.mp z))]
theorem wipe_same {σ σ' : L2.St} {ts vs : List Nat} (h : ∀ i, i ∉ ts → σ'[i]? = (wipe σ vs)[i]?) (hl : σ'.length = (wipe σ vs).length) (hs : ∀ i ∈ ts, i ∈ vs) : wipe σ' vs = wipe σ vs := by
  refine List.ext_getElem? fun j => ?_
  rw [wipe_get σ' vs j, hl, wipe_length]
  by_cases hj : j ∈ vs
  · rw [if_pos hj, wipe_get σ vs j, if_pos hj]
  · rw [if_neg hj]
    exact h j fun z => hj (hs j z)
theorem fin_split {α β γ δ : Type} {G : Sg} {rep : Wd → α → β → Prop} {rep' : Wd → γ → δ → Prop} {W W' : Value → Option Addr → Hp → Prop} {wA wB : Wd} {Q : β → Hp → Prop} {Q' : δ → Hp → Prop} {f : M α} {k : α → M γ} {S : List Ob}
    (h : FinG G rep' W wA Q' (M.bind (noErr f) k S)) (c : ∀ w' S1 d v, Ext wB w' → RepS G w' S1 → rep w' d v → FinG G rep' W wA Q' (k d S1) → Q v w'.H) : FinG G rep W' wB Q (f S) := by
  unfold M.bind noErr at h
  rcases hf : f S with _ | ⟨_ | d, S1⟩
  · rw [hf] at h; exact h.elim
  · rw [hf] at h; exact h.elim
  · rw [hf] at h
    exact fun w' v e s r => c w' S1 d v e s r h
abbrev NoW : WX := fun _ _ _ _ => False
def compS (t : TgP) (tt : List SV → M Bool) (fe : List SV → M D) (sdw : List SV) : List D → List D → M (List D)
  | [], acc => M.pure acc
  | d :: ds, acc => match t d sdw with
    | none => M.stuck
    | some sd1 => M.bind (noErr (tt sd1)) fun b => if b = true then M.bind (noErr (fe sd1)) fun y => if acc.length < lim then compS t tt fe sdw ds (acc ++ [y]) else M.stuck else compS t tt fe sdw ds acc
def lcS (fi : List SV → M (List D)) (vs : List Nat) (t : TgP) (tt : List SV → M Bool) (fe : List SV → M D) : List SV → M D := fun sd => M.bind (fi sd) fun ds => M.bind (compS t tt fe (wipeD sd vs) ds []) fun acc => M.pure (.lst acc)
abbrev PTsV (G : Sg) (X : Cx) (W : WX) (es : List Expr) (f : List SV → M Bool) : Prop := PTs X es (teB G W f)
theorem PTs.imp {X : Cx} {e : List Expr} {t t' : TT} (h : PTs X e t) (i : ∀ σ H Q, t' σ H Q → t σ H Q) : PTs X e t' := ⟨fun p s σ H Q I q => h.run p s σ H Q I (i σ H Q q)⟩
theorem t_nil : PTsV G X W [] (fun _ => M.pure true) := by
  refine PTs.imp pts_nil fun σ H Q h => ?_
  obtain ⟨w0, w, sd, S, e, r, q⟩ := h
  subst e
  exact fin_pure q r.st rfl
theorem t_one {c : Expr} {f : List SV → M Bool} (h : PB G X W c f) : PTsV G X W [c] f := pts_one h
theorem lc_read {fi : List SV → M (List D)} {ts vs : List Nat} {t : TgP} {tt : List SV → M Bool} {fe : List SV → M D} (hts : ∀ i ∈ ts, i ∈ vs) {σ : L2.St} {H : Hp} {Q : VK} (h : teV G W (lcS fi vs t tt fe) σ H Q) :
    tLc (fun σ H Rr => teG G (Yld G) W fi σ H Rr) (tgP G ts t) (teB G NoW tt) (teV G NoW fe) vs σ H Q := by
  obtain ⟨w0, w, sd, S, e, r, q⟩ := h
  refine ⟨w0, w, sd, S, e, r, fin_step q fun w1 S1 ds J e1 s1 Y q1 => ?_⟩
  intro L hL
  have r1 := (r.step e1 s1).wipe vs
  have dj1 := s1.dj
  refine ⟨fun i m H => m = ds.length - i ∧ i ≤ ds.length ∧ ∃ w2 S2 acc xs, w2.H = H ∧ Ext w1 w2 ∧ RepS G w2 S2 ∧ w2.H L = some (.lst xs) ∧ RepVs G w2 acc xs ∧ ¬ w2.F L ∧ L ∉ w2.m ∧
    FinG G (RepV G) (fun c x H => W c x σ H) w1 Q (M.bind (compS t tt fe (wipeD sd vs) (ds.drop i) acc) (fun acc => M.pure (.lst acc)) S2),
    ⟨_, rfl, Nat.zero_le _, w1.new L (.lst []), S1, [], [], rfl, Ext.new hL, s1.new hL, upd_same, rfl, fun z => s1.fh L z hL, fun z => s1.there z hL, q1⟩, ?_⟩
  rintro i m H2 ⟨rfl, hi2, w2, S2, acc, xs, rfl, e2, s2, hx2, ra, nF, nm, q2⟩
  by_cases hlt : i < ds.length
  · obtain ⟨d, hd, hdr⟩ := drop_cons hlt
    rw [hdr] at q2
    have st2 := e2.stay dj1
    refine .inr ⟨Y.go w2 i st2 hlt, _, fun H' hN => ⟨ds.length - (i + 1), by omega, hN⟩, fun x H' hy => ?_⟩
    obtain ⟨w3, rfl, e3, s3, rx⟩ := Y.yld w2 i d x H' S2 st2 s2 hd hy
    have r3 := r1.step (e2.trans e3) s3
    refine ⟨w0, w3, _, S2, d, rfl, r3, rx, ?_⟩
    unfold compS at q2
    rcases ht : t d (wipeD sd vs) with _ | sd4
    · rw [ht] at q2; exact q2.elim
    · rw [ht] at q2
      simp only at q2
      intro σ4 r4 k4 l4
      refine ⟨wipe_same k4 l4 hts, ?_⟩
      rw [M.bind_assoc] at q2
      refine ⟨w0, w3, sd4, S2, rfl, r4, ?_⟩
      refine fin_split q2 fun w5 S5 b b' e5 s5 rb q5 => ?_
      cases (show b' = b from rb)
      have hx : ∀ {wz : Wd}, Ext w3 wz → wz.H L = some (.lst xs) ∧ RepVs G wz acc xs ∧ ¬ wz.F L ∧ L ∉ wz.m := fun {wz} ez => by
        have e23 := e3.trans ez
        refine ⟨e23.H L _ nm hx2, RepVs.mono e23 s2.dj _ _ ra, fun z => ?_, fun z => ?_⟩
        · rcases e23.nF L z with z | z
          · exact nF z
          · rw [hx2] at z; cases z
        · rcases e23.nm L z with z | z
          · exact nm z
          · rw [hx2] at z; cases z
      cases b with
      | false =>
        obtain ⟨h1, h2, h3, h4⟩ := hx e5
        exact ⟨rfl, hlt, w5, S5, acc, xs, rfl, e2.trans (e3.trans e5), s5, h1, h2, h3, h4, q5⟩
      | true =>
        have q5 : FinG G (RepV G) (fun c x H => W c x σ H) w1 Q (M.bind (M.bind (noErr (fe sd4)) fun y => if acc.length < lim then compS t tt fe (wipeD sd vs) (ds.drop (i + 1)) (acc ++ [y]) else M.stuck) (fun acc => M.pure (.lst acc)) S5) := q5
        rw [M.bind_assoc] at q5
        refine ⟨w0, w5, sd4, S5, rfl, r4.step e5 s5, fin_split q5 fun w6 S6 y v e6 s6 ry q6 => ?_⟩
        obtain ⟨h1, h2, h3, h4⟩ := hx (e5.trans e6)
        rw [M.bind_ite] at q6
        obtain ⟨c6, q6⟩ := FinG.ite q6
        have e16 : Ext w1 w6 := e2.trans (e3.trans (e5.trans e6))
        refine ⟨xs, h1, by rw [← h2.length, ← lim_eq]; exact c6, rfl, hlt, w6.wr L (.lst (xs ++ [v])), S6, acc ++ [y], xs ++ [v], rfl, Ext.wr e16 hL, s6.wr h3 h4, upd_same, ?_, h3, h4, q6⟩
        exact RepVs.append (RepVs.stay (Stay.wr h3) _ _ h2) (RepVs.one (RepV.stay (Stay.wr h3) _ _ ry))
  · have e : i = ds.length := by omega
    subst e
    rw [List.drop_length] at q2
    refine .inl ⟨Y.stop w2 _ (e2.stay dj1) (Nat.le_refl _), ?_⟩
    refine q2 (w2.fz L) _ (Ext.fz e2 hL) (s2.fz nm (by rw [hx2]; exact fun z => nomatch z)) ⟨L, xs, rfl, .inr rfl, hx2, RepVs.stay Stay.fz _ _ ra⟩
theorem v_lc {elt tg iter : Expr} {ifs : List Expr} {scope : Scope} {own : List (Str × Nat)} {pos : Pos} {fi : List SV → M (List D)} {ts : List Nat} {t : TgP} {tt : List SV → M Bool} {fe : List SV → M D} (c : Ctx G X W k) (hi : PIV G X W tg iter fi) (ok : BlkOk X.N X.env.scope scope own)
    (hg : ∀ (s : Shared) (H : Hp) (C : Addr) (cl : List (Str × Addr)) (fp : List Addr), PGP G (X.blk s H scope (compEnvC scope cl C X.env) fp) ts tg t) (ht : ∀ (s : Shared) (H : Hp) (C : Addr) (cl : List (Str × Addr)) (fp : List Addr), PTsV G (X.blk s H scope (compEnvC scope cl C X.env) fp) NoW ifs tt)
    (he : ∀ (s : Shared) (H : Hp) (C : Addr) (cl : List (Str × Addr)) (fp : List Addr), PV G (X.blk s H scope (compEnvC scope cl C X.env) fp) NoW elt fe) (hs : setFree iter = true) (hts : ∀ i ∈ ts, i ∈ own.map (·.2)) :
    PV G X W (.ListComp elt [⟨tg, iter, ifs, 0⟩] scope pos) (lcS fi (own.map (·.2)) t tt fe) :=
  PE.imp (pe_lc c.calm c.nd hi ok hg ht he (set_free hs)) fun σ H Q h => lc_read hts h
theorem Ctx.blk (c : Ctx G X W k) (s : Shared) (H : Hp) (scope : Scope) (cenv : Env) (fp : List Addr) : Ctx G (X.blk s H scope cenv fp) NoW k :=
  ⟨c.cK, c.calm, c.rm, c.nd, fun σ pins H s e s' I c => by
    obtain ⟨_, _, _, _, _, _, _, _, _, _, _, _, z⟩ := c
    exact z.elim, PassesOwn.never⟩
end
end Ev
set_option maxRecDepth 100000
set_option maxHeartbeats 2000000
namespace Ev
open PySem PySem.Spec PyProof.Rows L2
mutual
def toP : D → Option PyData
  | .non => some .none
  | .bl b => some (.bool b)
  | .int i => some (.int i)
  | .str x => some (.str x)
  | .tup ds => (toPs ds).map .tuple
  | .lst ds => (toPs ds).map .list
  | .scr ds => (toPs ds).map .list
  | .dct _ _ => none
  | .ins _ _ => none
  | .ref _ => none
  | .ty _ => none
  | .cls _ => none
def toPs : List D → Option (List PyData)
  | [] => some []
  | d :: ds => match toP d, toPs ds with
    | some p, some ps => some (p :: ps)
    | _, _ => none
end
section
variable {G : Sg} {X : Cx} {W : WX} {k : Nat} {w : Wd}
mutual
theorem toP_dp (cK : G.K = X.K) : ∀ (d : D) (v : V) (p : PyData), RepV G w d v → toP d = some p → Dp X.K w.H v p
  | .non, v, p, r, h => by cases h; cases (show v = .non from r); exact .non
  | .bl b, v, p, r, h => by cases h; cases (show v = .bl b from r); exact .bl b
  | .int i, v, p, r, h => by cases h; cases (show v = .int i from r); exact .int i
  | .str x, v, p, r, h => by cases h; cases (show v = .str x from r); exact .str x
  | .tup ds, v, p, r, h => by
    obtain ⟨a, vs, e, hh, rs⟩ := r
    subst e
    unfold toP at h
    obtain ⟨ps, h1, h2⟩ := Option.map_eq_some_iff.mp h
    subst h2
    exact .tup (sqT_of cK hh) (toPs_dp cK ds vs ps rs h1)
  | .lst ds, v, p, r, h => by
    obtain ⟨a, vs, e, fa, hh, rs⟩ := r
    subst e
    unfold toP at h
    obtain ⟨ps, h1, h2⟩ := Option.map_eq_some_iff.mp h
    subst h2
    exact .lst (.of hh) (toPs_dp cK ds vs ps rs h1)
  | .scr ds, v, p, r, h => by
    obtain ⟨a, vs, e, hh, rs⟩ := r
    subst e
    unfold toP at h
    obtain ⟨ps, h1, h2⟩ := Option.map_eq_some_iff.mp h
    subst h2
    exact .lst (sqL_of cK hh) (toPs_dp cK ds vs ps rs h1)
  | .dct _ _, _, _, _, h => by unfold toP at h; cases h
  | .ins _ _, _, _, _, h => by unfold toP at h; cases h
  | .ref _, _, _, _, h => by unfold toP at h; cases h
  | .ty _, _, _, _, h => by unfold toP at h; cases h
  | .cls _, _, _, _, h => by unfold toP at h; cases h
theorem toPs_dp (cK : G.K = X.K) : ∀ (ds : List D) (vs : List V) (ps : List PyData), RepVs G w ds vs → toPs ds = some ps → DpAll X.K w.H vs ps
  | [], vs, ps, r, h => by unfold toPs at h; cases h; cases (show vs = [] from r); exact .nil
  | d :: ds, vs, ps, r, h => by
    obtain ⟨v, t, e, h1, h2⟩ := r
    subst e
    unfold toPs at h
    rcases hp : toP d with _ | p
    · rw [hp] at h; cases h
    · rcases hq : toPs ds with _ | qs
      · rw [hp, hq] at h; cases h
      · rw [hp, hq] at h
        cases h
        exact .cons (toP_dp cK d v p h1 hp) (toPs_dp cK ds t qs h2 hq)
end
def dEq (neg : Bool) : D → D → M D
  | .int i, .int j => M.pure (.bl (if neg then !decide (i = j) else decide (i = j)))
  | .str i, .str j => M.pure (.bl (if neg then !decide (i = j) else decide (i = j)))
  | .bl i, .bl j => M.pure (.bl (if neg then !decide (i = j) else decide (i = j)))
  | d, e => match toP d, toP e with
    | some p, some q => if SeqAt.shaped p = true ∧ SeqAt.shaped q = true then M.pure (.bl (if neg then !PyData.eqv p q else PyData.eqv p q)) else M.stuck
    | _, _ => M.stuck
theorem FinG.stuck {α β : Type} {rep : Wd → α → β → Prop} {W : Value → Option Addr → Hp → Prop} {w : Wd} {Q : β → Hp → Prop} {S : List Ob} {P : Prop} (h : FinG G rep W w Q ((M.stuck : M α) S)) : P := h.elim
theorem eq_gen (cK : G.K = X.K) {W' : Value → Option Addr → Hp → Prop} {S : List Ob} {d e : D} {v u : V} {Q : VK} {neg : Bool} (s : RepS G w S) (r1 : RepV G w d v) (r2 : RepV G w e u)
    (q : FinG G (RepV G) W' w Q ((match toP d, toP e with
      | some p, some q => if SeqAt.shaped p = true ∧ SeqAt.shaped q = true then M.pure (.bl (if neg then !PyData.eqv p q else PyData.eqv p q)) else M.stuck
      | _, _ => M.stuck : M D) S)) : ∃ p q, Dp X.K w.H v p ∧ Dp X.K w.H u q ∧ SeqAt.shaped p = true ∧ SeqAt.shaped q = true ∧ Q (.bl (if neg then !PyData.eqv p q else PyData.eqv p q)) w.H := by
  rcases hp : toP d with _ | p
  · rw [hp] at q; exact q.elim
  · rcases hq : toP e with _ | p'
    · rw [hp, hq] at q; exact q.elim
    · rw [hp, hq] at q
      obtain ⟨⟨c1, c2⟩, q⟩ := FinG.ite q
      exact ⟨p, p', toP_dp cK d v p r1 hp, toP_dp cK e u p' r2 hq, c1, c2, fin_pure (b := V.bl _) q s rfl⟩
theorem o_eq (cK : G.K = X.K) (hr : Rm G.gd k X.A) : OpR X (compareOp .Eq) (rD2 G (dEq false)) := by
  refine OpR.imp (op_eq.or (op_eqD hr.room.units)) fun v u H Q q => ?_
  obtain ⟨W, w, S, d, e, rfl, s, r1, r2, q⟩ := q
  cases d <;> cases e <;> first
    | (refine .inr ?_
       obtain ⟨p, p', h1, h2, h3, h4, h5⟩ := eq_gen (neg := false) cK s r1 r2 q
       exact ⟨p, p', h1, h2, h3, h4, h5⟩)
    | (cases (show v = _ from r1)
       cases (show u = _ from r2)
       refine .inl ⟨rfl, ?_⟩
       have q2 := fin_pure (b := V.bl _) q s rfl
       simpa using q2)
theorem o_ne (cK : G.K = X.K) (hr : Rm G.gd k X.A) : OpR X (compareOp .NotEq) (rD2 G (dEq true)) := by
  refine OpR.imp (op_ne.or (op_neD hr.room.units)) fun v u H Q q => ?_
  obtain ⟨W, w, S, d, e, rfl, s, r1, r2, q⟩ := q
  cases d <;> cases e <;> first
    | (refine .inr ?_
       obtain ⟨p, p', h1, h2, h3, h4, h5⟩ := eq_gen (neg := true) cK s r1 r2 q
       exact ⟨p, p', h1, h2, h3, h4, h5⟩)
    | (cases (show v = _ from r1)
       cases (show u = _ from r2)
       refine .inl ⟨rfl, ?_⟩
       have q2 := fin_pure (b := V.bl _) q s rfl
       simpa using q2)
def isNonD : D → Bool
  | .non => true
  | _ => false
theorem isNon_rep {d : D} {v : V} (r : RepV G w d v) : decide (v = .non) = isNonD d := by
  cases d with
  | non => cases (show v = .non from r); rfl
  | bl b => cases (show v = .bl b from r); rfl
  | int b => cases (show v = .int b from r); rfl
  | str b => cases (show v = .str b from r); rfl
  | tup ds => obtain ⟨a, vs, e, _⟩ := r; subst e; rfl
  | lst ds => obtain ⟨a, vs, e, _⟩ := r; subst e; rfl
  | scr ds => obtain ⟨a, vs, e, _⟩ := r; subst e; rfl
  | dct ks ds => obtain ⟨a, vs, e, _⟩ := r; subst e; rfl
  | ins c ds => obtain ⟨a, dx, vs, e, _⟩ := r; subst e; rfl
  | ref n => obtain ⟨a, e, _⟩ := r; subst e; rfl
  | ty t => cases (show v = .ty t.name from r); rfl
  | cls c => cases (show v = .ref (G.ca c) from r); rfl
def dIs (neg : Bool) : D → D → M D
  | d, .non => M.pure (.bl (if neg then !isNonD d else isNonD d))
  | _, _ => M.stuck
theorem o_is : OpR X (compareOp .Is) (rD2 G (dIs false)) := by
  refine OpR.imp op_isN fun v u H Q q => ?_
  obtain ⟨W, w, S, d, e, rfl, s, r1, r2, q⟩ := q
  cases e with
  | non =>
    have q2 := fin_pure (b := V.bl _) (show FinG G (RepV G) W w Q (M.pure (.bl (isNonD d)) S) by cases d <;> exact q) s rfl
    exact ⟨r2, by rw [isNon_rep r1]; exact q2⟩
  | _ => cases d <;> exact q.elim
theorem o_isnot : OpR X (compareOp .IsNot) (rD2 G (dIs true)) := by
  refine OpR.imp op_notN fun v u H Q q => ?_
  obtain ⟨W, w, S, d, e, rfl, s, r1, r2, q⟩ := q
  cases e with
  | non =>
    have q2 := fin_pure (b := V.bl _) (show FinG G (RepV G) W w Q (M.pure (.bl (!isNonD d)) S) by cases d <;> exact q) s rfl
    exact ⟨r2, by rw [isNon_rep r1]; exact q2⟩
  | _ => cases d <;> exact q.elim
def dIx (d e : D) : M D := fun S => match e with
  | .int i => match d with
    | .lst ds => match atI ds i with | some x => some (.ok x, S) | none => none
    | .tup ds => match atI ds i with | some x => some (.ok x, S) | none => none
    | .scr ds => match atI ds i with | some x => some (.ok x, S) | none => none
    | .str z => if z.length ≤ lim then (match atI z.cps.toList i with | some c => some (.ok (.str ⟨#[c]⟩), S) | none => none) else none
    | .ref n => match S[n]? with
      | some (.lst ds) => match atI ds i with | some x => some (.ok x, S) | none => none
      | _ => none
    | _ => none
  | _ => none
theorem atI_rep {ds : List D} {vs : List V} {i : Int} {x : D} (r : RepVs G w ds vs) (h : atI ds i = some x) : ∃ v, atI vs i = some v ∧ RepV G w x v := by
  unfold atI at h ⊢
  rw [r.length] at h
  obtain ⟨j, h1, h2⟩ := Option.bind_eq_some_iff.mp h
  obtain ⟨v, h3, h4⟩ := r.get h2
  exact ⟨v, by rw [h1]; exact h3, h4⟩
theorem ix_D (cK : G.K = X.K) : IxR X (rD2 G dIx) := by
  have base := (ix_list (X := X)).or ((ix_tup (X := X)).or (ix_str (X := X)))
  intro a b pins s σ H x y v u Q I rx ry q
  refine base a b pins s σ H x y v u Q I rx ry ?_
  obtain ⟨W, w, S, d, e, rfl, st, r1, r2, q⟩ := q
  unfold dIx at q
  cases e with
  | int i =>
    cases (show y = .int i from r2)
    cases d with
    | lst ds =>
      obtain ⟨p, vs, rfl, f, hh, rs⟩ := r1
      rcases hx : atI ds i with _ | z
      · simp only [hx] at q; exact q.elim
      · simp only [hx] at q
        obtain ⟨v1, h1, h2⟩ := atI_rep rs hx
        exact .inl ⟨p, vs, i, v1, rfl, rfl, .of hh, h1, fin_pure (a := z) q st h2⟩
    | tup ds =>
      obtain ⟨p, vs, rfl, hh, rs⟩ := r1
      rcases hx : atI ds i with _ | z
      · simp only [hx] at q; exact q.elim
      · simp only [hx] at q
        obtain ⟨v1, h1, h2⟩ := atI_rep rs hx
        exact .inr (.inl ⟨p, vs, i, v1, rfl, rfl, sqT_of cK hh, h1, fin_pure (a := z) q st h2⟩)
    | scr ds =>
      obtain ⟨p, vs, rfl, hh, rs⟩ := r1
      rcases hx : atI ds i with _ | z
      · simp only [hx] at q; exact q.elim
      · simp only [hx] at q
        obtain ⟨v1, h1, h2⟩ := atI_rep rs hx
        exact .inl ⟨p, vs, i, v1, rfl, rfl, sqL_of cK hh, h1, fin_pure (a := z) q st h2⟩
    | str z =>
      cases (show x = .str z from r1)
      by_cases hz : z.length ≤ lim
      · rcases hx : atI z.cps.toList i with _ | c
        · simp only [hx, if_pos hz] at q; exact q.elim
        · simp only [hx, if_pos hz] at q
          exact .inr (.inr ⟨z, i, c, rfl, rfl, by rw [← lim_eq]; exact hz, hx, fin_pure (a := D.str ⟨#[c]⟩) q st rfl⟩)
      · simp only [if_neg hz] at q; exact q.elim
    | ref n =>
      obtain ⟨p, rfl, hm⟩ := r1
      rcases hn : S[n]? with _ | ⟨ds | _ | _⟩
      · simp only [hn] at q; exact q.elim
      · simp only [hn] at q
        obtain ⟨vs, hh, rs⟩ := st.ob n p _ hm hn
        rcases hx : atI ds i with _ | z
        · simp only [hx] at q; exact q.elim
        · simp only [hx] at q
          obtain ⟨v1, h1, h2⟩ := atI_rep rs hx
          exact .inl ⟨p, vs, i, v1, rfl, rfl, .of hh, h1, fin_pure (a := z) q st h2⟩
      · simp only [hn] at q; exact q.elim
      · simp only [hn] at q; exact q.elim
    | _ => exact q.elim
  | _ => exact q.elim
def notSlice : Expr → Bool
  | .Slice .. => false
  | _ => true
theorem plain_ix {b : Expr} (h : notSlice b = true) : PlainIx b := by
  intro o i
  cases b <;> first | rfl | cases h
theorem v_ix {a b : Expr} {fa fb : List SV → M D} {pos : Pos} (cK : G.K = X.K) (ha : PV G X W a fa) (hb : PV G X W b fb) (hs : notSlice b = true) : PV G X W (.Subscript a b pos) (fun sd => M.bind (fa sd) fun x => M.bind (fb sd) fun y => dIx x y) := by
  refine PE.imp (pe_ix (ix_D cK) ha hb (plain_ix hs)) fun σ H Q h => ?_
  obtain ⟨w0, w, sd, S, e, r, q⟩ := h
  refine ⟨w0, w, sd, S, e, r, fin_step q fun w1 S1 d v e1 s1 rv q1 => ⟨w0, w1, sd, S1, rfl, r.step e1 s1, fin_step q1 fun w2 S2 d2 v2 e2 s2 rv2 q2 => ?_⟩⟩
  exact ⟨_, w2, S2, d, d2, rfl, s2, RepV.mono e2 s1.dj d v rv, rv2, q2⟩
end
end Ev
set_option maxRecDepth 100000
set_option maxHeartbeats 2000000
namespace Ev
open PySem PySem.Spec PyProof.Rows L2
def rDs (G : Sg) (g : List D → M D) : List V → Hp → VK → Prop := fun vs H Q => ∃ W w S ds, w.H = H ∧ RepS G w S ∧ RepVs G w ds vs ∧ FinG G (RepV G) W w Q (g ds S)
theorem CallR.imp {X : Cx} {f : Value} {r r' : List V → Hp → VK → Prop} (h : CallR X f r) (i : ∀ vs H Q, r' vs H Q → r vs H Q) : CallR X f r' := fun pins s σ H xs us Q I rx q => h pins s σ H xs us Q I rx (i _ _ _ q)
section
variable {G : Sg} {X : Cx} {W : WX} {k n : Nat} {w : Wd} {g : List D → M D}
theorem v_callB {id : String} {x : Str} {p pos : Pos} {e : Expr} {es : List Expr} {fa : List SV → M (List D)} (hc : CallR X (.builtin id) (rDs G g)) (hg : Gl X x) (hm : X.mg x = none) (hv : bootBuiltins x = some (.builtin id)) (ha : PLn G X W n (e :: es) fa) (hs : (e :: es).all notStar = true)
    (hn : x ≠ "__name__") (hd : (x == ("__debug__" : Str)) = false) : PV G X W (.Call (.Name x p) (e :: es) [] pos) (fun sd => M.bind (fa sd) g) := by
  have hs2 : notStar e = true ∧ es.all notStar = true := by simpa using hs
  refine PE.imp (pe_callB hc hg hm hv ha hn hd (starEach_cons hs2.1) (starEach_all hs2.2 pos)) fun σ H Q h => ?_
  obtain ⟨w0, w, sd, S, e, r, q⟩ := h
  exact ⟨w0, w, sd, S, e, r, fin_step q fun w1 S1 ds vs e1 s1 rv q1 => ⟨_, w1, S1, ds, rfl, s1, rv.1, q1⟩⟩
theorem v_callTy {T : String} {x : Str} {p pos : Pos} {e : Expr} {es : List Expr} {fa : List SV → M (List D)} (hc : CallR X (.type T) (rDs G g)) (hg : Gl X x) (hm : X.mg x = none) (hv : bootBuiltins x = some (.type T)) (ha : PLn G X W n (e :: es) fa) (hs : (e :: es).all notStar = true)
    (hn : x ≠ "__name__") (hd : (x == ("__debug__" : Str)) = false) : PV G X W (.Call (.Name x p) (e :: es) [] pos) (fun sd => M.bind (fa sd) g) := by
  have hs2 : notStar e = true ∧ es.all notStar = true := by simpa using hs
  refine PE.imp (pe_callTy hc hg hm hv ha hn hd (starEach_cons hs2.1) (starEach_all hs2.2 pos)) fun σ H Q h => ?_
  obtain ⟨w0, w, sd, S, e, r, q⟩ := h
  exact ⟨w0, w, sd, S, e, r, fin_step q fun w1 S1 ds vs e1 s1 rv q1 => ⟨_, w1, S1, ds, rfl, s1, rv.1, q1⟩⟩
def on1 (g : D → M D) : List D → M D
  | [d] => g d
  | _ => M.stuck
def on2 (g : D → D → M D) : List D → M D
  | [d, e] => g d e
  | _ => M.stuck
theorem on1_of {g : D → M D} {vs : List V} {H : Hp} {Q : VK} (h : rDs G (on1 g) vs H Q) : ∃ W w S d v, w.H = H ∧ RepS G w S ∧ vs = [v] ∧ RepV G w d v ∧ FinG G (RepV G) W w Q (g d S) := by
  obtain ⟨W, w, S, ds, e, s, r, q⟩ := h
  rcases ds with _ | ⟨d, _ | ⟨d2, ds⟩⟩
  · exact q.elim
  · obtain ⟨v, t, ev, h1, h2⟩ := r
    cases (show t = [] from h2)
    exact ⟨W, w, S, d, v, e, s, ev, h1, q⟩
  · exact q.elim
theorem on2_of {g : D → D → M D} {vs : List V} {H : Hp} {Q : VK} (h : rDs G (on2 g) vs H Q) : ∃ W w S d e v u, w.H = H ∧ RepS G w S ∧ vs = [v, u] ∧ RepV G w d v ∧ RepV G w e u ∧ FinG G (RepV G) W w Q (g d e S) := by
  obtain ⟨W, w, S, ds, e, s, r, q⟩ := h
  rcases ds with _ | ⟨d, _ | ⟨d2, _ | ⟨d3, ds⟩⟩⟩
  · exact q.elim
  · exact q.elim
  · obtain ⟨v, t, ev, h1, u, t2, eu, h2, h3⟩ := r
    cases (show t2 = [] from h3)
    exact ⟨W, w, S, d, d2, v, u, e, s, by rw [ev, eu], h1, h2, q⟩
  · exact q.elim
def dLen (d : D) : M D := fun S => match d with
  | .lst ds => some (.ok (.int ds.length), S)
  | .tup ds => some (.ok (.int ds.length), S)
  | .scr ds => some (.ok (.int ds.length), S)
  | .str x => if x.length ≤ lim then some (.ok (.int x.length), S) else none
  | .ref n => match S[n]? with
    | some (.lst ds) => some (.ok (.int ds.length), S)
    | _ => none
  | _ => none
theorem c_len (cK : G.K = X.K) : CallR X (.builtin "len") (rDs G (on1 dLen)) := by
  refine CallR.imp call_len fun vs H Q h => ?_
  obtain ⟨W, w, S, d, v, rfl, s, rfl, r, q⟩ := on1_of h
  unfold dLen at q
  cases d with
  | lst ds =>
    obtain ⟨a, vs, e, f, hh, rs⟩ := r
    exact ⟨v, ds.length, rfl, by subst e; exact .inl ⟨vs, .of hh, rs.length⟩, fin_pure (a := D.int ds.length) q s rfl⟩
  | tup ds =>
    obtain ⟨a, vs, e, hh, rs⟩ := r
    exact ⟨v, ds.length, rfl, by subst e; exact .inr ⟨vs, sqT_of cK hh, rs.length⟩, fin_pure (a := D.int ds.length) q s rfl⟩
  | scr ds =>
    obtain ⟨a, vs, e, hh, rs⟩ := r
    exact ⟨v, ds.length, rfl, by subst e; exact .inl ⟨vs, sqL_of cK hh, rs.length⟩, fin_pure (a := D.int ds.length) q s rfl⟩
  | str x =>
    by_cases hz : x.length ≤ lim
    · simp only [if_pos hz] at q
      exact ⟨v, x.length, rfl, by cases (show v = .str x from r); exact ⟨by rw [← lim_eq]; exact hz, rfl⟩, fin_pure (a := D.int x.length) q s rfl⟩
    · simp only [if_neg hz] at q; exact q.elim
  | ref m =>
    obtain ⟨p, rfl, hm⟩ := r
    rcases hn : S[m]? with _ | ⟨ds | _ | _⟩
    · simp only [hn] at q; exact q.elim
    · simp only [hn] at q
      obtain ⟨vs, hh, rs⟩ := s.ob m p _ hm hn
      exact ⟨.ref p, ds.length, rfl, .inl ⟨vs, .of hh, rs.length⟩, fin_pure (a := D.int ds.length) q s rfl⟩
    · simp only [hn] at q; exact q.elim
    · simp only [hn] at q; exact q.elim
  | _ => exact q.elim
def dAbs : D → M D
  | .int i => M.pure (.int (if i < 0 then -i else i))
  | _ => M.stuck
theorem c_abs : CallR X (.builtin "abs") (rDs G (on1 dAbs)) := by
  refine CallR.imp call_abs fun vs H Q h => ?_
  obtain ⟨W, w, S, d, v, rfl, s, rfl, r, q⟩ := on1_of h
  cases d with
  | int i => cases (show v = .int i from r); exact ⟨i, rfl, fin_pure q s rfl⟩
  | _ => exact q.elim
def dMax : D → D → M D
  | .int i, .int j => M.pure (.int (if j > i then j else i))
  | _, _ => M.stuck
def dMin : D → D → M D
  | .int i, .int j => M.pure (.int (if j < i then j else i))
  | _, _ => M.stuck
theorem c_max (hc : X.calm = true) : CallR X (.builtin "max") (rDs G (on2 dMax)) := by
  refine CallR.imp (call_max2 hc) fun vs H Q h => ?_
  obtain ⟨W, w, S, d, e, v, u, rfl, s, rfl, r, r', q⟩ := on2_of h
  cases d <;> cases e <;> first
    | exact q.elim
    | (cases (show v = _ from r)
       cases (show u = _ from r')
       exact ⟨_, _, rfl, fin_pure q s rfl⟩)
theorem c_min (hc : X.calm = true) : CallR X (.builtin "min") (rDs G (on2 dMin)) := by
  refine CallR.imp (call_min2 hc) fun vs H Q h => ?_
  obtain ⟨W, w, S, d, e, v, u, rfl, s, rfl, r, r', q⟩ := on2_of h
  cases d <;> cases e <;> first
    | exact q.elim
    | (cases (show v = _ from r)
       cases (show u = _ from r')
       exact ⟨_, _, rfl, fin_pure q s rfl⟩)
def dInt : D → M D
  | .int i => M.pure (.int i)
  | .bl b => M.pure (.int (if b then 1 else 0))
  | .str x => match PySem.intText? x with
    | some n => if x.length ≤ 640 then M.pure (.int n) else M.stuck
    | none => M.stuck
  | _ => M.stuck
theorem c_int : CallR X (.type "int") (rDs G (on1 dInt)) := by
  refine CallR.imp (call_int1.or call_int_str) fun vs H Q h => ?_
  obtain ⟨W, w, S, d, v, rfl, s, rfl, r, q⟩ := on1_of h
  cases d with
  | int i => cases (show v = .int i from r); exact .inl (.inl ⟨i, rfl, fin_pure q s rfl⟩)
  | bl b => cases (show v = .bl b from r); exact .inl (.inr ⟨b, rfl, fin_pure q s rfl⟩)
  | str x =>
    cases (show v = .str x from r)
    unfold dInt at q
    rcases hx : PySem.intText? x with _ | n
    · simp only [hx] at q; exact q.elim
    · simp only [hx] at q
      obtain ⟨c, q⟩ := FinG.ite q
      exact .inr ⟨x, n, rfl, hx, c, fin_pure q s rfl⟩
  | _ => exact q.elim
def strOk (i : Int) : Bool := decide (i.natAbs.log2 < 1920)
def dStr : D → M D
  | .int i => if strOk i = true then M.pure (.str (toString i : String)) else M.stuck
  | .str x => M.pure (.str x)
  | _ => M.stuck
theorem c_str : CallR X (.type "str") (rDs G (on1 dStr)) := by
  refine CallR.imp (call_str_int.or SkE.call_str_str) fun vs H Q h => ?_
  obtain ⟨W, w, S, d, v, rfl, s, rfl, r, q⟩ := on1_of h
  cases d with
  | int i =>
    cases (show v = .int i from r)
    obtain ⟨c, q⟩ := FinG.ite q
    exact .inl ⟨i, rfl, of_decide_eq_true c, fin_pure q s rfl⟩
  | str x => cases (show v = .str x from r); exact .inr ⟨x, rfl, fin_pure q s rfl⟩
  | _ => exact q.elim
def divmOk (i j : Int) : Bool := decide (0 < j) && !Builtin.divisionGoesByPylong i j
def dDivmod : D → D → M D
  | .int i, .int j => if divmOk i j = true then M.pure (.tup [.int (i / j), .int (i % j)]) else M.stuck
  | _, _ => M.stuck
theorem c_divmod : CallR X (.builtin "divmod") (rDs G (on2 dDivmod)) := by
  refine CallR.imp call_divmodW fun vs H Q h => ?_
  obtain ⟨W, w, S, d, e, v, u, rfl, s, rfl, r, r', q⟩ := on2_of h
  cases d with
  | int i =>
    cases e with
    | int j =>
      cases (show v = .int i from r)
      cases (show u = .int j from r')
      obtain ⟨c, q⟩ := FinG.ite q
      unfold divmOk at c
      simp only [Bool.and_eq_true, decide_eq_true_eq, Bool.not_eq_true'] at c
      refine ⟨i, j, rfl, c, fun p hp => ?_⟩
      exact q (w.frz p _) _ (Ext.frz hp) (s.frz hp) ⟨p, _, rfl, .inl ⟨.inr rfl, .inl upd_same⟩, ⟨_, _, rfl, rfl, _, _, rfl, rfl, rfl⟩⟩
    | _ => exact q.elim
  | _ => cases e <;> exact q.elim
def dTuple : D → M D
  | .lst ds => M.pure (.tup ds)
  | .scr ds => M.pure (.tup ds)
  | .tup ds => M.pure (.tup ds)
  | _ => M.stuck
theorem c_tuple (cK : G.K = X.K) : CallR X (.type "tuple") (rDs G (on1 dTuple)) := by
  refine CallR.imp call_tuple_of fun vs H Q h => ?_
  obtain ⟨W, w, S, d, v, rfl, s, rfl, r, q⟩ := on1_of h
  cases d with
  | lst ds =>
    obtain ⟨a, vs, e, f, hh, rs⟩ := r
    subst e
    exact ⟨a, vs, rfl, .inl ⟨.of hh, fun p hp => q (w.frz p _) _ (Ext.frz hp) (s.frz hp) ⟨p, vs, rfl, .inl ⟨.inr rfl, .inl upd_same⟩, RepVs.mono (Ext.frz hp) s.dj _ _ rs⟩⟩⟩
  | scr ds =>
    obtain ⟨a, vs, e, hh, rs⟩ := r
    subst e
    exact ⟨a, vs, rfl, .inl ⟨sqL_of cK hh, fun p hp => q (w.frz p _) _ (Ext.frz hp) (s.frz hp) ⟨p, vs, rfl, .inl ⟨.inr rfl, .inl upd_same⟩, RepVs.mono (Ext.frz hp) s.dj _ _ rs⟩⟩⟩
  | tup ds =>
    have r2 := r
    obtain ⟨a, vs, e, hh, rs⟩ := r
    subst e
    exact ⟨a, vs, rfl, .inr ⟨sqT_of cK hh, fin_pure q s r2⟩⟩
  | _ => exact q.elim
def bls : List D → Option (List Bool)
  | [] => some []
  | .bl b :: ds => (bls ds).map (b :: ·)
  | _ :: _ => none
theorem bls_rep : ∀ {ds : List D} {bs : List Bool} {vs : List V}, bls ds = some bs → RepVs G w ds vs → vs = bs.map V.bl
  | [], bs, vs, h, r => by unfold bls at h; cases h; exact r
  | .bl b :: ds, bs, vs, h, r => by
    unfold bls at h
    obtain ⟨cs, h1, h2⟩ := Option.map_eq_some_iff.mp h
    subst h2
    obtain ⟨v, t, e, h3, h4⟩ := r
    rw [e, bls_rep h1 h4]
    cases (show v = .bl b from h3)
    rfl
  | .non :: _, _, _, h, _ => by cases h
  | .int _ :: _, _, _, h, _ => by cases h
  | .str _ :: _, _, _, h, _ => by cases h
  | .tup _ :: _, _, _, h, _ => by cases h
  | .lst _ :: _, _, _, h, _ => by cases h
  | .scr _ :: _, _, _, h, _ => by cases h
  | .dct _ _ :: _, _, _, h, _ => by cases h
  | .ins _ _ :: _, _, _, h, _ => by cases h
  | .ref _ :: _, _, _, h, _ => by cases h
  | .ty _ :: _, _, _, h, _ => by cases h
  | .cls _ :: _, _, _, h, _ => by cases h
def dAll : D → M D
  | .lst ds => match bls ds with
    | some bs => M.pure (.bl (bs.all id))
    | none => M.stuck
  | _ => M.stuck
def dAny : D → M D
  | .lst ds => match bls ds with
    | some bs => M.pure (.bl (bs.any id))
    | none => M.stuck
  | _ => M.stuck
theorem c_all (hc : X.calm = true) : CallR X (.builtin "all") (rDs G (on1 dAll)) := by
  refine CallR.imp (cr_all hc) fun vs H Q h => ?_
  obtain ⟨W, w, S, d, v, rfl, s, rfl, r, q⟩ := on1_of h
  cases d with
  | lst ds =>
    obtain ⟨a, vs, e, f, hh, rs⟩ := r
    unfold dAll at q
    rcases hb : bls ds with _ | bs
    · simp only [hb] at q; exact q.elim
    · simp only [hb] at q
      have ev := bls_rep hb rs
      subst e ev
      exact ⟨a, bs, rfl, .of hh, fin_pure q s rfl⟩
  | _ => exact q.elim
theorem c_any (hc : X.calm = true) : CallR X (.builtin "any") (rDs G (on1 dAny)) := by
  refine CallR.imp (cr_any hc) fun vs H Q h => ?_
  obtain ⟨W, w, S, d, v, rfl, s, rfl, r, q⟩ := on1_of h
  cases d with
  | lst ds =>
    obtain ⟨a, vs, e, f, hh, rs⟩ := r
    unfold dAny at q
    rcases hb : bls ds with _ | bs
    · simp only [hb] at q; exact q.elim
    · simp only [hb] at q
      have ev := bls_rep hb rs
      subst e ev
      exact ⟨a, bs, rfl, .of hh, fin_pure q s rfl⟩
  | _ => exact q.elim
def reprOk (p : PyData) : Bool := p.showable && !p.hasDict && decide (p.depth ≤ 60) && decide (p.shown.length ≤ lim)
def dRepr (d : D) : M D := match toP d with
  | some p => if reprOk p = true then M.pure (.str p.shown) else M.stuck
  | none => M.stuck
theorem c_repr (cK : G.K = X.K) (hr : Rm G.gd k X.A) (hg : G.gd = true := by rfl) : CallR X (.builtin "repr") (rDs G (on1 dRepr)) := by
  intro pins s σ H xs us Q I rx h
  obtain ⟨W, w, S, d, v, rfl, st, rfl, r, q⟩ := on1_of h
  unfold dRepr at q
  rcases hp : toP d with _ | p
  · simp only [hp] at q; exact q.elim
  · simp only [hp] at q
    obtain ⟨c, q⟩ := FinG.ite q
    unfold reprOk at c
    simp only [Bool.and_eq_true, decide_eq_true_eq, Bool.not_eq_true'] at c
    obtain ⟨⟨⟨c1, c2⟩, c3⟩, c4⟩ := c
    obtain ⟨u, rfl, rv⟩ := vals1 rx
    have dp := toP_dp cK d v p r hp
    obtain ⟨as, rd⟩ := Dp.reads I p v u dp rv
    have fin : Q (.str p.shown) w.H := fin_pure q st rfl
    have hz : p.shown.length ≤ sizeLine := by rw [← lim_eq]; exact c4
    cases rd with
    | none => exact PySem.P.repr_of_none ⟨.str _, w.H, I.tok _, ⟨_, rfl⟩, fin⟩
    | bool b => exact PySem.P.repr_of_bool ⟨.str _, w.H, I.tok _, ⟨_, rfl⟩, fin⟩
    | int i t => exact PySem.P.repr_of_int (by simpa [PyData.showable] using c1) ⟨.str _, w.H, I.tok _, ⟨_, rfl⟩, fin⟩
    | str x t => exact PySem.P.repr_of_str ⟨.str _, w.H, I.tok _, ⟨_, rfl⟩, fin⟩ hz
    | list h1 h2 h3 h4 =>
      refine repr_of_reads' (Reads.list h1 h2 h3 h4) c1 (fun z => by rw [c2] at z; cases z) (hr.gd hg) (by have := hr.room.units; omega) (fun _ _ z => z) (fun h' u tk kp => ?_) hz
      exact ⟨.str _, w.H, I.kept (t' := tk) kp, ⟨_, rfl⟩, fin⟩
    | tuple h1 h2 h3 h4 =>
      refine repr_of_reads' (Reads.tuple h1 h2 h3 h4) c1 (fun z => by rw [c2] at z; cases z) (hr.gd hg) (by have := hr.room.units; omega) (fun _ _ z => z) (fun h' u tk kp => ?_) hz
      exact ⟨.str _, w.H, I.kept (t' := tk) kp, ⟨_, rfl⟩, fin⟩
    | dict _ _ _ _ _ => cases c2
end
end Ev
set_option maxRecDepth 100000
set_option maxHeartbeats 2000000
namespace Ev
open PySem PySem.Spec PyProof.Rows L2
section
variable {G : Sg} {X : Cx} {W : WX} {k : Nat} {w0 w w1 : Wd} {S : List Ob} {sd : List SV} {σ : L2.St}
theorem R.wr {i : Nat} {a : Addr} {o o' : Ob} {h : HO} (r : R G w0 w sd S σ) (hi : sd[i]? = some (.own o)) (ha : σ[i]? = some (some (.ref a))) (hn : RepO G (w.wr a h) a o') : R G w0 (w.wr a h) (sd.set i (.own o')) S σ := by
  obtain ⟨a', e1, _, nF, nm, n0⟩ := r.ow i o hi
  rw [ha] at e1
  cases e1
  have il : i < sd.length := (List.getElem?_eq_some_iff.mp hi).1
  have st := Stay.wr (o := h) nF
  have key : ∀ {j : Nat} {x : SV}, (sd.set i (.own o'))[j]? = some x → (j = i ∧ x = .own o') ∨ (j ≠ i ∧ sd[j]? = some x) := fun {j x} z => by
    by_cases e : i = j
    · subst e
      rw [List.getElem?_set_self il] at z
      cases z
      exact .inl ⟨rfl, rfl⟩
    · rw [List.getElem?_set_ne e] at z
      exact .inr ⟨fun q => e q.symm, z⟩
  refine ⟨Ext.wr r.ex n0, r.st.wr nF nm, by rw [List.length_set]; exact r.ln, fun j x z => ?_, fun j o2 z => ?_, fun j1 j2 o1 o2 b h1 h2 h3 h4 => ?_, fun b o2 e z => by
    rcases key z with ⟨rfl, _⟩ | ⟨_, z⟩
    · exact r.sf b _ e hi
    · exact r.sf b _ e z⟩
  · rcases key z with ⟨_, e⟩ | ⟨_, z⟩
    · cases e
    · obtain ⟨v, h1, h2⟩ := r.vl j x z
      exact ⟨v, h1, RepV.stay st _ _ h2⟩
  · rcases key z with ⟨rfl, e⟩ | ⟨ne, z⟩
    · cases e
      exact ⟨a, ha, hn, nF, nm, n0⟩
    · obtain ⟨b, h1, h2, h3, h4, h5⟩ := r.ow j o2 z
      have nab : b ≠ a := fun e => by
        subst e
        exact ne (r.ap j i o2 o b z hi h1 ha)
      exact ⟨b, h1, RepO.to (upd_ne nab) st h2, h3, h4, h5⟩
  · have f1 : ∃ p1, sd[j1]? = some (.own p1) := (key h1).elim (fun z => ⟨o, z.1 ▸ hi⟩) fun z => ⟨o1, z.2⟩
    have f2 : ∃ p2, sd[j2]? = some (.own p2) := (key h2).elim (fun z => ⟨o, z.1 ▸ hi⟩) fun z => ⟨o2, z.2⟩
    obtain ⟨p1, q1⟩ := f1
    obtain ⟨p2, q2⟩ := f2
    exact r.ap j1 j2 p1 p2 b q1 q2 h3 h4
theorem R.setown {i : Nat} {a : Addr} {o : Ob} (r : R G w0 w sd S σ) (ho : RepO G w a o) (nF : ¬ w.F a) (nm : a ∉ w.m) (n0 : w0.H a = none) (na : ∀ (j : Nat) (o' : Ob), sd[j]? = some (.own o') → σ[j]? ≠ some (some (V.ref a))) (i0 : i ≠ 0) : R G w0 w (sd.set i (.own o)) S (σ.set i (some (.ref a))) := by
  have key : ∀ {j : Nat} {x : SV}, (sd.set i (.own o))[j]? = some x → (j = i ∧ i < sd.length ∧ x = .own o) ∨ (j ≠ i ∧ sd[j]? = some x) := fun {j x} z => by
    by_cases e : i = j
    · subst e
      by_cases l : i < sd.length
      · rw [List.getElem?_set_self l] at z
        cases z
        exact .inl ⟨rfl, l, rfl⟩
      · rw [List.getElem?_eq_none (by simpa using l)] at z
        cases z
    · rw [List.getElem?_set_ne e] at z
      exact .inr ⟨fun q => e q.symm, z⟩
  refine ⟨r.ex, r.st, by rw [List.length_set, List.length_set]; exact r.ln, fun j x z => ?_, fun j o2 z => ?_, fun j1 j2 o1 o2 b h1 h2 h3 h4 => ?_, fun b o2 e z => by
    rcases key z with ⟨z, _⟩ | ⟨ne, z⟩
    · exact absurd z.symm i0
    · rw [List.getElem?_set_ne i0]
      exact r.sf b _ e z⟩
  · rcases key z with ⟨_, _, e⟩ | ⟨ne, z⟩
    · cases e
    · rw [List.getElem?_set_ne (fun q => ne q.symm)]
      exact r.vl j x z
  · rcases key z with ⟨rfl, l, e⟩ | ⟨ne, z⟩
    · cases e
      exact ⟨a, List.getElem?_set_self (by rw [r.ln]; exact l), ho, nF, nm, n0⟩
    · rw [List.getElem?_set_ne (fun q => ne q.symm)]
      exact r.ow j o2 z
  · rcases key h1 with ⟨e1, l1, _⟩ | ⟨n1, h1⟩ <;> rcases key h2 with ⟨e2, l2, _⟩ | ⟨n2, h2⟩
    · rw [e1, e2]
    · rw [e1, List.getElem?_set_self (by rw [r.ln]; exact l1)] at h3
      cases h3
      rw [List.getElem?_set_ne (fun q => n2 q.symm)] at h4
      exact absurd h4 (na j2 _ h2)
    · rw [e2, List.getElem?_set_self (by rw [r.ln]; exact l2)] at h4
      cases h4
      rw [List.getElem?_set_ne (fun q => n1 q.symm)] at h3
      exact absurd h3 (na j1 _ h1)
    · rw [List.getElem?_set_ne (fun q => n1 q.symm)] at h3
      rw [List.getElem?_set_ne (fun q => n2 q.symm)] at h4
      exact r.ap j1 j2 o1 o2 b h1 h2 h3 h4
def frzO : Ob → D
  | .lst ds => .lst ds
  | .dct ks ds => .dct ks ds
  | .ins c ds => .ins c ds
theorem R.frz {i : Nat} {o : Ob} (r : R G w0 w sd S σ) (hi : sd[i]? = some (.own o)) : ∃ a, Stay w (w.fz a) ∧ R G w0 (w.fz a) (sd.set i (.val (frzO o))) S σ ∧ σ[i]? = some (some (.ref a)) ∧ RepV G (w.fz a) (frzO o) (.ref a) := by
  obtain ⟨a, ha, ho, nF, nm, n0⟩ := r.ow i o hi
  have il : i < sd.length := (List.getElem?_eq_some_iff.mp hi).1
  have rv : RepV G (w.fz a) (frzO o) (.ref a) := by
    cases o with
    | lst ds => obtain ⟨vs, h1, h2⟩ := ho; exact ⟨a, vs, rfl, .inr rfl, h1, RepVs.stay Stay.fz _ _ h2⟩
    | dct ks ds => obtain ⟨vs, h1, h2, h3⟩ := ho; exact ⟨a, vs, rfl, .inr rfl, h1, h2, RepVs.stay Stay.fz _ _ h3⟩
    | ins c ds => obtain ⟨dx, vs, h1, h2, h3⟩ := ho; exact ⟨a, dx, vs, rfl, .inr rfl, h1, h2, RepVs.stay Stay.fz _ _ h3⟩
  refine ⟨a, Stay.fz, ?_, ha, rv⟩
  have key : ∀ {j : Nat} {x : SV}, (sd.set i (.val (frzO o)))[j]? = some x → (j = i ∧ x = .val (frzO o)) ∨ (j ≠ i ∧ sd[j]? = some x) := fun {j x} z => by
    by_cases e : i = j
    · subst e
      rw [List.getElem?_set_self il] at z
      cases z
      exact .inl ⟨rfl, rfl⟩
    · rw [List.getElem?_set_ne e] at z
      exact .inr ⟨fun q => e q.symm, z⟩
  refine ⟨Ext.fz r.ex n0, r.st.fz nm ho.there, by rw [List.length_set]; exact r.ln, fun j x z => ?_, fun j o2 z => ?_, fun j1 j2 o1 o2 b h1 h2 h3 h4 => ?_, fun b o2 e z => by
    rcases key z with ⟨_, e⟩ | ⟨_, z⟩
    · cases e
    · exact r.sf b _ e z⟩
  · rcases key z with ⟨rfl, e⟩ | ⟨_, z⟩
    · cases e
      exact ⟨.ref a, ha, rv⟩
    · obtain ⟨v, h1, h2⟩ := r.vl j x z
      exact ⟨v, h1, RepV.stay Stay.fz _ _ h2⟩
  · rcases key z with ⟨_, e⟩ | ⟨ne, z⟩
    · cases e
    · obtain ⟨b, h1, h2, h3, h4, h5⟩ := r.ow j o2 z
      have nab : b ≠ a := fun e => by
        subst e
        exact ne (r.ap j i o2 o b z hi h1 ha)
      exact ⟨b, h1, RepO.to (w := w) (w' := w.fz a) rfl Stay.fz h2, fun q => q.elim h3 nab, h4, h5⟩
  · rcases key h1 with ⟨_, e⟩ | ⟨n1, h1⟩
    · cases e
    · rcases key h2 with ⟨_, e⟩ | ⟨n2, h2⟩
      · cases e
      · exact r.ap j1 j2 o1 o2 b h1 h2 h3 h4
def frzS (i : Nat) : MS := fun sd S => match sd[i]? with
  | some (.own o) => some (.next (sd.set i (.val (frzO o))), S)
  | _ => none
theorem ss_frz {i : Nat} {sts : List Stmt} {f : MS} (h : PSsV G X W sts f) : PSsV G X W sts (seqS (frzS i) f) := by
  refine PSs.imp h fun En σ H q => ?_
  obtain ⟨w0, w, sd, S, e, r, q⟩ := q
  unfold seqS frzS at q
  rcases hi : sd[i]? with _ | _ | d | o
  · simp only [hi] at q; exact q.elim
  · simp only [hi] at q; exact q.elim
  · simp only [hi] at q; exact q.elim
  · simp only [hi] at q
    obtain ⟨a, st, r2, _⟩ := r.frz hi
    exact ⟨w0, w.fz a, _, S, e, r2, FinS.stay st q⟩
def FinO (G : Sg) (W : Value → Option Addr → Hp → Prop) (w : Wd) (Q : VK) : Option (Except Exn (List D) × List Ob) → Prop
  | none => False
  | some (.ok ds, S) => ∀ w' p vs, Ext w w' → RepS G w' S → w'.H p = some (.lst vs) → RepVs G w' ds vs → ¬ w'.F p → p ∉ w'.m → w.H p = none → Q (.ref p) w'.H
  | some (.error e, S) => ∀ w' cls x, Ext w w' → RepS G w' S → RepX G w' e cls x → W cls x w'.H
def teO (G : Sg) (W : WX) (f : List SV → M (List D)) : TE := fun σ H Q => ∃ w0 w sd S, w.H = H ∧ R G w0 w sd S σ ∧ FinO G (fun c x H => W c x σ H) w Q (f sd S)
abbrev PO_ (G : Sg) (X : Cx) (W : WX) (e : Expr) (f : List SV → M (List D)) : Prop := PE X e (teO G W f)
theorem FinO.ext {W : Value → Option Addr → Hp → Prop} {Q : VK} {r : Option (Except Exn (List D) × List Ob)} (e : Ext w w1) (h : FinO G W w Q r) : FinO G W w1 Q r := by
  rcases r with _ | ⟨_ | ds, S⟩
  · exact h
  · exact fun w' c x e' => h w' c x (e.trans e')
  · exact fun w' p vs e' s h1 h2 h3 h4 h5 => h w' p vs (e.trans e') s h1 h2 h3 h4 (e.al _ h5)
theorem finO_step {α β : Type} {rep : Wd → α → β → Prop} {W : Value → Option Addr → Hp → Prop} {Q : β → Hp → Prop} {Q' : VK} {f : M α} {k : α → M (List D)} (h : FinO G W w Q' (M.bind f k S))
    (c : ∀ w1 S1 d v, Ext w w1 → RepS G w1 S1 → rep w1 d v → FinO G W w1 Q' (k d S1) → Q v w1.H) : FinG G rep W w Q (f S) := by
  unfold M.bind at h
  rcases hf : f S with _ | ⟨_ | d, S1⟩
  · rw [hf] at h; exact h
  · rw [hf] at h; exact h
  · rw [hf] at h
    exact fun w' v e s r => c w' S1 d v e s r (h.ext e)
theorem finO_new {W : Value → Option Addr → Hp → Prop} {Q : VK} {ds : List D} {vs : List V} {p : Addr} (h : FinO G W w Q (M.pure ds S)) (s : RepS G w S) (r : RepVs G w ds vs) (hp : w.H p = none) : Q (.ref p) (upd w.H p (.lst vs)) :=
  h (w.new p (.lst vs)) p vs (Ext.new hp) (s.new hp) upd_same (RepVs.mono (Ext.new hp) s.dj _ _ r) (fun z => s.fh p z hp) (fun z => s.there z hp) hp
theorem o_lst {n : Nat} {es : List Expr} {g : List SV → M (List D)} {pos : Pos} (h : PLn G X W n es g) (hn : n ≤ sizeLine) : PO_ G X W (.List es pos) (fun sd => M.bind (g sd) M.pure) := by
  refine PE.imp (pe_lst h) fun σ H Q h => ?_
  obtain ⟨w0, w, sd, S, e, r, q⟩ := h
  exact ⟨w0, w, sd, S, e, r, finO_step q fun w1 S1 ds vs e1 s1 rv q1 => ⟨by rw [rv.2]; exact hn, fun p hp => finO_new q1 s1 rv.1 hp⟩⟩
def ownS (i : Nat) (f : List SV → M (List D)) : MS := exS f fun ds sd S => some (.next (sd.set i (.own (.lst ds))), S)
theorem s_own {i : Nat} {x : Str} {e : Expr} {f : List SV → M (List D)} {pos pos' : Pos} (c : Ctx G X W k) (hi : X.N[i]? = some x) (hx : Loc X.env.scope x) (he : PO_ G X W e f) (hs : swapFree e = true) (hf : X.fn x = true ∨ X.env.scope.names.lookup x = some .local) (i0 : i ≠ 0) :
    PSV G X W (.Assign [.Name x pos'] e pos) (ownS i f) := by
  refine PS.imp (ps_set c.nd hi hx he (swap_free hs) hf) fun En σ H q => ?_
  obtain ⟨w0, w, sd, S, e, r, q⟩ := q
  refine ⟨w0, w, sd, S, e, r, ?_⟩
  unfold ownS exS at q
  rcases hf : f sd S with _ | ⟨_ | ds, S1⟩
  · rw [hf] at q; exact q
  · rw [hf] at q
    exact fun w' cls x e s rx => q w' σ cls x (e.stay r.st.dj) (r.step e s) rx
  · rw [hf] at q
    intro w' p vs e1 s1 h1 h2 h3 h4 h5
    have r1 := r.step e1 s1
    refine q w' (σ.set i (some (.ref p))) (e1.stay r.st.dj) (r1.setown ⟨vs, h1, h2⟩ h3 h4 (r.ex.al _ h5) (fun j o' ho hj => ?_) i0)
    obtain ⟨a, e2, hr, _⟩ := r.ow j o' ho
    rw [hj] at e2
    cases e2
    exact hr.there h5
def newRef (o : Ob) : M D := fun S => some (.ok (.ref S.length), S ++ [o])
theorem share {o : Ob} {p : Addr} (s : RepS G w S) (ho : RepO G w p o) (nF : ¬ w.F p) (nm : p ∉ w.m) : Stay w ⟨w.m ++ [p], w.F, w.H, w.x⟩ ∧ RepS G ⟨w.m ++ [p], w.F, w.H, w.x⟩ (S ++ [o]) := by
  have st : Stay w ⟨w.m ++ [p], w.F, w.H, w.x⟩ := ⟨⟨[p], rfl⟩, fun _ z => z, fun _ _ _ z => z⟩
  refine ⟨st, by simp [s.len], ?_, fun a h => ?_, s.fh, fun n a u h1 h2 => ?_⟩
  · rw [List.nodup_append]
    exact ⟨s.nd, by simp, fun a ha b hb => by
      have : b = p := by simpa using hb
      subst this
      exact fun e => nm (e ▸ ha)⟩
  · show a ∉ w.m ++ [p]
    simp only [List.mem_append, List.mem_singleton, not_or]
    exact ⟨s.dj a h, fun e => nF (by rw [← e]; exact h)⟩
  · have h1 : (w.m ++ [p])[n]? = some a := h1
    by_cases hn : n < w.m.length
    · rw [List.getElem?_append_left hn] at h1
      rw [List.getElem?_append_left (by rw [← s.len]; exact hn)] at h2
      exact RepO.to (w := w) (w' := ⟨w.m ++ [p], w.F, w.H, w.x⟩) rfl st (s.ob n a u h1 h2)
    · rw [List.getElem?_append_right (by omega)] at h1
      rw [List.getElem?_append_right (by rw [← s.len]; omega)] at h2
      have e0 : n - w.m.length = 0 := by
        have := (List.getElem?_eq_some_iff.mp h1).1
        simp at this
        omega
      rw [e0] at h1
      rw [← s.len, e0] at h2
      simp at h1 h2
      subst h1 h2
      exact RepO.to (w := w) (w' := ⟨w.m ++ [p], w.F, w.H, w.x⟩) rfl st ho
theorem v_shr {e : Expr} {f : List SV → M (List D)} (h : PO_ G X W e f) : PV G X W e (fun sd => M.bind (f sd) fun ds => newRef (.lst ds)) := by
  refine PE.imp h fun σ H Q h => ?_
  obtain ⟨w0, w, sd, S, e, r, q⟩ := h
  refine ⟨w0, w, sd, S, e, r, ?_⟩
  have q : FinG G (RepV G) (fun c x H => W c x σ H) w Q (M.bind (f sd) (fun ds => newRef (.lst ds)) S) := q
  unfold M.bind at q
  rcases hf : f sd S with _ | ⟨_ | ds, S1⟩
  · rw [hf] at q; exact q
  · rw [hf] at q; exact q
  · rw [hf] at q
    intro w' p vs e1 s1 h1 h2 h3 h4 h5
    obtain ⟨st, s2⟩ := share (o := .lst ds) s1 ⟨vs, h1, h2⟩ h3 h4
    have q : FinG G (RepV G) (fun c x H => W c x σ H) w Q (some (.ok (.ref S1.length), S1 ++ [.lst ds])) := q
    refine q ⟨w'.m ++ [p], w'.F, w'.H, w'.x⟩ (.ref p) ⟨?_, e1.F, e1.H, fun b hb => ?_, e1.nF, e1.al⟩ s2 ⟨p, rfl, ?_⟩
    · obtain ⟨rr, er⟩ := e1.m
      exact ⟨rr ++ [p], by show w'.m ++ [p] = _; rw [er, List.append_assoc]⟩
    · have hb : b ∈ w'.m ++ [p] := hb
      rcases List.mem_append.mp hb with z | z
      · exact e1.nm b z
      · have : b = p := by simpa using z
        subst this
        exact .inr h5
    · show (w'.m ++ [p])[S1.length]? = some p
      rw [← s1.len, List.getElem?_append_right (Nat.le_refl _)]
      simp
def appS (i : Nat) (f : List SV → M D) : MS := fun sd S => match sd[i]? with
  | some (.own (.lst ds)) => if ds.length < lim then exS f (fun d sd S => some (.next (sd.set i (.own (.lst (ds ++ [d])))), S)) sd S else none
  | _ => none
theorem few_of {cpos : Pos} {es : List Expr} (hs : es.all notStar = true) (hl : es.length < 30) : ((backTo cpos (starEach es X.env)).all (fun x => !x.1) && (backToKw cpos (keywordEach [] X.env)).all (fun x => x.1.isSome)
      && decide (es.length + ([] : List Keyword).length + (if ([] : List Keyword).isEmpty then 0 else 1) < 30)) = true := by
  rw [star_form hs]
  show (true && true && decide (es.length + 0 + 0 < 30)) = true
  rw [decide_eq_true (by omega)]
  rfl
theorem s_app {i : Nat} {x : Str} {p apos pos epos : Pos} {e : Expr} {f : List SV → M D} (hN : X.N[i]? = some x) (hv : Vis X.env.scope x) (hd : (x == ("__debug__" : Str)) = false) (hcd : (x == ("__classdict__" : Str)) = false) (he : PV G X W e f) (hs : notStar e = true) (hp : (apos.endLine == pos.line) = true) :
    PSV G X W (.Expr (.Call (.Attribute (.Name x p) "append" apos) [e] [] pos) epos) (appS i f) := by
  have hs1 : [e].all notStar = true := by simpa using hs
  have base := ps_expr (pos := epos) (pe_bm (cpos := pos) (apos := apos) PySem.F.plainAttrs_list PySem.F.slot_list_append PySem.F.type_list_append mt_append (pe_var (X := X) (pos := p) hN hv hd hcd) (pa_cons he pa_nil (starEach_cons hs)) (attr_base rfl) (few_of hs1 (by simp)) hp (starEach_cons hs) rfl) rfl
  refine PS.imp base fun En σ H q => ?_
  obtain ⟨w0, w, sd, S, e, r, q⟩ := q
  subst e
  unfold appS at q
  rcases hi : sd[i]? with _ | _ | d0 | ⟨ds | ⟨ks, ds⟩ | ⟨cc, ds⟩⟩
  · simp only [hi] at q; exact q.elim
  · simp only [hi] at q; exact q.elim
  · simp only [hi] at q; exact q.elim
  · simp only [hi] at q
    by_cases hz : ds.length < lim
    · rw [if_pos hz] at q
      obtain ⟨a, ha, ⟨vs, h1, h2⟩, nF, nm, n0⟩ := r.ow i _ hi
      refine ⟨.ref a, ha, Or.inl ⟨rfl, vs, .of h1⟩, w0, w, sd, S, rfl, r, exS_step q r fun w1 S1 d v e1 r1 rv q1 => ?_⟩
      obtain ⟨a', ha', ⟨vs', h1', h2'⟩, nF', nm', _⟩ := r1.ow i _ hi
      rw [ha] at ha'
      cases ha'
      refine ⟨a, vs', v, rfl, rfl, h1', by rw [← h2'.length, ← lim_eq]; exact hz, ?_⟩
      have hn : RepO G (w1.wr a (.lst (vs' ++ [v]))) a (.lst (ds ++ [d])) := ⟨_, upd_same, RepVs.append (RepVs.stay (Stay.wr nF') _ _ h2') (RepVs.one (RepV.stay (Stay.wr nF') _ _ rv))⟩
      exact q1 (w1.wr a (.lst (vs' ++ [v]))) σ (Stay.wr nF') (r1.wr hi ha hn)
    · rw [if_neg hz] at q; exact q.elim
  · simp only [hi] at q; exact q.elim
  · simp only [hi] at q; exact q.elim
end
end Ev
set_option maxRecDepth 100000
set_option maxHeartbeats 2000000
namespace Ev
open PySem PySem.Spec PyProof.Rows L2
section
variable {G : Sg} {X : Cx} {W : WX} {k : Nat} {w0 w w1 : Wd} {S : List Ob} {sd : List SV} {σ : L2.St}
theorem R.wrm {n : Nat} {a : Addr} {o' : Ob} {h : HO} (r : R G w0 w sd S σ) (hm : w.m[n]? = some a) (hn : RepO G (w.wr a h) a o') : Stay w (w.wr a h) ∧ R G w0 (w.wr a h) sd (S.set n o') σ := by
  have am : a ∈ w.m := List.mem_of_getElem? hm
  have nF : ¬ w.F a := fun z => r.st.dj a z am
  have st := Stay.wr (o := h) nF
  have hnS : n < S.length := by rw [← r.st.len]; exact (List.getElem?_eq_some_iff.mp hm).1
  have ne : ∀ {j b}, w.m[j]? = some b → j ≠ n → b ≠ a := fun {j b} hj hjn e => by
    subst e
    obtain ⟨l1, e1⟩ := List.getElem?_eq_some_iff.mp hj
    obtain ⟨l2, e2⟩ := List.getElem?_eq_some_iff.mp hm
    exact hjn ((List.getElem_inj r.st.nd).mp (e1.trans e2.symm))
  refine ⟨st, ⟨?_, ?_, r.ln, fun j x z => ?_, fun j o2 z => ?_, r.ap, r.sf⟩⟩
  · refine ⟨r.ex.m, r.ex.F, fun b u hb hu => ?_, r.ex.nm, r.ex.nF, fun b z => ?_⟩
    · have nb : b ≠ a := fun e => by
        subst e
        rcases r.ex.nm b am with z | z
        · exact hb z
        · rw [z] at hu; cases hu
      show upd w.H a h b = some u
      rw [upd_ne nb]
      exact r.ex.H b u hb hu
    · have z : upd w.H a h b = none := z
      by_cases e : b = a
      · rw [e, upd_same] at z; cases z
      · rw [upd_ne e] at z
        exact r.ex.al b z
  · refine ⟨by rw [List.length_set]; exact r.st.len, r.st.nd, r.st.dj, fun b z => ?_, fun j b u h1 h2 => ?_⟩
    · show upd w.H a h b ≠ none
      rw [upd_ne (fun e => nF (by rw [← e]; exact z))]
      exact r.st.fh b z
    · by_cases e : n = j
      · subst e
        rw [List.getElem?_set_self hnS] at h2
        cases h2
        rw [show w.m[n]? = some b from h1] at hm
        cases hm
        exact hn
      · rw [List.getElem?_set_ne e] at h2
        exact RepO.to (upd_ne (ne h1 fun z => e z.symm)) st (r.st.ob j b u h1 h2)
  · obtain ⟨v, h1, h2⟩ := r.vl j x z
    exact ⟨v, h1, RepV.stay st _ _ h2⟩
  · obtain ⟨b, h1, h2, h3, h4, h5⟩ := r.ow j o2 z
    have nb : b ≠ a := fun e => h4 (e ▸ am)
    exact ⟨b, h1, RepO.to (upd_ne nb) st h2, h3, h4, h5⟩
def itemT (fo fi : List SV → M D) : Tgt := fun d sd S => match fo sd S with
  | some (.ok (.ref n), S1) => match fi sd S1 with
    | some (.ok (.int j), S2) => match S2[n]? with
      | some (.lst ds) => match ixN ds.length j with
        | some i => some (sd, S2.set n (.lst (ds.set i d)))
        | none => none
      | _ => none
    | _ => none
  | _ => none
theorem sub_tree {o i : Expr} {pos : Pos} (hs : notSlice i = true) (v : Value) : assign (.Subscript o i pos) X.env v = (do
      let ov ← holding [v] (eval o X.env)
      let iv ← holding [v, ov] (eval i X.env)
      standAt pos
      holding [v, ov, iv] (setItem ov iv v)
      release [v, ov, iv] []) := by
  cases i <;> first | rfl | cases hs
theorem g_item {o i : Expr} {fo fi : List SV → M D} {pos : Pos} (ho : PV G X W o fo) (hi : PV G X W i fi) (hs : notSlice i = true) : PGV G X [] (.Subscript o i pos) (itemT fo fi) := by
  refine PG.imp (pg_sub ho hi set_list (sub_tree hs)) fun v σ H Q q => ?_
  obtain ⟨w0, w, sd, S, d, e, r, rd, q⟩ := q
  refine ⟨w0, w, sd, S, e, r, ?_⟩
  unfold itemT at q
  rcases hf : fo sd S with _ | ⟨x | d1, S1⟩
  · rw [hf] at q; exact q
  · rw [hf] at q; exact q.elim
  · rw [hf] at q
    cases d1 with
    | ref n =>
      simp only at q
      intro w1 v1 e1 s1 ⟨a, ev, hm⟩
      have r1 := r.step e1 s1
      refine ⟨w0, w1, sd, S1, rfl, r1, ?_⟩
      rcases hg : fi sd S1 with _ | ⟨x | d2, S2⟩
      · rw [hg] at q; exact q
      · rw [hg] at q; exact q.elim
      · rw [hg] at q
        cases d2 with
        | int j =>
          simp only at q
          intro w2 v2 e2 s2 rj
          cases (show v2 = .int j from rj)
          have r2 := r1.step e2 s2
          obtain ⟨rr, er⟩ := e2.m
          have hm2 : w2.m[n]? = some a := by
            rw [er, List.getElem?_append_left (List.getElem?_eq_some_iff.mp hm).1]; exact hm
          rcases hn : S2[n]? with _ | ⟨ds | _ | _⟩
          · simp only [hn] at q; exact q.elim
          · simp only [hn] at q
            obtain ⟨vs, hh, rs⟩ := s2.ob n a _ hm2 hn
            rcases hx : ixN ds.length j with _ | i2
            · simp only [hx] at q; exact q.elim
            · simp only [hx] at q
              have rd2 : RepV G w2 d v := RepV.mono (e1.trans e2) r.st.dj _ _ rd
              have nF : ¬ w2.F a := fun z => s2.dj a z (List.mem_of_getElem? hm2)
              have st := Stay.wr (o := .lst (vs.set i2 v)) nF
              obtain ⟨st2, r3⟩ := r2.wrm hm2 (h := .lst (vs.set i2 v)) (o' := .lst (ds.set i2 d)) ⟨_, upd_same, RepVs.set i2 (RepVs.stay st _ _ rs) (RepV.stay st _ _ rd2)⟩
              refine ⟨a, vs, j, i2, ev, rfl, hh, by rw [← rs.length]; exact hx, ?_⟩
              exact q (w2.wr a _) σ (((e1.trans e2).stay r.st.dj).trans st2) r3 fun _ _ => rfl
          · simp only [hn] at q; exact q.elim
          · simp only [hn] at q; exact q.elim
        | _ => exact q.elim
    | _ => exact q.elim
theorem putF_zip {f : Str} : ∀ {fs : List Str} {vs : List V} {j : Nat} {v : V}, fs.Nodup → fs[j]? = some f → j < vs.length → putF f v (fs.zip vs) = fs.zip (vs.set j v)
  | [], _, _, _, _, h, _ => by simp at h
  | _ :: _, [], _, _, _, _, h => by simp at h
  | g :: fs, u :: vs, 0, v, _, h, _ => by
    simp at h
    subst h
    show putF g v ((g, u) :: fs.zip vs) = (g, v) :: fs.zip vs
    unfold putF
    rw [if_pos rfl]
  | g :: fs, u :: vs, j + 1, v, nd, h, hl => by
    have nd := List.nodup_cons.mp nd
    have hm : fs[j]? = some f := by simpa using h
    have hne : ¬ g = f := fun e => nd.1 (e ▸ List.mem_of_getElem? hm)
    show putF f v ((g, u) :: fs.zip vs) = (g, u) :: fs.zip (vs.set j v)
    unfold putF
    rw [if_neg hne, putF_zip nd.2 hm (by simpa using hl)]
theorem putF_new {f : Str} : ∀ {fs : List Str} {vs : List V} {v : V}, fs.Nodup → fs[vs.length]? = some f → putF f v (fs.zip vs) = fs.zip (vs ++ [v])
  | [], vs, _, _, h => by simp at h
  | g :: fs, [], v, _, h => by
    simp at h
    subst h
    show putF g v [] = [(g, v)] ++ fs.zip []
    simp [putF]
  | g :: fs, u :: vs, v, nd, h => by
    have nd := List.nodup_cons.mp nd
    have hm : fs[vs.length]? = some f := by simpa using h
    have hne : ¬ g = f := fun e => nd.1 (e ▸ List.mem_of_getElem? hm)
    show putF f v ((g, u) :: fs.zip vs) = (g, u) :: fs.zip (vs ++ [v])
    unfold putF
    rw [if_neg hne, putF_new nd.2 hm]
def putL (ds : List D) (j : Nat) (d : D) : Option (List D) := if j < ds.length then some (ds.set j d) else if j = ds.length then some (ds ++ [d]) else none
structure FldT (X : Cx) (G : Sg) (m : Str) (tbl : Nat → Option Nat) : Prop where
  at_ : ∀ c j, tbl c = some j → Cls X.K (G.ca c) ∧ NoAttr X.K (G.ca c) m ∧ (G.fn c).Nodup ∧ (G.fn c)[j]? = some m ∧ (G.fn c).length < 1000
def setFS (i : Nat) (tbl : Nat → Option Nat) (f : List SV → M D) : MS := exS f fun d sd S => match sd[i]? with
  | some (.own (.ins c ds)) => match tbl c with
    | some j => match putL ds j d with
      | some es => some (.next (sd.set i (.own (.ins c es))), S)
      | none => none
    | none => none
  | _ => none
theorem s_setF {i : Nat} {x m : Str} {p apos pos : Pos} {e : Expr} {f : List SV → M D} {tbl : Nat → Option Nat} (T : FldT X G m tbl) (hN : X.N[i]? = some x) (hv : Vis X.env.scope x) (hd : (x == ("__debug__" : Str)) = false) (hcd : (x == ("__classdict__" : Str)) = false) (he : PV G X W e f) (hs : swapFree e = true) :
    PSV G X W (.Assign [.Attribute (.Name x p) m apos] e pos) (setFS i tbl f) := by
  refine PS.imp (ps_fld (pe_var (X := X) (pos := p) hN hv hd hcd) he (swap_free hs)) fun En σ H q => ?_
  obtain ⟨w0, w, sd, S, e, r, q⟩ := q
  refine ⟨w0, w, sd, S, e, r, exS_step q r fun w1 S1 d v e1 r1 rv q1 => ?_⟩
  rcases hi : sd[i]? with _ | _ | d0 | ⟨ds | ⟨ks, ds⟩ | ⟨cc, ds⟩⟩
  · simp only [hi] at q1; exact q1.elim
  · simp only [hi] at q1; exact q1.elim
  · simp only [hi] at q1; exact q1.elim
  · simp only [hi] at q1; exact q1.elim
  · simp only [hi] at q1; exact q1.elim
  · simp only [hi] at q1
    rcases ht : tbl cc with _ | j
    · simp only [ht] at q1; exact q1.elim
    · simp only [ht] at q1
      obtain ⟨cl, na, nd, hj, hl⟩ := T.at_ cc j ht
      obtain ⟨a, ha, ⟨dx, vs, h1, h2, h3⟩, nF, nm, n0⟩ := r1.ow i _ hi
      have hlen : ((G.fn cc).zip vs).length < 1000 := by
        rw [List.length_zip]; omega
      refine ⟨.ref a, ha, a, _, dx, _, rfl, h1, cl, na, hlen, ?_⟩
      unfold putL at q1
      by_cases c1 : j < ds.length
      · simp only [if_pos c1] at q1
        rw [putF_zip nd hj (by rw [← h3.length]; exact c1)]
        have hn : RepO G (w1.wr a (.ins (G.ca cc) dx ((G.fn cc).zip (vs.set j v)))) a (.ins cc (ds.set j d)) := ⟨dx, _, upd_same, by rw [List.length_set]; exact h2, RepVs.set j (RepVs.stay (Stay.wr nF) _ _ h3) (RepV.stay (Stay.wr nF) _ _ rv)⟩
        exact q1 _ σ (Stay.wr nF) (r1.wr hi ha hn)
      · simp only [if_neg c1] at q1
        by_cases c2 : j = ds.length
        · simp only [if_pos c2] at q1
          subst c2
          rw [h3.length] at hj
          rw [putF_new nd hj]
          have hn : RepO G (w1.wr a (.ins (G.ca cc) dx ((G.fn cc).zip (vs ++ [v])))) a (.ins cc (ds ++ [d])) := ⟨dx, _, upd_same, by
            rw [List.length_append]
            exact (List.getElem?_eq_some_iff.mp hj).1, RepVs.append (RepVs.stay (Stay.wr nF) _ _ h3) (RepVs.one (RepV.stay (Stay.wr nF) _ _ rv))⟩
          exact q1 _ σ (Stay.wr nF) (r1.wr hi ha hn)
        · simp only [if_neg c2] at q1; exact q1.elim
def ownIx (i : Nat) (fi : List SV → M D) : List SV → M D := fun sd => match sd[i]? with
  | some (.own (.lst ds)) => M.bind (fi sd) fun j => dIx (.lst ds) j
  | _ => M.stuck
theorem v_ownIx {i : Nat} {x : Str} {p pos : Pos} {b : Expr} {fi : List SV → M D} (hN : X.N[i]? = some x) (hv : Vis X.env.scope x) (hd : (x == ("__debug__" : Str)) = false) (hcd : (x == ("__classdict__" : Str)) = false) (hb : PV G X W b fi) (hs : notSlice b = true) : PV G X W (.Subscript (.Name x p) b pos) (ownIx i fi) := by
  refine PE.imp (pe_ix ix_list (pe_var (X := X) (pos := p) hN hv hd hcd) hb (plain_ix hs)) fun σ H Q q => ?_
  obtain ⟨w0, w, sd, S, e, r, q⟩ := q
  subst e
  unfold ownIx at q
  rcases hi : sd[i]? with _ | _ | d0 | ⟨ds | ⟨ks, ds⟩ | ⟨cc, ds⟩⟩
  · simp only [hi] at q; exact q.elim
  · simp only [hi] at q; exact q.elim
  · simp only [hi] at q; exact q.elim
  · simp only [hi] at q
    obtain ⟨a, ha, _⟩ := r.ow i _ hi
    refine ⟨.ref a, ha, w0, w, sd, S, rfl, r, fin_step q fun w1 S1 d v e1 s1 rv q1 => ?_⟩
    obtain ⟨a', ha', ⟨vs, h1, h2⟩, _⟩ := (r.step e1 s1).ow i _ hi
    rw [ha] at ha'
    cases ha'
    unfold dIx at q1
    cases d with
    | int j =>
      cases (show v = .int j from rv)
      simp only at q1
      rcases hx : atI ds j with _ | z
      · simp only [hx] at q1; exact q1.elim
      · simp only [hx] at q1
        obtain ⟨v1, h3, h4⟩ := atI_rep h2 hx
        exact ⟨a, vs, j, v1, rfl, rfl, .of h1, h3, fin_pure (a := z) q1 s1 h4⟩
    | _ => exact q1.elim
  · simp only [hi] at q; exact q.elim
  · simp only [hi] at q; exact q.elim
end
end Ev
set_option maxRecDepth 100000
set_option maxHeartbeats 2000000
namespace Ev
open PySem PySem.Spec PyProof.Rows L2
def cutD {α : Type} (xs : List α) (lo hi : Option Int) : List α := (xs.drop (HT.sIx xs.length 0 lo)).take (HT.sIx xs.length xs.length hi - HT.sIx xs.length 0 lo)
section
variable {G : Sg} {X : Cx} {W : WX} {k : Nat} {w0 w w1 : Wd} {S : List Ob} {sd : List SV} {σ : L2.St}
theorem cut_rep {ds : List D} {vs : List V} {lo hi : Option Int} (r : RepVs G w ds vs) : RepVs G w (cutD ds lo hi) (cutV vs lo hi) := by
  unfold cutD cutV
  rw [r.length]
  exact RepVs.take _ (RepVs.drop _ r)
def dSl (d : D) (lo hi : Option Int) : M D := match d with
  | .lst ds => M.pure (.lst (cutD ds lo hi))
  | .scr ds => M.pure (.lst (cutD ds lo hi))
  | .tup ds => M.pure (.tup (cutD ds lo hi))
  | .str z => if z.length ≤ lim then M.pure (.str (cutS z lo hi)) else M.stuck
  | _ => M.stuck
def rSlD (G : Sg) : V → Option Int → Option Int → Hp → VK → Prop := fun v lo hi H Q => ∃ W w S d, w.H = H ∧ RepS G w S ∧ RepV G w d v ∧ FinG G (RepV G) W w Q (dSl d lo hi S)
theorem sl_D (cK : G.K = X.K) : SlR X (rSlD G) := by
  have base := (sl_list (X := X)).or ((sl_tupA (X := X)).or (sl_str (X := X)))
  intro pins s σ H x v vl vu lo hi sl Q I rx hs pl pu q
  refine base pins s σ H x v vl vu lo hi sl Q I rx hs pl pu ?_
  obtain ⟨W, w, S, d, rfl, st, r, q⟩ := q
  cases d with
  | lst ds =>
    obtain ⟨a, vs, rfl, f, hh, rs⟩ := r
    exact .inl ⟨a, vs, rfl, .of hh, fun p hp => q (w.frz p _) _ (Ext.frz hp) (st.frz hp) ⟨p, _, rfl, .inr rfl, upd_same, RepVs.mono (Ext.frz hp) st.dj _ _ (cut_rep rs)⟩⟩
  | scr ds =>
    obtain ⟨a, vs, rfl, hh, rs⟩ := r
    exact .inl ⟨a, vs, rfl, sqL_of cK hh, fun p hp => q (w.frz p _) _ (Ext.frz hp) (st.frz hp) ⟨p, _, rfl, .inr rfl, upd_same, RepVs.mono (Ext.frz hp) st.dj _ _ (cut_rep rs)⟩⟩
  | tup ds =>
    obtain ⟨a, vs, rfl, hh, rs⟩ := r
    refine .inr (.inl ⟨a, vs, rfl, sqT_of cK hh, fun hw => ?_, fun _ p hp => ?_⟩)
    · have e : cutD ds lo hi = ds := by
        unfold cutD
        rw [rs.length, hw.1, hw.2, List.drop_zero, Nat.sub_zero, ← rs.length, List.take_length]
      have q : FinG G (RepV G) W w Q (M.pure (.tup (cutD ds lo hi)) S) := q
      rw [e] at q
      exact fin_pure q st ⟨a, vs, rfl, hh, rs⟩
    · exact q (w.frz p _) _ (Ext.frz hp) (st.frz hp) ⟨p, _, rfl, .inl ⟨.inr rfl, .inl upd_same⟩, RepVs.mono (Ext.frz hp) st.dj _ _ (cut_rep rs)⟩
  | str z =>
    cases (show x = .str z from r)
    obtain ⟨c, q⟩ := FinG.ite q
    exact .inr (.inr ⟨z, rfl, by rw [← lim_eq]; exact c, fin_pure q st rfl⟩)
  | _ => exact q.elim
def repO : Wd → Option Int → Option Int → Prop := fun _ a b => b = a
abbrev POV (G : Sg) (X : Cx) (W : WX) (e : Option Expr) (f : List SV → M (Option Int)) : Prop := PO X e (fun σ H Q => teG G repO W f σ H Q)
theorem PO.imp {e : Option Expr} {t t' : TO} (h : PO X e t) (i : ∀ σ H Q, t' σ H Q → t σ H Q) : PO X e t' := ⟨fun p s σ H Q I q => h.run p s σ H Q I (i σ H Q q)⟩
theorem q_none : POV G X W none (fun _ => M.pure none) := by
  refine PO.imp po_none fun σ H Q h => ?_
  obtain ⟨w0, w, sd, S, e, r, q⟩ := h
  subst e
  exact fin_pure q r.st rfl
def toI : D → M (Option Int)
  | .int i => M.pure (some i)
  | _ => M.stuck
theorem q_some {e : Expr} {f : List SV → M D} (h : PV G X W e f) : POV G X W (some e) (fun sd => M.bind (f sd) toI) := by
  refine PO.imp (po_some h) fun σ H Q h => ?_
  obtain ⟨w0, w, sd, S, e, r, q⟩ := h
  refine ⟨w0, w, sd, S, e, r, fin_step q fun w1 S1 d v e1 s1 rv q1 => ?_⟩
  cases d with
  | int i => cases (show v = .int i from rv); exact ⟨i, rfl, fin_pure q1 s1 rfl⟩
  | _ => exact q1.elim
theorem v_slice {e : Expr} {lo hi : Option Expr} {f : List SV → M D} {fl fh : List SV → M (Option Int)} {p2 pos : Pos} (cK : G.K = X.K) (he : PV G X W e f) (hl : POV G X W lo fl) (hh : POV G X W hi fh) :
    PV G X W (.Subscript e (.Slice lo hi none p2) pos) (fun sd => M.bind (f sd) fun d => M.bind (fl sd) fun l => M.bind (fh sd) fun u => dSl d l u) := by
  refine PE.imp (pe_slice (sl_D cK) he hl hh) fun σ H Q h => ?_
  obtain ⟨w0, w, sd, S, e, r, q⟩ := h
  refine ⟨w0, w, sd, S, e, r, fin_step q fun w1 S1 d v e1 s1 rv q1 => ⟨w0, w1, sd, S1, rfl, r.step e1 s1, fin_step q1 fun w2 S2 l l' e2 s2 rl q2 => ⟨w0, w2, sd, S2, rfl, (r.step e1 s1).step e2 s2, fin_step q2 fun w3 S3 u u' e3 s3 ru q3 => ?_⟩⟩⟩
  cases (show l' = l from rl)
  cases (show u' = u from ru)
  exact ⟨_, w3, S3, d, rfl, s3, RepV.mono (e2.trans e3) s1.dj d v rv, q3⟩
def dRev : D → M D
  | .lst ds => M.pure (.lst ds.reverse)
  | .scr ds => M.pure (.lst ds.reverse)
  | _ => M.stuck
def dNeg : D → M D
  | .int i => M.pure (.int (-i))
  | _ => M.stuck
theorem v_neg {a : Expr} {f : List SV → M D} {pos : Pos} (ha : PV G X W a f) : PV G X W (.UnaryOp .USub a pos) (fun sd => M.bind (f sd) dNeg) := by
  refine PE.imp (pe_un un_neg ha) fun σ H Q h => ?_
  obtain ⟨w0, w, sd, S, e, r, q⟩ := h
  refine ⟨w0, w, sd, S, e, r, fin_step q fun w1 S1 d v e1 s1 rv q1 => ?_⟩
  cases d with
  | int i => cases (show v = .int i from rv); exact ⟨i, rfl, fin_pure q1 s1 rfl⟩
  | _ => exact q1.elim
def signIn (x z : Str) : Option Bool := match x.cps.toList with
  | [c] => some (decide (c ∈ z.cps.toList))
  | _ => none
def txts : List D → Option (List Str)
  | [] => some []
  | .str x :: ds => (txts ds).map (x :: ·)
  | _ :: _ => none
def dIn (neg : Bool) (d e : D) : M D := match e with
  | .str z => match d with
    | .str x => match signIn x z with
      | some b => M.pure (.bl (if neg then !b else b))
      | none => M.stuck
    | _ => M.stuck
  | .lst ds => match toP d, toPs ds with
    | some p, some ps => if SeqAt.shaped p = true ∧ SeqAt.shaped (.list ps) = true then M.pure (.bl (if neg then !(ps.any fun z => PyData.eqv z p) else ps.any fun z => PyData.eqv z p)) else M.stuck
    | _, _ => M.stuck
  | .tup ds => match d with
    | .str x => match txts ds with
      | some xs => M.pure (.bl (if neg then !xs.contains x else xs.contains x))
      | none => M.stuck
    | _ => M.stuck
  | _ => M.stuck
theorem strs_rep : ∀ {ds : List D} {xs : List Str} {vs : List V}, txts ds = some xs → RepVs G w ds vs → vs = xs.map V.str
  | [], xs, vs, h, r => by unfold txts at h; cases h; exact r
  | .str x :: ds, xs, vs, h, r => by
    unfold txts at h
    obtain ⟨ys, h1, h2⟩ := Option.map_eq_some_iff.mp h
    subst h2
    obtain ⟨v, t, e, h3, h4⟩ := r
    rw [e, strs_rep h1 h4]
    cases (show v = .str x from h3)
    rfl
  | .non :: _, _, _, h, _ => by cases h
  | .bl _ :: _, _, _, h, _ => by cases h
  | .int _ :: _, _, _, h, _ => by cases h
  | .tup _ :: _, _, _, h, _ => by cases h
  | .lst _ :: _, _, _, h, _ => by cases h
  | .scr _ :: _, _, _, h, _ => by cases h
  | .dct _ _ :: _, _, _, h, _ => by cases h
  | .ins _ _ :: _, _, _, h, _ => by cases h
  | .ref _ :: _, _, _, h, _ => by cases h
  | .ty _ :: _, _, _, h, _ => by cases h
  | .cls _ :: _, _, _, h, _ => by cases h
theorem all_flat (xs : List Str) : (xs.map V.str).all flatV = true := by
  rw [List.all_map]
  exact List.all_eq_true.mpr fun _ _ => rfl
theorem inV_strs (x : Str) (xs : List Str) : inV (.str x) (xs.map V.str) = xs.contains x := by
  unfold inV
  induction xs with
  | nil => rfl
  | cons y ys ih =>
    rw [List.map_cons, List.any_cons, ih, List.contains_cons]
    congr 1
    show eqV (.str y) (.str x) = (x == y)
    have : eqV (.str y) (.str x) = (y == x) := by first | rfl | simp [eqV]
    rw [this]
    exact Bool.beq_comm ..
theorem o_in (cK : G.K = X.K) (hr : Rm G.gd k X.A) : OpR X (compareOp .In) (rD2 G (dIn false)) := by
  have hu : X.A.units + 65 < cLine := by have := hr.room.un; omega
  refine OpR.imp (op_in_sign.or ((op_inD hu).or op_in_seq)) fun v u H Q q => ?_
  obtain ⟨W, w, S, d, e, rfl, s, r1, r2, q⟩ := q
  unfold dIn at q
  cases e with
  | str z =>
    cases d with
    | str x =>
      cases (show v = .str x from r1)
      cases (show u = .str z from r2)
      rcases hx : signIn x z with _ | b
      · simp only [hx] at q; exact q.elim
      · simp only [hx] at q
        unfold signIn at hx
        split at hx
        · rename_i c hc
          cases hx
          refine .inl ⟨c, z, ?_, rfl, fin_pure (b := V.bl _) q s rfl⟩
          congr 1
          rcases x with ⟨⟨l⟩⟩
          have : l = [c] := hc
          rw [this]
        · cases hx
    | _ => exact q.elim
  | lst ds =>
    rcases hp : toP d with _ | p
    · simp only [hp] at q; exact q.elim
    · rcases hq : toPs ds with _ | ps
      · simp only [hp, hq] at q; exact q.elim
      · simp only [hp, hq] at q
        obtain ⟨⟨c1, c2⟩, q⟩ := FinG.ite q
        have hl : toP (.lst ds) = some (.list ps) := by show (toPs ds).map _ = _; rw [hq]; rfl
        exact .inr (.inl ⟨p, ps, toP_dp cK d v p r1 hp, toP_dp cK (.lst ds) u (.list ps) r2 hl, c1, c2, fin_pure (b := V.bl _) q s rfl⟩)
  | tup ds =>
    cases d with
    | str x =>
      cases (show v = .str x from r1)
      rcases hx : txts ds with _ | xs
      · simp only [hx] at q; exact q.elim
      · simp only [hx] at q
        obtain ⟨a, vs, e, hh, rs⟩ := r2
        have ev := strs_rep hx rs
        subst ev
        refine .inr (.inr ⟨a, _, e, .inr (sqT_of cK hh), rfl, all_flat xs, ?_⟩)
        have q2 := fin_pure (b := V.bl (xs.contains x)) q s rfl
        rw [inV_strs]
        exact q2
    | _ => exact q.elim
  | _ => exact q.elim
end
end Ev
set_option maxRecDepth 100000
set_option maxHeartbeats 2000000
namespace Ev
open PySem PySem.Spec PyProof.Rows L2
section
variable {G : Sg} {X : Cx} {W : WX} {k : Nat} {w0 w w1 : Wd} {S : List Ob} {sd : List SV} {σ : L2.St}
def chainD (g g' : D → D → M D) (fa fb fc : List SV → M D) : List SV → M D := fun sd => M.bind (fa sd) fun x => M.bind (fb sd) fun y => M.bind (g x y) fun z => M.bind (toB z) fun k => if k = true then M.bind (fc sd) fun u => g' y u else M.pure (.bl false)
theorem toB_bind {α β : Type} {rep : Wd → α → β → Prop} {W' : Value → Option Addr → Hp → Prop} {Q : β → Hp → Prop} {d : D} {v : V} {kk : Bool → M α} (h : FinG G rep W' w Q (M.bind (toB d) kk S)) (r : RepV G w d v) : ∃ b, v = .bl b ∧ FinG G rep W' w Q (kk b S) := by
  cases d with
  | bl b => exact ⟨b, r, h⟩
  | _ => exact False.elim h
theorem chain_read {g g' : D → D → M D} {fa fb fc : List SV → M D} {H : Hp} {Q : VK} (h : teV G W (chainD g g' fa fb fc) σ H Q) : tChain (rD2 G g) (rD2 G g') (teV G W fa) (teV G W fb) (teV G W fc) σ H Q := by
  obtain ⟨w0, w, sd, S, e, r, q⟩ := h
  refine ⟨w0, w, sd, S, e, r, fin_step q fun w1 S1 d v e1 s1 rv q1 => ⟨w0, w1, sd, S1, rfl, r.step e1 s1, fin_step q1 fun w2 S2 d2 v2 e2 s2 rv2 q2 => ?_⟩⟩
  refine ⟨_, w2, S2, d, d2, rfl, s2, RepV.mono e2 s1.dj d v rv, rv2, fin_step q2 fun w3 S3 z vz e3 s3 rz q3 => ?_⟩
  obtain ⟨b, ev, q4⟩ := toB_bind q3 rz
  refine ⟨b, ev, ?_⟩
  cases b with
  | false => exact fin_pure (b := V.bl false) q4 s3 rfl
  | true =>
    refine ⟨w0, w3, sd, S3, rfl, ((r.step e1 s1).step e2 s2).step e3 s3, fin_step q4 fun w4 S4 d4 v4 e4 s4 rv4 q5 => ?_⟩
    exact ⟨_, w4, S4, d2, d4, rfl, s4, RepV.mono (e3.trans e4) s2.dj d2 v2 rv2, rv4, q5⟩
theorem marks_of {op op' : CmpOp} {b c : Expr} (h : behindInMarks op' c = false) : lastMarks [op, op'] [b, c] = false := h
theorem v_chain' {op op' : CmpOp} {g g' : D → D → M D} {a b c : Expr} {fa fb fc : List SV → M D} {pos : Pos} (ho : OpR X (compareOp op) (rD2 G g)) (ho' : OpR X (compareOp op') (rD2 G g')) (ha : PV G X W a fa) (hb : PV G X W b fb) (hc : PV G X W c fc)
    (hm : behindInMarks op' c = false) : PV G X W (.Compare a [op, op'] [b, c] pos) (chainD g g' fa fb fc) := PE.imp (pe_chain ho ho' ha hb hc (marks_of hm)) fun σ H Q h => chain_read h
def isStr : D → M Str
  | .str x => M.pure x
  | _ => M.stuck
def dJoin (a : Str) (e : D) : M D := match e with
  | .lst ds => match txts ds with
    | some ys => if (ys.map (·.length)).sum + ys.length * a.length ≤ 16777216 then M.pure (.str (Txt.join a ys)) else M.stuck
    | none => M.stuck
  | .tup ds => match txts ds with
    | some ys => if (ys.map (·.length)).sum + ys.length * a.length ≤ 16777216 then M.pure (.str (Txt.join a ys)) else M.stuck
    | none => M.stuck
  | _ => M.stuck
theorem isStr_bind {α β : Type} {rep : Wd → α → β → Prop} {W' : Value → Option Addr → Hp → Prop} {Q : β → Hp → Prop} {d : D} {v : V} {kk : Str → M α} (h : FinG G rep W' w Q (M.bind (isStr d) kk S)) (r : RepV G w d v) : ∃ b, v = .str b ∧ FinG G rep W' w Q (kk b S) := by
  cases d with
  | str b => exact ⟨b, r, h⟩
  | _ => exact False.elim h
theorem v_join {o e : Expr} {fo fe : List SV → M D} {apos pos : Pos} (cK : G.K = X.K) (ho : PV G X W o fo) (he : PV G X W e fe) (hs : notStar e = true) (hb : plainBase o = true) (hp : (apos.endLine == pos.line) = true) :
    PV G X W (.Call (.Attribute o "join" apos) [e] [] pos) (fun sd => M.bind (fo sd) fun d => M.bind (isStr d) fun a => M.bind (fe sd) fun b => dJoin a b) := by
  refine PE.imp (pe_join ho he (by rw [starEach_cons hs]; rfl) (attr_base hb) hp) fun σ H Q h => ?_
  obtain ⟨w0, w, sd, S, e, r, q⟩ := h
  refine ⟨w0, w, sd, S, e, r, fin_step q fun w1 S1 d v e1 s1 rv q1 => ?_⟩
  obtain ⟨a, ev, q2⟩ := isStr_bind q1 rv
  refine ⟨⟨a, ev⟩, w0, w1, sd, S1, rfl, r.step e1 s1, fin_step q2 fun w2 S2 d2 v2 e2 s2 rv2 q3 => ?_⟩
  unfold dJoin at q3
  cases d2 with
  | lst ds =>
    rcases ht : txts ds with _ | ys
    · simp only [ht] at q3; exact q3.elim
    · simp only [ht] at q3
      obtain ⟨c1, q4⟩ := FinG.ite q3
      obtain ⟨p, vs, e3, f, hh, rs⟩ := rv2
      have e4 := strs_rep ht rs
      subst e4
      exact ⟨a, p, ys, ev, by rw [e3], .inl (.of hh), c1, fin_pure q4 s2 rfl⟩
  | tup ds =>
    rcases ht : txts ds with _ | ys
    · simp only [ht] at q3; exact q3.elim
    · simp only [ht] at q3
      obtain ⟨c1, q4⟩ := FinG.ite q3
      obtain ⟨p, vs, e3, hh, rs⟩ := rv2
      have e4 := strs_rep ht rs
      subst e4
      exact ⟨a, p, ys, ev, by rw [e3], .inr (sqT_of cK hh), c1, fin_pure q4 s2 rfl⟩
  | _ => exact q3.elim
def dFmt : D → M D
  | .str x => if x.length ≤ lim then M.pure (.str x) else M.stuck
  | .int i => if strOk i = true then M.pure (.str (toString i : String)) else M.stuck
  | _ => M.stuck
theorem v_fmt {e : Expr} {f : List SV → M D} {pos : Pos} (he : PV G X W e f) : PV G X W (.FormattedValue e (-1) none pos) (fun sd => M.bind (f sd) dFmt) := by
  refine PE.imp (pe_fmt he) fun σ H Q h => ?_
  obtain ⟨w0, w, sd, S, e, r, q⟩ := h
  refine ⟨w0, w, sd, S, e, r, fin_step q fun w1 S1 d v e1 s1 rv q1 => ?_⟩
  cases d with
  | str x =>
    obtain ⟨c, q2⟩ := FinG.ite q1
    exact .inl ⟨x, rv, by rw [← lim_eq]; exact c, fin_pure q2 s1 rfl⟩
  | int i =>
    obtain ⟨c, q2⟩ := FinG.ite q1
    exact .inr ⟨i, rv, of_decide_eq_true c, fin_pure q2 s1 rfl⟩
  | _ => exact q1.elim
inductive PJV (G : Sg) (X : Cx) (W : WX) : List Expr → List (List SV → M D) → Prop where
  | nil : PJV G X W [] []
  | cons {e : Expr} {f : List SV → M D} {es : List Expr} {fs : List (List SV → M D)} (h : PV G X W e f) (r : PJV G X W es fs) : PJV G X W (e :: es) (f :: fs)
def joinFs : List (List SV → M D) → Str → List SV → M D
  | [], acc, _ => M.pure (.str acc)
  | f :: fs, acc, sd => M.bind (f sd) fun d => M.bind (isStr d) fun y => if (acc ++ y).length ≤ lim then joinFs fs (acc ++ y) sd else M.stuck
theorem PJV.pj {es : List Expr} {fs : List (List SV → M D)} (h : PJV G X W es fs) : PJ X es (fs.map (teV G W)) := by
  induction h with
  | nil => exact .nil
  | cons h r ih => exact .cons h ih
theorem join_read : ∀ (fs : List (List SV → M D)) (acc : Str) (σ : L2.St) (H : Hp) (Q : VK), teV G W (joinFs fs acc) σ H Q → tJs (fs.map (teV G W)) acc σ H (fun out H1 => Q (.str out) H1)
  | [], acc, σ, H, Q, h => by
    obtain ⟨w0, w, sd, S, e, r, q⟩ := h
    subst e
    exact fin_pure (b := V.str acc) q r.st rfl
  | f :: fs, acc, σ, H, Q, h => by
    obtain ⟨w0, w, sd, S, e, r, q⟩ := h
    refine ⟨w0, w, sd, S, e, r, fin_step (f := f sd) q fun w1 S1 d v e1 s1 rv q1 => ?_⟩
    obtain ⟨y, ev, q2⟩ := isStr_bind q1 rv
    obtain ⟨c, q3⟩ := FinG.ite q2
    exact ⟨y, ev, by rw [← lim_eq]; exact c, join_read fs (acc ++ y) σ w1.H Q ⟨w0, w1, sd, S1, rfl, r.step e1 s1, q3⟩⟩
theorem v_joined {v1 v2 : Expr} {rest : List Expr} {fs : List (List SV → M D)} {pos : Pos} (h : PJV G X W (v1 :: v2 :: rest) fs) : PV G X W (.JoinedStr (v1 :: v2 :: rest) pos) (joinFs fs Str.empty) :=
  PE.imp (pe_joined h.pj) fun σ H Q q => join_read fs Str.empty σ H Q q
theorem v_joined1 {e : Expr} {f : List SV → M D} {pos : Pos} (h : PV G X W e f) : PV G X W (.JoinedStr [e] pos) f := pe_joined1 h
def subT (a b : TyN) : Bool := a = b || (a = .bool && b = .int)
theorem kitT {K : PySem.W.Frag} (a b : TyN) : PySem.W.kitOne K (.type a.name) (.type b.name) = some (subT a b) := by
  cases a <;> cases b <;> exact kit_ty (by decide +kernel)
structure ClsT (X : Cx) (G : Sg) (known : Nat → Bool) (sub : Nat → Nat → Option Bool) : Prop where
  cl : ∀ c, known c = true → Cls X.K (G.ca c) ∧ PySem.W.findIn X.K (.ref (G.ca c)) "__class__" = some (some (.builtin "object.__class__")) ∧ PySem.W.mroIn X.K (G.ca c) (.type "object") = some true
  hn : PySem.W.specialIn X.K (.builtin "object.__class__") "__get__" = some (some (.builtin "getset_descriptor.__get__"))
  ht : PySem.W.takesIn X.K (.builtin "object.__class__") = some true
  cc : ∀ c c' b, sub c c' = some b → PySem.W.kitOne X.K (.ref (G.ca c)) (.ref (G.ca c')) = some b
  ct : ∀ c t, known c = true → PySem.W.kitOne X.K (.ref (G.ca c)) (.type (TyN.name t)) = some false
  tc : ∀ t c, known c = true → PySem.W.kitOne X.K (.type (TyN.name t)) (.ref (G.ca c)) = some false
def tyOf (d : D) : M (Sum TyN Nat) := fun S => match d with
  | .non => some (.ok (.inl .none_), S)
  | .bl _ => some (.ok (.inl .bool), S)
  | .int _ => some (.ok (.inl .int), S)
  | .str _ => some (.ok (.inl .str), S)
  | .tup _ => some (.ok (.inl .tuple), S)
  | .lst _ => some (.ok (.inl .list), S)
  | .scr _ => some (.ok (.inl .list), S)
  | .dct _ _ => some (.ok (.inl .dict), S)
  | .ins c _ => some (.ok (.inr c), S)
  | .ref n => match S[n]? with
    | some (.lst _) => some (.ok (.inl .list), S)
    | some (.dct _ _) => some (.ok (.inl .dict), S)
    | some (.ins c _) => some (.ok (.inr c), S)
    | none => none
  | _ => none
def isaD (known : Nat → Bool) (sub : Nat → Nat → Option Bool) (t : Sum TyN Nat) : D → Option Bool
  | .ty b => match t with
    | .inl a => some (subT a b)
    | .inr c => if known c = true then some false else none
  | .cls c' => match t with
    | .inl _ => if known c' = true then some false else none
    | .inr c => if known c = true then sub c c' else none
  | _ => none
def dIsa (known : Nat → Bool) (sub : Nat → Nat → Option Bool) (d e : D) : M D := M.bind (tyOf d) fun t => match isaD known sub t e with
  | some b => M.pure (.bl b)
  | none => M.stuck
def tyV' (G : Sg) : Sum TyN Nat → Value
  | .inl t => .type t.name
  | .inr c => .ref (G.ca c)
theorem tyOf_rep {d : D} {v : V} {t : Sum TyN Nat} {S' : List Ob} {known : Nat → Bool} {sub : Nat → Nat → Option Bool} (cK : G.K = X.K) (T : ClsT X G known sub) (s : RepS G w S) (r : RepV G w d v) (h : tyOf d S = some (.ok t, S')) (hk : ∀ c, t = .inr c → known c = true) : S' = S ∧ TyX X.K w.H v (tyV' G t) := by
  have insX : ∀ {a dx : Addr} {fs : List (Str × V)} {c : Nat}, w.H a = some (.ins (G.ca c) dx fs) → known c = true → TyX X.K w.H (.ref a) (.ref (G.ca c)) := fun e hc => by
    obtain ⟨h1, h2, h3⟩ := T.cl _ hc
    exact .base (.ins e h1 h2 T.hn T.ht h3)
  unfold tyOf at h
  cases d with
  | non => cases h; cases (show v = .non from r); exact ⟨rfl, .base .non⟩
  | bl b => cases h; cases (show v = .bl b from r); exact ⟨rfl, .base (.bl b)⟩
  | int b => cases h; cases (show v = .int b from r); exact ⟨rfl, .base (.int b)⟩
  | str b => cases h; cases (show v = .str b from r); exact ⟨rfl, .base (.str b)⟩
  | tup ds =>
    cases h
    obtain ⟨a, vs, e, hh, rs⟩ := r
    subst e
    rcases hh with ⟨_, hh | ⟨o, hh⟩⟩ | ⟨o, its, n, h1, h2, _⟩
    · exact ⟨rfl, .base (.tup hh)⟩
    · exact ⟨rfl, .fTuple hh⟩
    · exact ⟨rfl, .kTuple (by rw [← cK]; exact h1) h2⟩
  | lst ds =>
    cases h
    obtain ⟨a, vs, e, f, hh, rs⟩ := r
    subst e
    exact ⟨rfl, .base (.lst hh)⟩
  | scr ds =>
    cases h
    obtain ⟨a, vs, e, hh, rs⟩ := r
    subst e
    rcases hh with ⟨_, hh | ⟨o, hh⟩⟩ | ⟨o, its, n, h1, h2, _⟩
    · exact ⟨rfl, .base (.lst hh)⟩
    · exact ⟨rfl, .base (.frz hh)⟩
    · exact ⟨rfl, .kList (by rw [← cK]; exact h1) h2⟩
  | dct ks ds =>
    cases h
    obtain ⟨a, vs, e, f, hh, _⟩ := r
    subst e
    exact ⟨rfl, .base (.dK hh)⟩
  | ins c ds =>
    cases h
    obtain ⟨a, dx, vs, e, f, hh, _⟩ := r
    subst e
    exact ⟨rfl, insX hh (hk c rfl)⟩
  | ref n =>
    obtain ⟨a, e, hm⟩ := r
    subst e
    rcases hn : S[n]? with _ | ⟨ds | ⟨ks, ds⟩ | ⟨c, ds⟩⟩
    · simp only [hn] at h; cases h
    · simp only [hn] at h
      cases h
      obtain ⟨vs, hh, _⟩ := s.ob n a _ hm hn
      exact ⟨rfl, .base (.lst hh)⟩
    · simp only [hn] at h
      cases h
      obtain ⟨vs, hh, _⟩ := s.ob n a _ hm hn
      exact ⟨rfl, .base (.dK hh)⟩
    · simp only [hn] at h
      cases h
      obtain ⟨dx, vs, hh, _⟩ := s.ob n a _ hm hn
      exact ⟨rfl, insX hh (hk c rfl)⟩
  | ty t => cases h
  | cls c => cases h
theorem tyOf_noerr {d : D} {S' : List Ob} {x : Exn} : tyOf d S ≠ some (.error x, S') := by
  intro h
  unfold tyOf at h
  cases d with
  | ref n => rcases hn : S[n]? with _ | ⟨ds | ⟨ks, ds⟩ | ⟨c, ds⟩⟩ <;> simp [hn] at h
  | _ => simp at h
theorem c_isa {known : Nat → Bool} {sub : Nat → Nat → Option Bool} (cK : G.K = X.K) (T : ClsT X G known sub) : CallR X (.builtin "isinstance") (rDs G (on2 (dIsa known sub))) := by
  refine CallR.imp call_isi fun vs H Q h => ?_
  obtain ⟨W, w, S, d, e, v, u, rfl, s, rfl, r, r', q⟩ := on2_of h
  unfold dIsa M.bind at q
  rcases ht : tyOf d S with _ | ⟨x | t, S2⟩
  · rw [ht] at q; exact q.elim
  · exact absurd ht tyOf_noerr
  · rw [ht] at q
    simp only at q
    rcases hi : isaD known sub t e with _ | b
    · simp only [hi] at q; exact q.elim
    · simp only [hi] at q
      have hk : ∀ c, t = .inr c → known c = true := fun c e2 => by
        subst e2
        unfold isaD at hi
        cases e with
        | ty b => by_cases hc : known c = true
                  · exact hc
                  · simp [hc] at hi
        | cls c' => by_cases hc : known c = true
                    · exact hc
                    · simp [hc] at hi
        | _ => simp at hi
      obtain ⟨rfl, ty⟩ := tyOf_rep cK T s r ht hk
      have kit : ∃ c, ClsV u c ∧ PySem.W.kitOne X.K (tyV' G t) c = some b := by
        unfold isaD at hi
        cases e with
        | ty y =>
          cases (show u = .ty y.name from r')
          refine ⟨.type y.name, .ty _, ?_⟩
          rcases t with a | c
          · simp only [Option.some.injEq] at hi
            subst hi
            exact kitT a y
          · have hc := hk c rfl
            simp only [hc, if_true, Option.some.injEq] at hi
            subst hi
            exact T.ct c y hc
        | cls c' =>
          cases (show u = .ref (G.ca c') from r')
          refine ⟨.ref (G.ca c'), .own _, ?_⟩
          rcases t with a | c
          · by_cases hc : known c' = true
            · simp only [hc, if_true, Option.some.injEq] at hi
              subst hi
              exact T.tc a c' hc
            · simp [hc] at hi
          · have hc := hk c rfl
            simp only [hc, if_true] at hi
            exact T.cc c c' b hi
        | _ => simp at hi
      obtain ⟨cc, h1, h2⟩ := kit
      exact ⟨v, u, tyV' G t, cc, b, rfl, h1, ty, h2, fin_pure q s rfl⟩
end
end Ev
set_option maxRecDepth 100000
set_option maxHeartbeats 2000000
namespace Ev
open PySem PySem.Spec PyProof.Rows L2
def FnS (P : Program) (w : World) (K : PySem.W.Frag) (mg : Str → Option Value) (base : Heap) (b : Bool) (k : Nat) (f : Addr) (sp : Sp) : Prop :=
  ∀ (A : Around) (fr : List Env) (s : Shared) (H : Hp) (us : List Value) (vs : List V) (Q : VK) (E : XK),
    Rm b k A → Env0 P w K mg base A fr s H → Vals vs us → sp vs H Q E → codeAny (model P w) A (.call (.ref f) ⟨us, []⟩) (CR (L2.CX P w) fr P w H s Q E) s
def finR : Option (Out × List Ob) → Option (Except Exn D × List Ob)
  | some (.next _, S) => some (.ok .non, S)
  | some (.ret d, S) => some (.ok d, S)
  | some (.err e _, S) => some (.error e, S)
  | _ => none
def slots (n : Nat) (sv : List SV) : List SV := sv ++ List.replicate (n - sv.length) .no
def runFn (m n : Nat) (ms : MS) : List D → M D := fun ds S => if ds.length = m then finR (ms (slots n (ds.map .val)) S) else none
def mkR (c : Nat) : Option (Out × List Ob) → Option (Except Exn D × List Ob)
  | some (.next sd, S) => match sd[0]? with
    | some (SV.own (Ob.ins c' es)) => if c' = c then some (.ok (.ins c es), S) else none
    | _ => none
  | some (.err e _, S) => some (.error e, S)
  | _ => none
def mkFn (c m n : Nat) (ms : MS) : List D → M D := fun ds S => if ds.length + 1 = m then mkR c (ms (slots n (.own (.ins c []) :: ds.map .val)) S) else none
def mkStar (c m n : Nat) (ms : MS) : List D → M D := fun ds => if m ≤ ds.length + 1 ∧ ds.length + 1 < m + lim then mkFn c (m + 1) n ms (ds.take (m - 1) ++ [.tup (ds.drop (m - 1))]) else M.stuck
section
variable {P : Program} {w : World} {K : PySem.W.Frag} {mg : Str → Option Value} {base : Heap} {G : Sg} {k : Nat} {f : Addr} {x qual : Str} {st : Stmt} {fd : FuncData} {N ps : List Str} {ms : MS}
abbrev XF (P : Program) (w : World) (K : PySem.W.Frag) (mg : Str → Option Value) (base : Heap) (N : List Str) (qual : Str) (st : Stmt) (f : Addr) (cdv : Value) (A : Around) (fr : List Env) (s : Shared) (H : Hp) (E : XK) : Cx :=
  cxOf (L2.CX P w) P w K mg base N qual (defScope st) f cdv A fr s H E
abbrev WF (E : XK) : WX := fun c d _ H => E c d H
def Body (P : Program) (w : World) (K : PySem.W.Frag) (mg : Str → Option Value) (base : Heap) (G : Sg) (k : Nat) (f : Addr) (N : List Str) (qual : Str) (st : Stmt) (ms : MS) : Prop :=
  ∀ (cdv : Value) (A : Around) (fr : List Env) (s : Shared) (H : Hp) (E : XK), Ctx G (XF P w K mg base N qual st f cdv A fr s H E) (WF E) k → PSsV G (XF P w K mg base N qual st f cdv A fr s H E) (WF E) (defBody st) ms
def spT (G : Sg) (N : List Str) (ms : MS) : Sp := fun vs H Q E => tsV G (WF E) ms { nx := fun _ H' => Q .non H', rt := Q } (start N vs) H
theorem ctxF (cK : G.K = K) (SC : FnScope N ps (defScope st)) {cdv : Value} {A : Around} {fr : List Env} {s : Shared} {H : Hp} {E : XK} (hr : Rm G.gd (k + 1) (A.deeper (envOfC qual (defScope st) s.heap.objs.size f cdv))) :
    Ctx G (XF P w K mg base N qual st f cdv A fr s H E) (WF E) k := ⟨cK, rfl, hr, SC.nd, fun σ => L2.passAt (L2.takes_of rfl rfl rfl rfl) σ, L2.passes_of rfl⟩
theorem fns_rule (F : Fun K x qual st f fd) (SC : FnScope N ps (defScope st)) (hb : Binds K fd ps []) (cK : G.K = K) (B : Body P w K mg base G k f N qual st ms) :
    FnS P w K mg base G.gd (k + 2) f (fun vs H Q E => vs.length = ps.length ∧ spT G N ms vs H Q E) := by
  obtain ⟨oc, od, kV, doc, pm, an, cdv, ct, osl, rfl, lk, hcd⟩ := F.ex
  have g := gn_of (sp := fun vs H Q E => vs.length = ps.length ∧ spT G N ms vs H Q E) (P := P) (w := w) (mg := mg) (base := base) (k := k + 1) lk hcd SC (fun _ _ _ _ z => z.1) (fun A fr s H vs Q E hr hsp => ⟨_, B cdv A fr s H E (ctxF cK SC hr), hsp.2⟩)
  intro A fr s H us vs Q E hr e0 r h
  have inK : K.In s.heap := e0.mod.kin.keeps fun b o e => (e0.bs b o e).1
  have b2 := hb s us inK (by rw [List.append_nil, ← r.length]; exact h.1)
  rw [List.append_nil] at b2
  exact g.run A fr s H ⟨us, []⟩ us vs Q E hr e0 b2 r h
theorem slots_val {n i : Nat} {ds : List D} {d : D} (h : (slots n (ds.map .val))[i]? = some (.val d)) : ds[i]? = some d := by
  unfold slots at h
  by_cases l : i < (ds.map SV.val).length
  · rw [List.getElem?_append_left l, List.getElem?_map] at h
    cases e : ds[i]? with
    | none => rw [e] at h; cases h
    | some y => rw [e] at h; cases h; rfl
  · rw [List.getElem?_append_right (Nat.le_of_not_lt l), List.getElem?_replicate] at h
    split at h <;> cases h
theorem slots_own {n i : Nat} {ds : List D} {o : Ob} (h : (slots n (ds.map .val))[i]? = some (.own o)) : False := by
  unfold slots at h
  by_cases l : i < (ds.map SV.val).length
  · rw [List.getElem?_append_left l, List.getElem?_map] at h
    cases e : ds[i]? with
    | none => rw [e] at h; cases h
    | some y => rw [e] at h; cases h
  · rw [List.getElem?_append_right (Nat.le_of_not_lt l), List.getElem?_replicate] at h
    split at h <;> cases h
theorem start_get {vs : List V} {i : Nat} {v : V} (h : vs[i]? = some v) : (start N vs)[i]? = some (some v) := by
  unfold L2.start
  have l : i < vs.length := (List.getElem?_eq_some_iff.mp h).1
  rw [List.getElem?_append_left (by simpa using l), List.getElem?_map, h]
  rfl
theorem start_len {vs : List V} (h : vs.length ≤ N.length) : (start N vs).length = N.length := by
  unfold L2.start
  rw [List.length_append, List.length_map, List.length_replicate]
  omega
theorem slots_len {n : Nat} {sv : List SV} (h : sv.length ≤ n) : (slots n sv).length = n := by
  unfold slots
  rw [List.length_append, List.length_replicate]
  omega
theorem R.enter {wd : Wd} {ds : List D} {vs : List V} {S : List Ob} (s : RepS G wd S) (r : RepVs G wd ds vs) (h : ds.length ≤ N.length) : R G wd wd (slots N.length (ds.map .val)) S (start N vs) := by
  refine ⟨Ext.refl wd, s, ?_, fun i d e => ?_, fun i o e => (slots_own e).elim, fun i j o o' a e => (slots_own e).elim, fun a o _ e => (slots_own e).elim⟩
  · rw [start_len (by rw [← r.length]; exact h), slots_len (by simpa using h)]
  · obtain ⟨v, h1, h2⟩ := r.get (slots_val e)
    exact ⟨v, start_get h1, h2⟩
theorem fin_body {wd : Wd} {ds : List D} {vs : List V} {S : List Ob} {H : Hp} {Q : VK} {E : XK} (eH : wd.H = H) (s : RepS G wd S) (r : RepVs G wd ds vs) (h : ds.length ≤ N.length) (q : FinG G (RepV G) E wd Q (finR (ms (slots N.length (ds.map .val)) S))) : spT G N ms vs H Q E := by
  refine ⟨wd, wd, _, S, eH, R.enter s r h, ?_⟩
  rcases hm : ms (slots N.length (ds.map .val)) S with _ | ⟨_ | _ | _ | _ | _, S1⟩
  · rw [hm] at q; exact q
  · rw [hm] at q
    exact fun w' σ' _ r' => q w' .non r'.ex r'.st rfl
  · rw [hm] at q
    exact fun w' v e s' rv => q w' v e s' rv
  · rw [hm] at q; exact q.elim
  · rw [hm] at q; exact q.elim
  · rw [hm] at q
    exact fun w' σ' cls y _ r' rx => q w' cls y r'.ex r'.st rx
theorem fna_rule (F : Fun K x qual st f fd) (SC : FnScope N ps (defScope st)) (hb : Binds K fd ps []) (cK : G.K = K) (B : Body P w K mg base G k f N qual st ms) {m n : Nat} (em : ps.length = m) (en : N.length = n) (hmn : m ≤ n) :
    FnA P w K mg base G (k + 2) f (runFn m n ms) := by
  have z := fns_rule (P := P) (w := w) (mg := mg) (base := base) F SC hb cK B
  refine ⟨fun A fr s H us vs Q E hr e0 r ⟨wd, ds, S, eH, rs, rv, q⟩ => z A fr s H us vs Q E hr e0 r ?_, F.kp⟩
  unfold runFn at q
  split at q
  · next e =>
    subst em en
    exact ⟨by rw [← rv.length]; exact e, fin_body eH rs rv (by omega) q⟩
  · exact q.elim
theorem fns_starred {pv : Str} (F : Fun K x qual st f fd) (SC : FnScope N (ps ++ [pv]) (defScope st)) (cK : G.K = K) (B : Body P w K mg base G k f N qual st ms)
    (hb : ∀ (kV doc pm : Value) (an : Option Addr) (cdv ct : Value) (us rest : List Value), us.length = ps.length → bindArgs (PySem.W.fnOf x qual (defArgs st) (defBody st) (defScope st) .none kV doc pm an cdv ct) ⟨us ++ rest, []⟩ = (newTuple rest >>= fun t => pure (ps.zip us ++ [(pv, t)]))) :
    FnS P w K mg base G.gd (k + 2) f (fun vs H Q E => ∃ ws more, vs = ws ++ more ∧ ws.length = ps.length ∧ more.length ≤ sizeLine ∧ ∀ p, H p = none → spT G N ms (ws ++ [V.ref p]) (upd H p (.tup more)) Q E) := by
  obtain ⟨oc, od, kV, doc, pm, an, cdv, ct, osl, rfl, lk, hcd⟩ := F.ex
  rintro A fr s H us vs Q E hr e0 r ⟨ws, more, rfl, lw, lm, q⟩
  obtain ⟨u1, u2, rfl, r1, r2⟩ := StX.vals_split r
  have free : H s.heap.objs.size = none := e0.hok.fresh (Nat.le_refl _)
  refine StX.run_bnd (CX := L2.CX P w) (k := k + 1) lk hcd SC hr.room e0 (G := fun xs H2 => ∃ p, H p = none ∧ xs = ws ++ [V.ref p] ∧ H2 = upd H p (.tup more)) ?_ ?_
  · intro A' Ex Q' h
    have l1 : u1.length = ps.length := r1.length.symm.trans lw
    have l2 : u2.length ≤ sizeLine := r2.length ▸ lm
    rw [hb _ _ _ _ _ _ u1 u2 l1]
    refine wpAny_bind (wpAny_newTuple (wpAny_pure ?_) l2)
    have made : ObjOk P w (upd H s.heap.objs.size (.tup more)) (s.heap.push { cls := .type "tuple", data := .seq u2.toArray }) s.heap.objs.size (.tup more) := ⟨lm, u2, r2, _, Heap.get?_push_size _ rfl, rfl, _, rfl⟩
    have keep := StX.un_laid (fs := frs fr) (o := ({ cls := .type "tuple", data := .seq u2.toArray } : Obj)) (u := .tup more) free
    have got := h _ _ (ws ++ [V.ref s.heap.objs.size]) (u1 ++ [Value.ref s.heap.objs.size]) (StX.env0_laid e0 made) keep rfl (fun e s' => StX.cxUp fr s H _ _ E e s' keep (fun b o y => Heap.get?_push_of_some _ y) rfl)
      (r1.append (.cons rfl .nil)) (by simp [lw]) ⟨_, free, rfl, rfl⟩
    rwa [List.zip_append l1.symm] at got
  · rintro s2 H2 xs ⟨p, hp, rfl, rfl⟩ hr2
    exact ⟨_, B cdv A fr s2 _ E (ctxF cK SC ⟨hr2, hr.gd⟩), q p hp⟩
theorem rep_tail {wd : Wd} : ∀ (m : Nat) {ds : List D} {vs : List V}, RepVs G wd ds vs → m ≤ ds.length → ∃ a b, vs = a ++ b ∧ a.length = m ∧ RepVs G wd (ds.take m) a ∧ RepVs G wd (ds.drop m) b := fun m ds vs r h =>
  ⟨vs.take m, vs.drop m, (List.take_append_drop m vs).symm, by rw [List.length_take, ← r.length]; omega, r.take m, r.drop m⟩
end
end Ev
set_option maxRecDepth 100000
set_option maxHeartbeats 2000000
namespace Ev
open PySem PySem.Spec PyProof.Rows L2
def spN (G : Sg) (c : Nat) (sem : List D → M D) : Sp := fun vs' H' Q' E => ∃ (x dx : Addr) (vs : List V) (H : Hp) (Q : VK), vs' = V.ref x :: vs ∧ H' = upd (upd H dx (.own x)) x (.ins (G.ca c) dx []) ∧ H x = none ∧ H dx = none ∧ dx ≠ x ∧
  (Q' = fun v H2 => v = V.non ∧ Q (.ref x) H2) ∧ spV G sem vs H Q E
structure ClA (P : Program) (w : World) (K : PySem.W.Frag) (mg : Str → Option Value) (base : Heap) (G : Sg) (k c : Nat) (sem : List D → M D) : Prop where
  ex : ∃ f, Mk K (G.ca c) f ∧ FnS P w K mg base G.gd k f (spN G c sem)
theorem ClA.mono {P : Program} {w : World} {K : PySem.W.Frag} {mg : Str → Option Value} {base : Heap} {G : Sg} {j k c : Nat} {sem : List D → M D} (F : ClA P w K mg base G j c sem) (h : j ≤ k) : ClA P w K mg base G k c sem :=
  ⟨let ⟨f, M, g⟩ := F.ex; ⟨f, M, fun A fr s H us vs Q E hr => g A fr s H us vs Q E (hr.mono h)⟩⟩
section
variable {P : Program} {w : World} {K : PySem.W.Frag} {mg : Str → Option Value} {base : Heap} {G : Sg} {k c : Nat} {f : Addr} {x qual : Str} {st : Stmt} {fd : FuncData} {N ps : List Str} {ms : MS}
theorem R.enterI {wd w1 : Wd} {ds : List D} {vs : List V} {S : List Ob} {a dx : Addr} (e : Ext wd w1) (s : RepS G w1 S) (r : RepVs G w1 ds vs) (h : ds.length + 1 ≤ N.length) (ha : w1.H a = some (.ins (G.ca c) dx [])) (nF : ¬ w1.F a) (nm : a ∉ w1.m) (n0 : wd.H a = none) :
    R G { wd with x := some a } w1 (slots N.length (.own (.ins c []) :: ds.map .val)) S (L2.start N (V.ref a :: vs)) := by
  have hd : ∀ {i : Nat} {y : SV}, (slots N.length (SV.own (.ins c []) :: ds.map .val))[i]? = some y → (i = 0 ∧ y = .own (.ins c [])) ∨ (∃ j, i = j + 1 ∧ (slots (N.length - 1) (ds.map SV.val))[j]? = some y) := fun {i y} z => by
    cases i with
    | zero =>
      refine .inl ⟨rfl, ?_⟩
      unfold slots at z
      simp at z
      exact z.symm
    | succ j =>
      refine .inr ⟨j, rfl, ?_⟩
      unfold slots at z ⊢
      have e1 : N.length - (SV.own (Ob.ins c []) :: ds.map SV.val).length = N.length - 1 - (ds.map SV.val).length := by
        rw [List.length_cons]
        omega
      rw [e1, List.cons_append, List.getElem?_cons_succ] at z
      exact z
  have s0 : (L2.start N (V.ref a :: vs))[0]? = some (some (V.ref a)) := start_get rfl
  refine ⟨⟨e.m, e.F, e.H, e.nm, e.nF, e.al⟩, s, ?_, fun i d z => ?_, fun i o z => ?_, fun i j o o' b z1 z2 _ _ => ?_, fun b o eb z => ?_⟩
  · have l : vs.length = ds.length := r.length.symm
    rw [start_len (by rw [List.length_cons, l]; exact h), slots_len (by rw [List.length_cons, List.length_map]; exact h)]
  · rcases hd z with ⟨_, e2⟩ | ⟨j, rfl, z2⟩
    · cases e2
    · obtain ⟨v, h1, h2⟩ := r.get (slots_val z2)
      exact ⟨v, start_get (by rw [List.getElem?_cons_succ]; exact h1), h2⟩
  · rcases hd z with ⟨rfl, e2⟩ | ⟨j, rfl, z2⟩
    · cases e2
      exact ⟨a, s0, ⟨dx, [], by rw [List.zip_nil_right]; exact ha, Nat.zero_le _, rfl⟩, nF, nm, n0⟩
    · exact (slots_own z2).elim
  · rcases hd z1 with ⟨e1, _⟩ | ⟨j1, _, z1⟩
    · rcases hd z2 with ⟨e2, _⟩ | ⟨j2, _, z2⟩
      · rw [e1, e2]
      · exact (slots_own z2).elim
    · exact (slots_own z1).elim
  · cases eb
    exact s0
theorem fin_mk {wd w1 : Wd} {ds : List D} {vs : List V} {S : List Ob} {a dx : Addr} {Q : VK} {E : XK} (e : Ext wd w1) (s : RepS G w1 S) (r : RepVs G w1 ds vs) (h : ds.length + 1 ≤ N.length) (ha : w1.H a = some (.ins (G.ca c) dx [])) (nF : ¬ w1.F a) (nm : a ∉ w1.m) (n0 : wd.H a = none)
    (q : FinG G (RepV G) E wd Q (mkR c (ms (slots N.length (.own (.ins c []) :: ds.map .val)) S))) : spT G N ms (V.ref a :: vs) w1.H (fun v H2 => v = .non ∧ Q (.ref a) H2) E := by
  refine ⟨{ wd with x := some a }, w1, _, S, rfl, R.enterI e s r h ha nF nm n0, ?_⟩
  rcases hm : ms (slots N.length (.own (.ins c []) :: ds.map .val)) S with _ | ⟨sd | _ | _ | _ | _, S1⟩
  · rw [hm] at q; exact q
  · rw [hm] at q
    intro w' σ' _ r'
    have ex : Ext wd w' := ⟨r'.ex.m, r'.ex.F, r'.ex.H, r'.ex.nm, r'.ex.nF, r'.ex.al⟩
    unfold mkR at q
    simp only at q
    rcases hs : sd[0]? with _ | _ | _ | ⟨_ | _ | ⟨c', es⟩⟩
    · rw [hs] at q; exact q.elim
    · rw [hs] at q; exact q.elim
    · rw [hs] at q; exact q.elim
    · rw [hs] at q; exact q.elim
    · rw [hs] at q; exact q.elim
    · rw [hs] at q
      simp only at q
      split at q
      · next ec =>
        subst ec
        obtain ⟨b, hb, ho, bF, bm, b0⟩ := r'.ow 0 _ hs
        have hb2 := r'.sf a _ rfl hs
        rw [hb] at hb2
        cases hb2
        obtain ⟨dx', vs', h1, h2, h3⟩ := id ho
        refine ⟨rfl, q (w'.fz a) (.ref a) (Ext.fz ex n0) (r'.st.fz bm ho.there) ⟨a, dx', vs', rfl, .inr rfl, h1, h2, RepVs.stay Stay.fz _ _ h3⟩⟩
      · exact q.elim
  · rw [hm] at q; exact q.elim
  · rw [hm] at q; exact q.elim
  · rw [hm] at q; exact q.elim
  · rw [hm] at q
    exact fun w' σ' cls y _ r' rx => q w' cls y ⟨r'.ex.m, r'.ex.F, r'.ex.H, r'.ex.nm, r'.ex.nF, r'.ex.al⟩ r'.st rx
theorem made {wd : Wd} {S : List Ob} {a dx C : Addr} (s : RepS G wd S) (ha : wd.H a = none) (hdx : wd.H dx = none) (ne : dx ≠ a) :
    ∃ w1 : Wd, w1.H = upd (upd wd.H dx (.own a)) a (.ins C dx []) ∧ Ext wd w1 ∧ RepS G w1 S ∧ ¬ w1.F a ∧ a ∉ w1.m := by
  have ha2 : (wd.new dx (.own a)).H a = none := by
    show upd wd.H dx _ a = none
    rw [upd_ne (fun e => ne e.symm)]
    exact ha
  exact ⟨(wd.new dx (.own a)).new a (.ins C dx []), rfl, (Ext.new hdx).trans (Ext.new ha2), (s.new hdx).new ha2, fun z => s.fh a z ha, fun z => s.there z ha⟩
theorem cla_star {pv : Str} (F : Fun K x qual st f fd) (SC : FnScope N (ps ++ [pv]) (defScope st)) (cK : G.K = K) (B : Body P w K mg base G k f N qual st ms)
    (hb : ∀ (kV doc pm : Value) (an : Option Addr) (cdv ct : Value) (us rest : List Value), us.length = ps.length → bindArgs (PySem.W.fnOf x qual (defArgs st) (defBody st) (defScope st) .none kV doc pm an cdv ct) ⟨us ++ rest, []⟩ = (newTuple rest >>= fun t => pure (ps.zip us ++ [(pv, t)])))
    (M : Mk K (G.ca c) f) {m n : Nat} (em : ps.length = m) (en : N.length = n) (hmn : m + 1 ≤ n) (hm1 : 1 ≤ m) : ClA P w K mg base G (k + 2) c (mkStar c m n ms) := by
  have z := fns_starred (P := P) (w := w) (mg := mg) (base := base) F SC cK B hb
  refine ⟨f, M, fun A fr s H us vs Q E hr e0 r h => z A fr s H us vs Q E hr e0 r ?_⟩
  obtain ⟨a, dx, vs, H, Q, rfl, rfl, ha, hdx, ne, rfl, wd, ds, S, eH, rs, rv, q⟩ := h
  subst eH
  unfold mkStar at q
  obtain ⟨hl, q⟩ := FinG.ite q
  obtain ⟨v1, v2, e, l1, r1, r2⟩ := rep_tail (m - 1) rv (by omega)
  subst e
  have l2 : v2.length < lim := by
    rw [← r2.length, List.length_drop]
    omega
  obtain ⟨w1, e1, ex, s1, nF, nm⟩ := made (C := G.ca c) rs ha hdx ne
  refine ⟨V.ref a :: v1, v2, rfl, by rw [List.length_cons, em, l1]; omega, by rw [lim_eq] at l2; exact Nat.le_of_lt l2, fun p hp => ?_⟩
  subst en
  rw [← e1] at hp ⊢
  have ez : Ext w1 (w1.frz p (.tup v2)) := Ext.frz hp
  have st2 := (ex.trans ez).stay rs.dj
  have nap : a ≠ p := fun z => by
    rw [← z, e1, upd_same] at hp
    cases hp
  have ll : (ds.take (m - 1) ++ [D.tup (ds.drop (m - 1))]).length + 1 = m + 1 := by simp; omega
  unfold mkFn at q
  rw [if_pos ll] at q
  have rr : RepVs G (w1.frz p (.tup v2)) (ds.take (m - 1) ++ [D.tup (ds.drop (m - 1))]) (v1 ++ [V.ref p]) := RepVs.append (RepVs.stay st2 _ _ r1) (RepVs.one ⟨p, v2, rfl, .inl ⟨.inr rfl, .inl upd_same⟩, RepVs.stay st2 _ _ r2⟩)
  refine fin_mk (ex.trans ez) (s1.frz hp) rr (by rw [ll]; exact hmn) (a := a) (dx := dx) ?_ (fun z => z.elim nF nap) nm ha q
  show upd w1.H p _ a = _
  rw [upd_ne nap, e1, upd_same]
end
section
variable {G : Sg} {X : Cx} {W : WX} {k n c : Nat} {f C : Addr} {sem : List D → M D} {sp : Sp} {x : Str} {p pos apos : Pos} {e o : Expr} {es : List Expr} {fa : List SV → M (List D)} {σ : L2.St}
theorem run_mk {pins : List (Addr × Obj)} {H : Hp} {s : Shared} {Q : VK} {us : List Value} {vs : List V} (cx : Ctx G X W k) (M : Mk X.K C f) (F : FnS X.prog X.w X.K X.mg X.base G.gd k f sp) (I : Inv X pins σ H s) (r : Vals vs us)
    (h : ∀ a dx, H a = none → H dx = none → dx ≠ a → sp (V.ref a :: vs) (upd (upd H dx (.own a)) a (.ins C dx [])) (fun v H2 => v = .non ∧ Q (.ref a) H2) (WE W σ)) :
    wpAny (model X.prog X.w) X.A (call (.ref C) us) (EP X pins σ Q) X.xe s := by
  have want := h _ _ (I.hok.fresh (Nat.le_succ _)) (I.hok.fresh (Nat.le_refl _)) (Nat.ne_of_lt (Nat.lt_succ_self s.heap.objs.size))
  have J := Inv.made (C := C) I
  have body := F _ X.stack _ _ (Value.ref (s.heap.objs.size + 1) :: us) (V.ref (s.heap.objs.size + 1) :: vs) _ _ (cx.rm.make C us []) (J.env0.make C us []) (.cons rfl r) want
  refine wpAny_call (make_map (f := f) I.kIn M.makes M.init (beq_iff_eq.mp M.fn) (codeAny_mono body ?_))
  rintro (er | fl) s' got
  · exact cx.px σ pins _ _ er s' J got
  · cases fl with
    | ret u =>
      obtain ⟨v, H', J2, rv, rfl, q3⟩ := J.after got
      exact ⟨rv, V.ref (s.heap.objs.size + 1), H', J2, rfl, q3⟩
    | next => exact got.elim
    | brk => exact got.elim
    | cont => exact got.elim
structure CallA (G : Sg) (X : Cx) (W : WX) (a : Addr) (sem : List D → M D) : Prop where
  kp : PySem.W.keepIn X.K (.ref a) = true
  run : ∀ (pins : List (Addr × Obj)) (σ : L2.St) (H : Hp) (s : Shared) (Q : VK) (us : List Value) (vs : List V), Inv X pins σ H s → Vals vs us → spV G sem vs H Q (WE W σ) → wpAny (model X.prog X.w) X.A (call (.ref a) us) (EP X pins σ Q) X.xe s
theorem FnA.call (c : Ctx G X W k) (F : FnX X G k f sem) : CallA G X W f sem := ⟨F.kp, fun _ _ _ _ _ _ _ I r h => run_fa c F I r h⟩
theorem ClA.call {c : Nat} (cx : Ctx G X W k) (F : ClA X.prog X.w X.K X.mg X.base G k c sem) : CallA G X W (G.ca c) sem := by
  obtain ⟨f, M, g⟩ := F.ex
  exact ⟨M.kp, fun pins σ H s Q us vs I r h => run_mk cx M g I r fun a dx ha hdx ne => ⟨a, dx, vs, H, Q, rfl, rfl, ha, hdx, ne, rfl, h⟩⟩
theorem v_calls (F : CallA G X W f sem) (hg : Gl X x) (hm : X.mg x = some (.ref f)) (ha : PLn G X W n (e :: es) fa) (hs : (e :: es).all notStar = true) (hd : (x == ("__debug__" : Str)) = false) :
    PV G X W (.Call (.Name x p) (e :: es) [] pos) (fun sd => M.bind (fa sd) sem) := by
  have hs2 : notStar e = true ∧ es.all notStar = true := by simpa using hs
  constructor
  intro pins s σ H Q I ⟨w0, w, sd, S, eH, r, q⟩
  refine wpAny_Call_Name_kw (ld_glob I hg hm ?_ hd)
  refine PySem.W.callWith_K (h₀ := X.base) I.ok.mod.kin F.kp (thn (ha.run pos pins s σ H (fun vs H1 => spV G sem vs H1 Q (WE W σ)) I ?_) ?_) (starEach_cons hs2.1) (starEach_all hs2.2 pos)
  · exact ⟨w0, w, sd, S, eH, r, fin_step q fun w1 S1 ds vs e1 s1 rv q1 => ⟨w1, ds, S1, rfl, s1, rv.1, q1⟩⟩
  · rintro us s1 ⟨vs, H1, I1, rv, q1⟩
    exact ⟨I1.kIn, F.run _ _ _ _ _ _ _ I1 rv q1⟩
theorem v_calls0 (F : CallA G X W f sem) (hg : Gl X x) (hm : X.mg x = some (.ref f)) (hd : (x == ("__debug__" : Str)) = false) : PV G X W (.Call (.Name x p) [] [] pos) (fun _ => sem []) := by
  constructor
  intro pins s σ H Q I ⟨w0, w, sd, S, eH, r, q⟩
  refine wpAny_Call_Name_kw (ld_glob I hg hm ?_ hd)
  exact PySem.W.callWith_K0 I.kIn F.kp (F.run pins σ H s Q [] [] I .nil ⟨w, [], S, eH, r.st, rfl, q⟩)
end
end Ev
set_option maxRecDepth 100000
set_option maxHeartbeats 2000000
namespace Ev
open PySem PySem.Spec PyProof.Rows L2
section
variable {G : Sg} {X : Cx} {W : WX} {k n : Nat} {f C : Addr} {sem : List D → M D} {x m : Str} {p pos apos : Pos} {e o fe : Expr} {es : List Expr} {fa : List SV → M (List D)} {ff : List SV → M D} {σ : L2.St}
def isObj : D → Bool
  | .ins _ _ => true
  | .ref _ => true
  | _ => false
theorem clsOf_fin {α β : Type} {rep : Wd → α → β → Prop} {W' : Value → Option Addr → Hp → Prop} {w : Wd} {Q : β → Hp → Prop} {S : List Ob} {d : D} {kk : Nat → M α} {v : V} (s : RepS G w S) (rd : RepV G w d v) (h : FinG G rep W' w Q (M.bind (clsOf d) kk S)) :
    ∃ c, FinG G rep W' w Q (kk c S) ∧ clsOf d S = some (.ok c, S) ∧ ∃ a dx vs, v = .ref a ∧ w.H a = some (.ins (G.ca c) dx ((G.fn c).zip vs)) := by
  unfold M.bind at h
  rcases hc : clsOf d S with _ | ⟨y | c, S2⟩
  · rw [hc] at h; exact h.elim
  · exact absurd hc clsOf_noerr
  · obtain ⟨rfl, z⟩ := clsOf_rep s rd hc
    rw [hc] at h
    exact ⟨c, h, rfl, z⟩
end
end Ev
set_option maxRecDepth 100000
set_option maxHeartbeats 2000000
namespace Ev
open PySem PySem.Spec PyProof.Rows L2
def stepLo (n : Nat) (c : Int) : Int := if c < 0 then (n : Int) - 1 else 0
def stepNo (n : Nat) (c : Int) : Nat := Builtin.Slice.slicePlaces (stepLo n c) (if c < 0 then -1 else (n : Int)) c
def stepL {α : Type} (c : Int) (xs : List α) : List α := (List.range (stepNo xs.length c)).filterMap fun (m : Nat) => xs[(stepLo xs.length c + (m : Int) * c).toNat]?
theorem vals_pick {xs : List V} {us : List Value} (r : Vals xs us) (ix : Nat → Nat) : ∀ l : List Nat, Vals (l.filterMap fun m => xs[ix m]?) (l.filterMap fun m => us[ix m]?)
  | [] => .nil
  | m :: l => by
    have ih := vals_pick r ix l
    rcases h : xs[ix m]? with _ | x
    · have hu : us[ix m]? = none := by
        rw [List.getElem?_eq_none_iff] at h ⊢
        rw [← r.length]
        exact h
      rw [List.filterMap_cons_none (by simpa using h), List.filterMap_cons_none (by simpa using hu)]
      exact ih
    · obtain ⟨u, hu, ru⟩ := r.get h
      rw [List.filterMap_cons_some (b := x) (by simpa using h), List.filterMap_cons_some (b := u) (by simpa using hu)]
      exact .cons ru ih
theorem reps_pick {G : Sg} {w : Wd} {ds : List D} {vs : List V} (r : RepVs G w ds vs) (ix : Nat → Nat) : ∀ l : List Nat, RepVs G w (l.filterMap fun m => ds[ix m]?) (l.filterMap fun m => vs[ix m]?)
  | [] => rfl
  | m :: l => by
    have ih := reps_pick r ix l
    rcases h : ds[ix m]? with _ | x
    · have hu : vs[ix m]? = none := by
        rw [List.getElem?_eq_none_iff] at h ⊢
        rw [← r.length]
        exact h
      rw [List.filterMap_cons_none (by simpa using h), List.filterMap_cons_none (by simpa using hu)]
      exact ih
    · obtain ⟨u, hu, ru⟩ := r.get h
      rw [List.filterMap_cons_some (b := x) (by simpa using h), List.filterMap_cons_some (b := u) (by simpa using hu)]
      exact ⟨u, _, rfl, ru, ih⟩
section
variable {G : Sg} {X : Cx} {W : WX} {k n : Nat} {pos : Pos} {e o fe : Expr} {es : List Expr} {σ : L2.St}
def dStep (c : Int) : D → M D
  | .tup ds => M.pure (.tup (stepL c ds))
  | _ => M.stuck
end
end Ev
set_option maxRecDepth 100000
set_option maxHeartbeats 2000000
namespace Ev
open PySem PySem.Spec PyProof.Rows L2
def perm {α : Type} (ix : List Nat) (l : List α) : List α := ix.filterMap (l[·]?)
theorem vals_perm {xs : List V} {us : List Value} (r : Vals xs us) (ix : List Nat) : Vals (perm ix xs) (perm ix us) := vals_pick r id ix
theorem reps_perm {G : Sg} {w : Wd} {ds : List D} {vs : List V} (r : RepVs G w ds vs) (ix : List Nat) : RepVs G w (perm ix ds) (perm ix vs) := reps_pick r id ix
structure FnK (P : Program) (w : World) (K : PySem.W.Frag) (mg : Str → Option Value) (base : Heap) (G : Sg) (k : Nat) (f : Addr) (m : Nat) (ks : List Str) (sem : List D → M D) : Prop where
  run : ∀ (A : Around) (fr : List Env) (s : Shared) (H : Hp) (us ws : List Value) (vs zs : List V) (Q : VK) (E : XK),
    Rm G.gd k A → Env0 P w K mg base A fr s H → Vals vs us → Vals zs ws → vs.length = m → zs.length = ks.length → spV G sem (vs ++ zs) H Q E → codeAny (model P w) A (.call (.ref f) ⟨us, ks.zip ws⟩) (CR (L2.CX P w) fr P w H s Q E) s
  kp : PySem.W.keepIn K (.ref f) = true
abbrev FnKX (X : Cx) (G : Sg) (k : Nat) (f : Addr) (m : Nat) (ks : List Str) (sem : List D → M D) : Prop := FnK X.prog X.w X.K X.mg X.base G k f m ks sem
theorem FnK.mono {P : Program} {w : World} {K : PySem.W.Frag} {mg : Str → Option Value} {base : Heap} {G : Sg} {j k m : Nat} {ks : List Str} {f : Addr} {sem : List D → M D} (F : FnK P w K mg base G j f m ks sem) (h : j ≤ k) : FnK P w K mg base G k f m ks sem :=
  ⟨fun A fr s H us ws vs zs Q E hr => F.run A fr s H us ws vs zs Q E (hr.mono h), F.kp⟩
section
variable {P : Program} {w : World} {K : PySem.W.Frag} {mg : Str → Option Value} {base : Heap} {G : Sg} {k m c : Nat} {f : Addr} {x qual : Str} {st : Stmt} {fd : FuncData} {N ps ks : List Str} {ms : MS} {ix : List Nat}
def KwBinds (st : Stmt) (x qual : Str) (ps ks : List Str) (m : Nat) (ix : List Nat) : Prop := ∀ (kV doc pm : Value) (an : Option Addr) (cdv ct : Value) (us ws : List Value), us.length = m → ws.length = ks.length →
  bindArgs (PySem.W.fnOf x qual (defArgs st) (defBody st) (defScope st) .none kV doc pm an cdv ct) ⟨us, ks.zip ws⟩ = pure (ps.zip (perm ix (us ++ ws)))
end
section
variable {G : Sg} {X : Cx} {W : WX} {k n m j : Nat} {f C : Addr} {sem : List D → M D} {x y mm : Str} {p pos apos kpos : Pos} {e o fe : Expr} {es : List Expr} {kws : List Keyword} {ks : List Str} {fa fk : List SV → M (List D)} {ff g : List SV → M D} {σ : L2.St}
abbrev PKn (G : Sg) (X : Cx) (W : WX) (n : Nat) (es : List Keyword) (f : List SV → M (List D)) : Prop := PK X es (teG G (repL G n) W f)
theorem PK.imp {e : List Keyword} {t t' : TA} (h : PK X e t) (i : ∀ σ H Q, t' σ H Q → t σ H Q) : PK X e t' := ⟨fun ps p s σ H Q I q => h.run ps p s σ H Q I (i σ H Q q)⟩
theorem k_nil : PKn G X W 0 [] (fun _ => M.pure []) := by
  refine PK.imp pk_nil fun σ H Q h => ?_
  obtain ⟨w0, w, sd, S, e, r, q⟩ := h
  subst e
  exact fin_pure q r.st ⟨rfl, rfl⟩
theorem k_cons {nm : Option Str} (he : PV G X W e g) (hr : PKn G X W n kws fk) : PKn G X W (n + 1) (⟨nm, e, kpos⟩ :: kws) (fun sd => M.bind (g sd) fun d => M.bind (fk sd) fun ds => M.pure (d :: ds)) := by
  refine PK.imp (pk_cons he hr) fun σ H Q h => ?_
  obtain ⟨w0, w, sd, S, e, r, q⟩ := h
  refine ⟨w0, w, sd, S, e, r, fin_step q fun w1 S1 d v e1 s1 rv q1 => ⟨w0, w1, sd, S1, rfl, r.step e1 s1, fin_step q1 fun w2 S2 ds vs e2 s2 rvs q2 => ?_⟩⟩
  exact fin_pure q2 s2 ⟨⟨v, vs, rfl, RepV.mono e2 s1.dj d v rv, rvs.1⟩, by rw [List.length_cons, rvs.2]⟩
structure CallK (G : Sg) (X : Cx) (W : WX) (a : Addr) (m : Nat) (ks : List Str) (sem : List D → M D) : Prop where
  kp : PySem.W.keepIn X.K (.ref a) = true
  run : ∀ (pins : List (Addr × Obj)) (σ : L2.St) (H : Hp) (s : Shared) (Q : VK) (us ws : List Value) (vs zs : List V), Inv X pins σ H s → Vals vs us → Vals zs ws → vs.length = m → zs.length = ks.length → spV G sem (vs ++ zs) H Q (WE W σ) →
    wpAny (model X.prog X.w) X.A (call (.ref a) us (ks.zip ws)) (EP X pins σ Q) X.xe s
theorem after_call {pins : List (Addr × Obj)} {H : Hp} {s : Shared} {Q : VK} {a : Args} (c : Ctx G X W k) (I : Inv X pins σ H s) (h : codeAny (model X.prog X.w) X.A (.call (.ref f) a) (CR (L2.CX X.prog X.w) X.stack X.prog X.w H s Q (WE W σ)) s) :
    wpAny (model X.prog X.w) X.A (call (.ref f) a.pos a.kw) (EP X pins σ Q) X.xe s := by
  refine wpAny_call (codeAny_mono h ?_)
  rintro (er | fl) s' hq
  · exact c.px σ pins H s er s' I hq
  · cases fl with
    | ret u => exact I.after hq
    | next => exact hq.elim
    | brk => exact hq.elim
    | cont => exact hq.elim
theorem FnK.call (c : Ctx G X W k) (F : FnKX X G k f m ks sem) : CallK G X W f m ks sem :=
  ⟨F.kp, fun pins σ H s Q us ws vs zs I r r2 l1 l2 h => after_call (a := ⟨us, ks.zip ws⟩) c I (F.run X.A X.stack s H us ws vs zs Q (WE W σ) c.rm0 I.env0 r r2 l1 l2 h)⟩
theorem kw_names {env : Env} : ∀ {kws : List Keyword} {pos : Pos}, (backToKw pos (keywordEach kws env)).all (·.1.isSome) = true → (backToKw pos (keywordEach kws env)).any (·.1.isNone) = false := fun {kws pos} h => by
  rw [List.any_eq_false]
  intro z hz
  have := List.all_eq_true.mp h z hz
  cases e : z.1 with
  | none => rw [e] at this; cases this
  | some _ => simp
end
end Ev
set_option maxRecDepth 100000
set_option maxHeartbeats 2000000
namespace Ev
open PySem PySem.Spec PyProof.Rows L2
def GlobD (mg : Str → Option Value) (G : Sg) (x : Str) (d : D) : Prop := ∃ u v, mg x = some u ∧ RelV v u ∧ ∀ w : Wd, RepV G w d v
section
variable {G : Sg} {X : Cx} {W : WX} {k : Nat} {x : Str} {p : Pos} {d : D}
theorem v_glob (hg : Gl X x) (h : GlobD X.mg G x d) (hd : (x == ("__debug__" : Str)) = false) : PV G X W (.Name x p) (fun _ => M.pure d) := by
  obtain ⟨u, v, hm, r, rv⟩ := h
  exact v_lit (pe_glob hg hm r hd) fun w S _ => rv w
theorem v_ty {t : TyN} (hg : Gl X x) (hm : X.mg x = none) (hv : bootBuiltins x = some (.type t.name)) (hn : x ≠ "__name__") (hd : (x == ("__debug__" : Str)) = false) : PV G X W (.Name x p) (fun _ => M.pure (.ty t)) :=
  v_lit (v := .ty t.name) (pe_bltn hg hm hv rfl hn hd) fun w S _ => rfl
theorem v_int {i : Int} {j : Nat} : PV G X W (.Constant (.int i) j p) (fun _ => M.pure (.int i)) := v_lit pe_int fun _ _ _ => rfl
theorem v_str {s : Str} {j : Nat} : PV G X W (.Constant (.str s) j p) (fun _ => M.pure (.str s)) := v_lit pe_str fun _ _ _ => rfl
theorem v_bool {b : Bool} {j : Nat} : PV G X W (.Constant (.bool b) j p) (fun _ => M.pure (.bl b)) := v_lit pe_bl fun _ _ _ => rfl
theorem v_none {j : Nat} : PV G X W (.Constant .none j p) (fun _ => M.pure .non) := v_lit pe_non fun _ _ _ => rfl
theorem b_of {e : Expr} {f : List SV → M Bool} (h : PBW G X W e f) : PB G X W e f := PW.pt h
end
theorem glob_int {mg : Str → Option Value} {G : Sg} {x : Str} {i : Int} {t : Tok} (h : mg x = some (.int i t)) : GlobD mg G x (.int i) := ⟨_, .int i, h, ⟨t, rfl⟩, fun _ => rfl⟩
theorem glob_cls {mg : Str → Option Value} {G : Sg} {x : Str} {c : Nat} (h : mg x = some (.ref (G.ca c))) : GlobD mg G x (.cls c) := ⟨_, .ref (G.ca c), h, rfl, fun _ => rfl⟩
def tab {α : Type} : List (Nat × α) → Nat → Option α
  | [], _ => none
  | (c, x) :: l, n => if n = c then some x else tab l n
theorem tab_nil {α : Type} {P : Nat → α → Prop} : ∀ c g, tab ([] : List (Nat × α)) c = some g → P c g := fun _ _ h => nomatch h
theorem tab_cons {α : Type} {P : Nat → α → Prop} {c0 : Nat} {x : α} {l : List (Nat × α)} (h0 : P c0 x) (h : ∀ c g, tab l c = some g → P c g) : ∀ c g, tab ((c0, x) :: l) c = some g → P c g := fun c g e => by
  unfold tab at e
  split at e
  · next q => subst q; cases e; exact h0
  · exact h c g e
end Ev
namespace Ev
open PySem PySem.Spec PyProof.Rows L2
def AtOk (X : Cx) (G : Sg) (k : Nat) (m : Str) (c : Nat) : At → Prop
  | .fld i => Cls X.K (G.ca c) ∧ NoAttr X.K (G.ca c) m ∧ (G.fn c).Nodup ∧ (G.fn c)[i]? = some m
  | .prop g => ∃ p f, Cls X.K (G.ca c) ∧ PropOf X.K (G.ca c) m p f ∧ FnX X G k f g
theorem AttrT.of {X : Cx} {G : Sg} {k : Nat} {m : Str} {tbl : Nat → Option At} (h : ∀ c x, tbl c = some x → AtOk X G k m c x) : AttrT X G k m tbl := ⟨fun c i e => h c _ e, fun c g e => h c _ e⟩
end Ev
set_option maxRecDepth 100000
set_option maxHeartbeats 2000000
namespace Ev
open PySem PySem.Spec PyProof.Rows L2
theorem enum_new1 {v : Value} {o : Obj} {Hh : Heap → Prop} (B : Begins v o Hh) :
    Meets (Builtin.«enumerate.__new__» ⟨[.type "enumerate", v], []⟩) (fun _ R s => Hh s.heap ∧
      R (.ok (.ret (.ref (s.heap.push o).objs.size))) { s with heap := (s.heap.push o).push { cls := .type "enumerate", data := .fields #[.none, .bool false, .ref s.heap.objs.size, rawInt 0, .none, .none] } }) :=
  .of_wp fun prog w A R s h => by
    obtain ⟨hp, g, d, tk, os⟩ := s
    obtain ⟨h1, h⟩ := h
    have below := sub_enumerate
    have begin_ : ∀ {A' : Around} {E : Value → Shared → Prop} {Q : Value → Shared → Prop}, Q (.ref hp.objs.size) ⟨hp.push o, g, d, tk, os⟩ → wpAny (model prog w) A' (pyIter v) Q E ⟨hp, g, d, tk, os⟩ :=
      fun q => B.iter prog w _ _ ⟨hp, g, d, tk, os⟩ _ h1 q
    wp_walk using begin_
    refine wpAny_stack_any fun st => wpAny_pure ?_
    split
    · rename_i c _ _ _ _ _
      cases (c == Value.type "enumerate")
      all_goals
        wp_walk using begin_
        exact ⟨_, rfl, h⟩
    · wp_walk using begin_
      exact ⟨_, rfl, h⟩
section
variable {prog : Program} {w : World} {A : Around} {E : Value → Shared → Prop} {s : Shared}
theorem call_enum1 {v : Value} {o : Obj} {Hh : Heap → Prop} {Q : Value → Shared → Prop} (B : Begins v o Hh) (h1 : Hh s.heap)
    (h : ∀ h', IsEnum h' (s.heap.objs.size + 1) s.heap.objs.size 0 .none → h'.get? s.heap.objs.size = some o → (∀ b u, s.heap.get? b = some u → h'.get? b = some u) → Q (.ref (s.heap.objs.size + 1)) { s with heap := h' }) :
    wpAny (model prog w) A (call (.type "enumerate") [v]) Q E s := by
  have size1 : (s.heap.push o).objs.size = s.heap.objs.size + 1 := Heap.size_push ..
  refine callType_new F.called_enumerate (by decide) (F.typeCall_enumerate_1 _) (F.newCall_enumerate_1 _) (fun obj => F.args_object_init_2 obj _) F.entry_enumerate_new (enum_new1 B) ⟨h1, ?_⟩
  show _ ∧ _
  rw [size1]
  have made : IsEnum ((s.heap.push o).push { cls := .type "enumerate", data := .fields #[.none, .bool false, .ref s.heap.objs.size, rawInt 0, .none, .none] }) (s.heap.objs.size + 1) s.heap.objs.size 0 .none := by
    have z := Heap.get?_push_size (s.heap.push o) (o := { cls := .type "enumerate", data := .fields #[.none, .bool false, .ref s.heap.objs.size, rawInt 0, .none, .none] }) rfl
    rw [size1] at z
    exact z
  exact ⟨⟨_, made, rfl⟩, h _ made (Heap.get?_push_of_some _ (Heap.get?_push_size _ B.free)) fun b u x => Heap.get?_push_of_some _ (Heap.get?_push_of_some _ x)⟩
end
theorem apart_it {h : Heap} {a it : Addr} {items : Array Value} {i : Nat} (p : IsTup h a items) (q : h.IsTupleIter it a i) : a ≠ it := by
  rintro rfl
  obtain ⟨o1, h1, c1, _⟩ := p
  obtain ⟨o2, h2, c2, _⟩ := q
  rw [h1] at h2
  cases h2
  rw [c1] at c2
  exact absurd (Value.type.inj c2) (by decide)
theorem enum_done {prog : Program} {w : World} {A : Around} {E : Value → Shared → Prop} {s : Shared} {e it a : Addr} {i : Nat} {n : Int} {old : Value} {items : Array Value} {Q : Option Value → Shared → Prop} (hh : A.handled = none) (he : IsEnum s.heap e it n old) (hit : s.heap.IsTupleIter it a i)
    (ht : s.heap.IsTuple a items) (hi : items.size ≤ i) (hQ : ∀ h', Heap.ExtBut it s.heap h' → Q none { s with heap := h' }) : wpAny (model prog w) A (pyNext (.ref e)) Q E s := by
  have kind : s.TypeIs (.ref e) "enumerate" := ⟨_, he, rfl⟩
  unfold pyNext
  refine wpAny_bind (wpAny_attempt (wpAny_callSpecial?_slot (name := Str.ofString "__next__") kind F.slot_enumerate_next (wpAny_call_entry F.slot_enumerate_next kind F.entry_enumerate_next ?_ (F.args_enumerate_next_1 _))))
  show wpAny _ _ (field (.ref e) 2 >>= _) _ _ _
  refine wpAny_bind (wpAny_field he rfl (x := .ref it) rfl (wpAny_bind ?_))
  refine wpAny_nextOf_tuple_end (A := A.in1) hh hit ht (Array.getElem?_eq_none hi) fun h' x ext stop => ?_
  obtain ⟨ob, ho, hc⟩ := stop
  exact wpAny_bind (wpAny_isInstance (T := "StopIteration") (b := true) ⟨ob, ho, hc⟩ isSubtype_stop (wpAny_pure (hQ _ ext)))
def ItE (K : PySem.W.Frag) (a : Addr) : It :=
  ⟨fun i H => ∃ (xs : List V) (x : V), SqT K H a xs ∧ xs[i]? = some x, fun i H v H' => ∃ T x, v = .ref T ∧ H T = none ∧ H' = upd H T (.tup [.int (i : Nat), x]) ∧ ∀ xs, SqT K H a xs → xs[i]? = some x, fun i H => ∃ xs : List V, SqT K H a xs ∧ xs.length ≤ i⟩
theorem turn_enumT {P : Program} {w : World} {K : PySem.W.Frag} {elts : List Expr} {kk : Nat} {tpos : Pos} (a e it : Addr) :
    Turn P w K (.Tuple elts kk tpos) (ItE K a) [e, it] e (fun i h => (∃ old, IsEnum h e it ((i : Nat) : Int) old) ∧ h.IsTupleIter it a i ∧ e ≠ it) where
  mem := by simp
  obj := fun i h st b hb => by
    obtain ⟨⟨old, he⟩, ⟨o, ho, hc, hd⟩, _⟩ := st
    rcases (show b = e ∨ b = it by simpa using hb) with rfl | rfl
    · exact ⟨_, he, fun v q => nomatch q⟩
    · exact ⟨o, ho, fun v q => by rw [hd] at q; cases q⟩
  keep := fun i h h' st k => let ⟨⟨old, he⟩, hi, hne⟩ := st; ⟨⟨old, k e (by simp) _ he⟩, hi.at fun o q => k it (by simp) o q, hne⟩
  item := by
    intro X hP hw hK hc i pins s σ H E I hf st hg
    subst hP hw hK
    obtain ⟨⟨old, he⟩, hit, hne⟩ := st
    obtain ⟨xs, x, hq, hx⟩ := hg
    obtain ⟨its, rv, p, hz⟩ := I.tuple hq
    obtain ⟨u, hu, ru⟩ := rv.get hx
    have elt_ : e < s.heap.objs.size := Heap.lt_size he
    have ilt : it < s.heap.objs.size := by obtain ⟨_, q, _⟩ := hit; exact Heap.lt_size q
    have apart : a ≠ it := apart_it p hit
    have D := Draws.tuple (prog := X.prog) (w := X.w) (A := X.A.in1) (I.ok.hd hc) it a apart its.toArray
    have ea : e ∉ ([it, a] : List Addr) := by
      intro z
      rcases (show e = it ∨ e = a by simpa using z) with z | z
      · exact hne z
      · subst z
        obtain ⟨o1, h1, c1, _⟩ := p
        have h2 := he
        unfold IsEnum at h2
        rw [h1] at h2
        cases h2
        exact absurd (Value.type.inj c1) (by decide)
    have small : i < its.toArray.size := by
      rw [List.size_toArray, ← rv.length]
      exact (List.getElem?_eq_some_iff.mp hx).1
    refine wpAny_pyNext_enum_itemD D he ⟨hit, p⟩ small hne ea fun y h' tk hy ho st' hT hsz hk => ?_
    have ey : y = u := by
      have hy2 : its.toArray[i]? = some y := hy
      have hu2 : its.toArray[i]? = some u := by simpa using hu
      rw [hu2] at hy2
      exact (Option.some.inj hy2).symm
    subst ey
    refine ⟨_, rfl, wpAny_letOwnedTupleGo_enum (s := { s with heap := h', toks := tk + 1 }) ho fun h'' he' sb => ?_⟩
    have hT2 : h''.get? s.heap.objs.size = some { cls := .type "tuple", data := .seq #[.int i tk, y] } := (sb.2 _ (Nat.ne_of_gt elt_)).trans hT
    have new : ObjOk X.prog X.w (upd H s.heap.objs.size (.tup [.int (i : Nat), x])) h'' s.heap.objs.size (.tup [.int (i : Nat), x]) :=
      ⟨by show 2 ≤ sizeLine; decide, [.int i tk, y], .cons ⟨_, rfl⟩ (.cons ru .nil), ⟨_, hT2, rfl, _, rfl⟩⟩
    have I1 : Inv X pins σ (upd H s.heap.objs.size (.tup [.int (i : Nat), x])) { s with heap := h'', toks := tk + 1 } :=
      I.turnedNew (ch := [e, it]) (fun b ob hb q => (sb.2 b (fun z => hb (by simp [z]))).trans (hk b ob (fun z => hb (by simp [z])) (fun z => hb (by simp [z])) q)) hf (Nat.le_refl _) new
    refine ⟨.ref s.heap.objs.size, _, I1, rfl, ⟨_, x, rfl, I.hok.fresh (Nat.le_refl _), rfl, fun ys hy => by rw [I.tuple_inj hy hq]; exact hx⟩, ⟨⟨y, ?_⟩, st'.1.at fun o q => (sb.2 it (Ne.symm hne)).trans q, hne⟩, fun b hb => ?_⟩
    · have cast : ((i + 1 : Nat) : Int) = (i : Int) + 1 := by omega
      rw [cast]
      exact he'
    · have below : b < s.heap.objs.size := by
        rcases (show b = e ∨ b = it by simpa using hb) with rfl | rfl
        · exact elt_
        · exact ilt
      rw [upd_ne (Nat.ne_of_lt below)]
      exact (hf b hb).1
  done := by
    intro X hP hw hK hc i pins s σ H E I hf st hg
    subst hP hw hK
    obtain ⟨⟨old, he⟩, hit, hne⟩ := st
    obtain ⟨xs, hq, hx⟩ := hg
    obtain ⟨its, rv, p, hz⟩ := I.tuple hq
    obtain ⟨f0, f1, f2, f3, f4, f5⟩ := hf it (by simp)
    have hl := rv.length
    exact enum_done (I.ok.hd hc) he hit p (by rw [List.size_toArray]; omega) fun h' eb => ⟨rfl, I.turned (t' := s.toks) (fun b o hb q => eb b o hb q) f0 f1 f3 f4 f5⟩
  self := fun A i s Q E st h => let ⟨⟨_, he⟩, _⟩ := st; wpAny_pyIter_enum he h
section
variable {G : Sg} {X : Cx} {W : WX} {k : Nat} {w : Wd}
theorem pi_enumT {e : Expr} {te : TE} {p pos tpos : Pos} {elts : List Expr} {kk : Nat} (hg : Gl X "enumerate") (hm : X.mg "enumerate" = none) (he : PE X e te) (hs : notStar e = true) :
    PI X (.Tuple elts kk tpos) (.Call (.Name "enumerate" p) [e] [] pos) (fun σ H R => te σ H fun v H1 => ∃ a xs, v = .ref a ∧ SqT X.K H1 a xs ∧ R (ItE X.K a) H1) := by
  have ha := pa_cons he pa_nil (starEach_cons hs)
  refine ⟨fun pins s σ H R I h => ?_⟩
  refine Call_ (ld_blt I hg hm boot_enumerate (PyProof.Rows.callWith_type1 (thn (ha.run pos pins s σ H (fun vs H1 => match vs with | [v] => ∃ a xs, v = .ref a ∧ SqT X.K H1 a xs ∧ R (ItE X.K a) H1 | _ => False) I ?_) fun us s1 got => ?_) (starEach_cons hs) rfl))
  · exact h
  · obtain ⟨vs, H1, I1, r1, got⟩ := got
    rcases vs with _ | ⟨v, _ | ⟨v2, vs⟩⟩
    · exact got.elim
    rotate_left
    · exact got.elim
    obtain ⟨a, xs, rfl, hq, q⟩ := got
    obtain ⟨u, rfl, ru⟩ := r1.one
    cases (show u = Value.ref a from ru)
    obtain ⟨its, rv, tp, hz⟩ := I1.tuple hq
    refine call_enum1 (begins_tuple a its.toArray) tp fun h' he' hit keep => wpAny_pyIter_enum he' ?_
    have I2 : Inv X pins σ H1 { s1 with heap := h' } := I1.kept (t' := s1.toks) keep
    have ti : h'.IsTupleIter s1.heap.objs.size a 0 := ⟨_, hit, rfl, rfl⟩
    refine ⟨s1.heap.objs.size + 1, [s1.heap.objs.size + 1, s1.heap.objs.size], _, _, H1, rfl, I2, turn_enumT a (s1.heap.objs.size + 1) s1.heap.objs.size, ⟨⟨.none, he'⟩, ti, Nat.succ_ne_self _⟩, fun b hb => ?_, q⟩
    have above : s1.heap.objs.size ≤ b := by
      rcases (show b = s1.heap.objs.size + 1 ∨ b = s1.heap.objs.size by simpa using hb) with z | z
      · rw [z]; exact Nat.le_add_right _ _
      · rw [z]; exact Nat.le_refl _
    exact I1.fpOk above (I1.hok.fresh above)
def numbered : Nat → List D → List D
  | _, [] => []
  | n, d :: ds => .tup [.int n, d] :: numbered (n + 1) ds
theorem numbered_len : ∀ (n : Nat) (ds : List D), (numbered n ds).length = ds.length
  | _, [] => rfl
  | n, d :: ds => by rw [numbered, List.length_cons, List.length_cons, numbered_len (n + 1) ds]
theorem numbered_get : ∀ (n i : Nat) (ds : List D) (z : D), (numbered n ds)[i]? = some z → ∃ d, ds[i]? = some d ∧ z = .tup [.int ((n + i : Nat) : Int), d]
  | _, _, [], _, h => by simp [numbered] at h
  | n, 0, d :: ds, z, h => by
    simp [numbered] at h
    exact ⟨d, rfl, h.symm⟩
  | n, i + 1, d :: ds, z, h => by
    obtain ⟨d', h1, h2⟩ := numbered_get (n + 1) i ds z (by simpa [numbered] using h)
    exact ⟨d', by simpa using h1, by rw [h2]; congr 4; omega⟩
def enumD : D → M (List D)
  | .tup ds => M.pure (numbered 0 ds)
  | _ => M.stuck
theorem yld_enum (cK : G.K = X.K) {ds : List D} {vs : List V} {a : Addr} (h : RdF w a (.tup vs) ∨ KTup G.K a vs) (r : RepVs G w ds vs) : Yld G w (numbered 0 ds) (ItE X.K a) := by
  have sq : ∀ w', Stay w w' → SqT X.K w'.H a vs := fun w' s => sqT_of cK (h.imp (fun z => z.stay s) id)
  refine ⟨fun w' i s hi => ⟨vs, sq w' s, by rw [← r.length, ← numbered_len 0]; exact hi⟩, fun w' i s hi => ?_, fun w' i d x H' S s st hd hy => ?_⟩
  · obtain ⟨v, e⟩ := r.get_len (by rw [← numbered_len 0]; exact hi)
    exact ⟨vs, v, sq w' s, e⟩
  · obtain ⟨T, y, rfl, free, rfl, hx⟩ := hy
    obtain ⟨d', h1, rfl⟩ := numbered_get 0 i ds d hd
    obtain ⟨v, ev, rv⟩ := r.get h1
    have z := hx vs (sq w' s)
    rw [ev] at z
    cases z
    refine ⟨w'.frz T (.tup [.int (i : Nat), y]), rfl, Ext.frz free, st.frz free, T, _, rfl, .inl ⟨.inr rfl, .inl upd_same⟩, _, _, rfl, by rw [Nat.zero_add]; rfl, _, _, rfl, ?_, rfl⟩
    exact RepV.stay (s.trans ((Ext.frz free).stay st.dj)) _ _ rv
theorem i_enum {e : Expr} {f : List SV → M D} {p pos tpos : Pos} {elts : List Expr} {kk : Nat} (c : Ctx G X W k) (hg : Gl X "enumerate") (hm : X.mg "enumerate" = none) (he : PV G X W e f) (hs : notStar e = true) :
    PIV G X W (.Tuple elts kk tpos) (.Call (.Name "enumerate" p) [e] [] pos) (fun sd => M.bind (f sd) enumD) := by
  refine PI.imp (pi_enumT hg hm he hs) fun σ H Q q => ?_
  obtain ⟨w0, w, sd, S, e, r, q⟩ := q
  refine ⟨w0, w, sd, S, e, r, fin_step q fun w1 S1 d v e1 s1 rv q1 => ?_⟩
  cases d with
  | tup ds =>
    obtain ⟨a, vs, ev, ha, rs⟩ := rv
    exact ⟨a, vs, ev, sqT_of c.cK ha, q1 w1 _ (Ext.refl _) s1 (yld_enum c.cK ha rs)⟩
  | _ => exact q1.elim
variable {s : Shared} {H : Hp} {scope : Scope} {env : Env} {fp : List Addr}
theorem blkV {e : Expr} {f : List SV → M D} (c : Ctx G X W k) (h : Ctx G (X.blk s H scope env fp) NoW k → PV G (X.blk s H scope env fp) NoW e f) : PV G (X.blk s H scope env fp) NoW e f := h (c.blk s H scope env fp)
theorem blkT {e : List Expr} {f : List SV → M Bool} (c : Ctx G X W k) (h : Ctx G (X.blk s H scope env fp) NoW k → PTsV G (X.blk s H scope env fp) NoW e f) : PTsV G (X.blk s H scope env fp) NoW e f := h (c.blk s H scope env fp)
theorem blkP {e : Expr} {ts : List Nat} {f : TgP} (c : Ctx G X W k) (h : Ctx G (X.blk s H scope env fp) NoW k → PGP G (X.blk s H scope env fp) ts e f) : PGP G (X.blk s H scope env fp) ts e f := h (c.blk s H scope env fp)
end
end Ev
set_option maxRecDepth 100000
set_option maxHeartbeats 2000000
namespace Ev
open PySem PySem.Spec PyProof.Rows L2
section
variable {P : Program} {w : World} {K : PySem.W.Frag} {mg mb : Str → Option Value} {G : Sg} {k : Nat} {fa a : Addr} {sem : List D → M D} {s₁ : Shared} {vs : List Value} {ns : List Int}
theorem end_core (H : Hp) (KX : K.In s₁.heap) (hns : s₁.heap.Ns mainGlobals mg) (hb : s₁.heap.Ns builtinsNs mb) (hbb : ∀ x : Str, x ≠ "__name__" → mb x = bootBuiltins x) (hlim : s₁.heap.NoLimit) (hg : s₁.gens = #[])
    (ha : s₁.heap.get? a = some { cls := .type "list", data := .seq vs.toArray }) (hr : Room k callerA) (cK : G.K = K)
    (F : ∀ base : Heap, K.In base → base.Ns mainGlobals mg → FnA P w K mg base G k fa sem) (hsem : ∃ S, sem [.scr (ns.map D.int)] [] = some (.ok (.bl true), S))
    (told : ∀ b u, H b = some u → b = a ∧ ∃ o xs, u = .frz o (.lst xs)) (unK : H a ≠ none → K.lookup a = none) (hok : HOk P w H s₁.heap) (hS : SqL K H a (ns.map V.int)) :
    codeAny (model P w) callerA (.call (.ref fa) ⟨[.ref a], []⟩) (fun r s' => r = .ok (.ret (.bool true)) ∧ OldK s₁.heap s'.heap ∧ s'.os = s₁.os ∧ AllBare s'.gens) s₁ := by
  have same : ∀ {b : Addr} {o : Obj}, s₁.heap.get? b = some o → b ≠ a → (hidT s₁.heap H).get? b = some o := fun {b o} e ne => by
    refine hidT_get e ?_
    rcases q : H b with _ | u
    · rfl
    · exact absurd (told b u q).1 ne
  have asNs : ∀ {b : Addr} {m : Str → Option Value}, s₁.heap.Ns b m → (hidT s₁.heap H).Ns b m := by
    rintro b m ⟨o, es, ep, e, d, r⟩
    refine ⟨o, es, ep, same e ?_, d, r⟩
    rintro rfl
    rw [ha] at e
    cases e
    exact Data.noConfusion d
  have inK : K.In (hidT s₁.heap H) := fun b o e => by
    have there := KX b o e
    rcases q : H b with _ | u
    · exact hidT_get there q
    · obtain ⟨rfl, _⟩ := told b u q
      rw [unK (by rw [q]; exact fun z => nomatch z)] at e
      cases e
  have md : Mod K mg (hidT s₁.heap H) := by
    obtain ⟨mc, l1, l2⟩ := hlim
    exact ⟨inK, asNs hns, ⟨mb, asNs hb, hbb⟩, ⟨mc, asNs l1, l2⟩⟩
  have e0 : Env0 P w K mg (hidT s₁.heap H) callerA [] s₁ H := ⟨rfl, md, fun b o e => of_hidT e, Nat.le_of_eq (hidT_size _ _), trivial, fun b z => absurd (show b ∈ ([] : List Addr) from z) (by simp), hok, .of_eq hg⟩
  obtain ⟨S, hsem⟩ := hsem
  have numsR : ∀ (wd : Wd) (l : List Int), RepVs G wd (l.map D.int) (l.map V.int) := fun wd l => by
    induction l with
    | nil => rfl
    | cons z l ih => exact ⟨_, _, rfl, rfl, ih⟩
  have start : spV G sem [.ref a] H (fun v _ => v = .bl true) fun _ _ _ => False := by
    refine ⟨⟨[], fun b => H b ≠ none, H, none⟩, [.scr (ns.map D.int)], [], rfl, ⟨rfl, List.nodup_nil, fun _ _ => by simp, fun _ z => z, fun n b o z => by simp at z⟩, ⟨.ref a, [], rfl, ⟨a, _, rfl, ?_, numsR _ ns⟩, rfl⟩, ?_⟩
    · rcases hS with z | z
      · refine .inl ⟨?_, z⟩
        show H a ≠ none
        rcases z with z | ⟨o, z⟩
        · rw [z]; exact fun q => nomatch q
        · rw [z]; exact fun q => nomatch q
      · rw [← cK] at z
        exact .inr z
    · rw [hsem]
      exact fun w' v _ _ rv => rv
  have vals : Vals [V.ref a] [Value.ref a] := .cons rfl .nil
  refine codeAny_mono ((F _ inK (asNs hns)).run callerA [] s₁ H [.ref a] [.ref a] _ _ ⟨hr, fun _ => rfl⟩ e0 vals start) ?_
  rintro (er | fl) s' got
  · obtain ⟨_, _, _, _, _, _, _, _, _, _, _, _, z⟩ := got
    exact z.elim
  · cases fl with
    | next => exact got.elim
    | brk => exact got.elim
    | cont => exact got.elim
    | ret u =>
      obtain ⟨v, H', os, bare, un, hok', rv, rfl⟩ := got
      obtain rfl : u = Value.bool true := rv
      refine ⟨rfl, OldK.of_keep fun b o e => ?_, os, bare⟩
      rcases q : H b with _ | u
      · exact un.keep b o e q (fun z => absurd (show b ∈ ([] : List Addr) from z) (by simp)) (by simp)
      · obtain ⟨rfl, ob, xs, rfl⟩ := told b u q
        have kept := un.frzs b ob _ q
        obtain ⟨e1, _⟩ := hok b _ q
        obtain ⟨e2, _⟩ := hok' b _ kept
        rw [e] at e1
        cases e1
        exact e2
theorem end_call (KX : K.In s₁.heap) (hns : s₁.heap.Ns mainGlobals mg) (hb : s₁.heap.Ns builtinsNs mb) (hbb : ∀ x : Str, x ≠ "__name__" → mb x = bootBuiltins x) (hlim : s₁.heap.NoLimit) (hg : s₁.gens = #[])
    (ha : s₁.heap.get? a = some { cls := .type "list", data := .seq vs.toArray }) (hi : IntsAre vs ns) (hl : ns.length ≤ sizeLine) (hr : Room k callerA) (cK : G.K = K)
    (F : ∀ base : Heap, K.In base → base.Ns mainGlobals mg → FnA P w K mg base G k fa sem) (hsem : ∃ S, sem [.scr (ns.map D.int)] [] = some (.ok (.bl true), S)) :
    codeAny (model P w) callerA (.call (.ref fa) ⟨[.ref a], []⟩) (fun r s' => r = .ok (.ret (.bool true)) ∧ OldK s₁.heap s'.heap ∧ s'.os = s₁.os ∧ AllBare s'.gens) s₁ := by
  have rv := vals_ints hi
  have size : vs.length ≤ sizeLine := by rw [hi.length]; exact hl
  rcases hk : K.lookup a with _ | o
  · refine end_core (fun b => if b = a then some (.frz { cls := .type "list", data := .seq vs.toArray } (.lst (ns.map V.int))) else none) KX hns hb hbb hlim hg ha hr cK F hsem (fun b u z => ?_) (fun _ => hk) (fun b u z => ?_) (.inl (.inr ⟨_, if_pos rfl⟩))
    · by_cases e : b = a
      · exact ⟨e, _, _, (Option.some.inj ((if_pos e).symm.trans z)).symm⟩
      · cases (if_neg e).symm.trans z
    · by_cases e : b = a
      · cases (if_pos e).symm.trans z
        subst e
        exact ⟨ha, by rw [List.length_map]; exact hl, vs, _, rv, ha⟩
      · cases (if_neg e).symm.trans z
  · have there := KX a o hk
    rw [ha] at there
    cases there
    exact end_core (fun _ => none) KX hns hb hbb hlim hg ha hr cK F hsem (fun b u z => nomatch z) (fun z => absurd rfl z) (fun b u z => nomatch z) (.inr ⟨_, vs.toArray, _, hk, rfl, rfl, rfl, by rw [List.size_toArray]; exact size, by simpa using rv⟩)
end
theorem end_walk {l : PySem.W.OpenLaw} {n k : Nat} {q : Program} {loose : List Str} {XP : (Str → Option Value) → Heap → Prop} {YP : World → Heap → Prop} {d : DefRec} {K : Params → PySem.W.Frag} {sem : List D → M D}
    (hn : l.most = some n) (hn2 : n ≤ sizeLine) (hdf : d.params.defaults = []) (hr : Room k callerA) (hY : ∀ (w : World) (h : Heap), YP w h → (K w.params).In h)
    (F : ∀ (w : World) (mg : Str → Option Value) (fa : Addr) (h : Heap), (K w.params).In h → h.Ns mainGlobals mg → mg d.name = some (.ref fa) → ∃ G : Sg, G.K = K w.params ∧ ∀ base : Heap, (K w.params).In base → base.Ns mainGlobals mg → FnA l.prog w (K w.params) mg base G k fa sem)
    (hsem : ∀ ns : List Int, ns.length ≤ n → (∀ z ∈ ns, Builtin.Int.intBits z ≤ 1048576) → ∃ S, sem [.scr (ns.map D.int)] [] = some (.ok (.bl true), S)) :
    PySem.W.WalkO q loose XP YP l.row.toRowW d [] (fun f vs => PySem.call f vs) := by
  refine Att.attach_callB hn hdf fun w s₀ s₁ mg mb fa o pm cd doc a vs ns Gr Y ho hd hcd hmg hobj hints hlen hbits hg => ?_
  have KX := hY w _ Y
  obtain ⟨G, cK, hF⟩ := F w mg fa _ KX Gr.T.g hmg
  exact end_call KX Gr.T.g Gr.T.b Gr.T.builtins Gr.T.nolimit hg hobj hints (Nat.le_trans hlen hn2) hr cK hF (hsem ns hlen hbits)
theorem kit_cc {K : PySem.W.Frag} {t : Value} {C : Addr} {b : Bool} (h1 : PySem.W.isClsIn K C = true) (h2 : PySem.W.typeIn K (.ref C) = some (.type "type")) (h3 : PySem.W.subIn K t (.ref C) = some b) (h4 : PySem.W.subIn K (.ref C) (.ref C) = some true) : PySem.W.kitOne K t (.ref C) = some b := by
  unfold PySem.W.kitOne
  by_cases e : (t == Value.ref C) = true
  · rw [if_pos e]
    have e2 : t = Value.ref C := eq_of_beq e
    rw [e2, h4] at h3
    exact h3
  · rw [if_neg e]
    unfold PySem.W.kitCls
    have h1' : (PySem.W.clsIn K C).isSome = true := h1
    simp only [h1', h2, h3]
    rfl
theorem kit_ct {K : PySem.W.Frag} {C : Addr} {T : String} {b : Bool} (h1 : PySem.W.kitMeta T = true) (h3 : PySem.W.subIn K (.ref C) (.type T) = some b) : PySem.W.kitOne K (.ref C) (.type T) = some b := by
  unfold PySem.W.kitOne
  by_cases e : (Value.ref C == Value.type T) = true
  · cases eq_of_beq e
  rw [if_neg e]
  unfold PySem.W.kitCls
  simp only [h1, h3]
  rfl
end Ev
set_option maxRecDepth 100000
set_option maxHeartbeats 2000000
namespace Ev
open PySem L2
def Run {α : Type} (f : M α) (S : List Ob) (P : α → List Ob → Prop) : Prop := match f S with
  | some (.ok a, S') => P a S'
  | _ => False
def RunS (f : MS) (sd : List SV) (S : List Ob) (N : List SV → List Ob → Prop) (R : D → List Ob → Prop) (B C : List SV → List Ob → Prop) : Prop := match f sd S with
  | some (.next sd', S') => N sd' S'
  | some (.ret d, S') => R d S'
  | some (.brk sd', S') => B sd' S'
  | some (.cont sd', S') => C sd' S'
  | _ => False
section
variable {α β : Type} {f : M α} {S : List Ob} {P P' : α → List Ob → Prop}
theorem run_pure {a : α} : Run (M.pure a) S P ↔ P a S := Iff.rfl
theorem run_stuck : Run (M.stuck : M α) S P ↔ False := Iff.rfl
theorem run_bind {k : α → M β} {Q : β → List Ob → Prop} : Run (M.bind f k) S Q ↔ Run f S fun a S' => Run (k a) S' Q := by
  unfold Run M.bind
  rcases f S with _ | ⟨_ | a, S'⟩
  · exact Iff.rfl
  · exact Iff.rfl
  · exact Iff.rfl
theorem run_ite {c : Prop} [Decidable c] {g : M α} : Run (if c then f else g) S P ↔ if c then Run f S P else Run g S P := by split <;> exact Iff.rfl
theorem run_noErr : Run (noErr f) S P ↔ Run f S P := by
  unfold Run noErr
  rcases f S with _ | ⟨_ | a, S'⟩ <;> exact Iff.rfl
theorem Run.mono (h : Run f S P) (i : ∀ a S', P a S' → P' a S') : Run f S P' := by
  unfold Run at h ⊢
  rcases e : f S with _ | ⟨_ | a, S'⟩
  · rw [e] at h; exact h
  · rw [e] at h; exact h
  · rw [e] at h; exact i a S' h
theorem Run.ex (h : Run f S P) : ∃ a S', f S = some (.ok a, S') ∧ P a S' := by
  unfold Run at h
  rcases e : f S with _ | ⟨_ | a, S'⟩
  · rw [e] at h; exact h.elim
  · rw [e] at h; exact h.elim
  · rw [e] at h; exact ⟨a, S', rfl, h⟩
theorem pure_of {r : α} (h : ∀ S, Run f S fun d S' => d = r ∧ S' = S) : f = M.pure r := by
  funext S
  obtain ⟨a, S', e, rfl, rfl⟩ := (h S).ex
  rw [e]
  rfl
variable {sd : List SV} {N N' : List SV → List Ob → Prop} {R R' : D → List Ob → Prop} {B B' C C' : List SV → List Ob → Prop} {m1 m2 : MS}
theorem runS_next : RunS nextS sd S N R B C ↔ N sd S := Iff.rfl
theorem runS_stuck : RunS stuckS sd S N R B C ↔ False := Iff.rfl
theorem runS_seq : RunS (seqS m1 m2) sd S N R B C ↔ RunS m1 sd S (fun sd' S' => RunS m2 sd' S' N R B C) R B C := by
  unfold RunS seqS
  rcases m1 sd S with _ | ⟨_ | _ | _ | _ | _, S'⟩ <;> exact Iff.rfl
theorem runS_ex {g : List SV → M α} {k : α → MS} : RunS (exS g k) sd S N R B C ↔ Run (g sd) S fun d S' => RunS (k d) sd S' N R B C := by
  unfold RunS exS Run
  rcases g sd S with _ | ⟨_ | a, S'⟩ <;> exact Iff.rfl
theorem runS_ret {g : List SV → M D} : RunS (retS g) sd S N R B C ↔ Run (g sd) S R := by
  unfold retS
  rw [runS_ex]
  exact Iff.rfl
theorem runS_asg {g : List SV → M D} {i : Nat} : RunS (asgS g (setT i)) sd S N R B C ↔ Run (g sd) S fun d S' => N (sd.set i (.val d)) S' := by
  unfold asgS
  rw [runS_ex]
  exact Iff.rfl
theorem runS_par {g : List SV → M (List D)} {i j : Nat} : RunS (parS i j g) sd S N R B C ↔ Run (g sd) S fun ds S' => match ds with | [a, b] => N ((sd.set i (.val a)).set j (.val b)) S' | _ => False := by
  unfold parS
  rw [runS_ex]
  unfold Run
  rcases g sd S with _ | ⟨_ | ds, S'⟩
  · exact Iff.rfl
  · exact Iff.rfl
  · rcases ds with _ | ⟨a, _ | ⟨b, _ | ⟨c, ds⟩⟩⟩ <;> exact Iff.rfl
theorem runS_if {g : List SV → M Bool} : RunS (exS g fun k => if k = true then m1 else m2) sd S N R B C ↔ Run (g sd) S fun k S' => if k = true then RunS m1 sd S' N R B C else RunS m2 sd S' N R B C := by
  rw [runS_ex]
  have e : (fun (d : Bool) S' => RunS (if d = true then m1 else m2) sd S' N R B C) = fun k S' => if k = true then RunS m1 sd S' N R B C else RunS m2 sd S' N R B C := by
    funext d S'
    cases d <;> rfl
  rw [e]
theorem runS_own {g : List SV → M (List D)} {i : Nat} : RunS (ownS i g) sd S N R B C ↔ Run (g sd) S fun ds S' => N (sd.set i (.own (.lst ds))) S' := by
  unfold ownS
  rw [runS_ex]
  exact Iff.rfl
theorem runS_tgt {g : List SV → M D} {t : Tgt} : RunS (asgS g t) sd S N R B C ↔ Run (g sd) S fun d S' => match t d sd S' with | some (sd2, S2) => N sd2 S2 | none => False := by
  unfold asgS
  rw [runS_ex]
  unfold Run
  rcases g sd S with _ | ⟨_ | d, S'⟩
  · exact Iff.rfl
  · exact Iff.rfl
  · unfold RunS
    simp only
    rcases t d sd S' with _ | ⟨sd2, S2⟩
    · exact Iff.rfl
    · exact Iff.rfl
theorem RunS.mono (h : RunS m1 sd S N R B C) (hN : ∀ sd S, N sd S → N' sd S) (hR : ∀ d S, R d S → R' d S) (hB : ∀ sd S, B sd S → B' sd S) (hC : ∀ sd S, C sd S → C' sd S) : RunS m1 sd S N' R' B' C' := by
  unfold RunS at h ⊢
  rcases e : m1 sd S with _ | ⟨_ | _ | _ | _ | _, S'⟩
  · rw [e] at h; exact h
  · rw [e] at h; exact hN _ _ h
  · rw [e] at h; exact hR _ _ h
  · rw [e] at h; exact hB _ _ h
  · rw [e] at h; exact hC _ _ h
  · rw [e] at h; exact h
theorem loop_rule {t : Tgt} {body : MS} (J : List D → List SV → List Ob → Prop) (step : ∀ d ds sd S, J (d :: ds) sd S → ∃ sd1 S1, t d sd S = some (sd1, S1) ∧ RunS body sd1 S1 (fun sd2 S2 => J ds sd2 S2) R (fun sd2 S2 => N sd2 S2) (fun sd2 S2 => J ds sd2 S2))
    (fin : ∀ sd S, J [] sd S → N sd S) : ∀ ds sd S, J ds sd S → RunS (loopS t body ds) sd S N R B C
  | [], sd, S, h => fin sd S h
  | d :: ds, sd, S, h => by
    obtain ⟨sd1, S1, e, hb⟩ := step d ds sd S h
    have ih := loop_rule J step fin ds
    unfold RunS at hb ⊢
    unfold loopS
    rw [e]
    simp only
    rcases hm : body sd1 S1 with _ | ⟨_ | _ | _ | _ | _, S'⟩
    · rw [hm] at hb; exact hb
    · rw [hm] at hb; exact ih _ _ hb
    · rw [hm] at hb; exact hb
    · rw [hm] at hb; exact hb
    · rw [hm] at hb; exact ih _ _ hb
    · rw [hm] at hb; exact hb
theorem runS_for {g : List SV → M (List D)} {t : Tgt} {body : MS} : RunS (forS g t body) sd S N R B C ↔ Run (g sd) S fun ds S' => RunS (loopS t body ds) sd S' N R B C := by
  unfold forS
  rw [runS_ex]
theorem iter_rule {c : List SV → M Bool} {body : MS} (J : Nat → List SV → List Ob → Prop) (step : ∀ n sd S, J n sd S → Run (c sd) S fun b S1 => if b = true then RunS body sd S1 (fun sd2 S2 => ∃ n', n' < n ∧ J n' sd2 S2) R N (fun sd2 S2 => ∃ n', n' < n ∧ J n' sd2 S2) else N sd S1) :
    ∀ fuel n sd S, n < fuel → J n sd S → RunS (iterS c body fuel) sd S N R B C
  | 0, n, sd, S, l, _ => absurd l (Nat.not_lt_zero n)
  | fuel + 1, n, sd, S, l, h => by
    unfold iterS
    rw [runS_ex]
    refine (step n sd S h).mono fun b S1 hb => ?_
    cases b with
    | false => exact hb
    | true =>
      simp only [if_true] at hb ⊢
      unfold RunS at hb ⊢
      dsimp only at hb ⊢
      rcases hm : body sd S1 with _ | ⟨_ | _ | _ | _ | _, S'⟩
      · simp only [hm] at hb ⊢
      · simp only [hm] at hb ⊢
        obtain ⟨n', l', h'⟩ := hb
        exact iter_rule J step fuel n' _ _ (by omega) h'
      · simp only [hm] at hb ⊢; exact hb
      · simp only [hm] at hb ⊢; exact hb
      · simp only [hm] at hb ⊢
        obtain ⟨n', l', h'⟩ := hb
        exact iter_rule J step fuel n' _ _ (by omega) h'
      · simp only [hm] at hb ⊢
theorem run_fn {m n : Nat} {ms : MS} {ds : List D} {Q : D → List Ob → Prop} : Run (runFn m n ms ds) S Q ↔ ds.length = m ∧ RunS ms (slots n (ds.map .val)) S (fun _ S' => Q .non S') Q (fun _ _ => False) (fun _ _ => False) := by
  unfold Run runFn RunS
  by_cases h : ds.length = m
  · simp only [h, if_true, true_and]
    rcases ms (slots n (ds.map .val)) S with _ | ⟨_ | _ | _ | _ | _, S'⟩ <;> exact Iff.rfl
  · simp only [h, if_false, false_and]
end
theorem getv_val {i : Nat} {sd : List SV} {d : D} (h : sd[i]? = some (.val d)) : getv i sd = M.pure d := by
  unfold getv
  rw [h]
theorem toB_bl (b : Bool) : toB (.bl b) = M.pure b := rfl
theorem add_int (i j : Int) : dAdd (.int i) (.int j) = M.pure (.int (i + j)) := rfl
theorem sub_int (i j : Int) : dSub (.int i) (.int j) = M.pure (.int (i - j)) := rfl
theorem mul_int {i j : Int} (h : mulOk i j = true) : dMul (.int i) (.int j) = M.pure (.int (i * j)) := by
  show (if mulOk i j = true then M.pure (D.int (i * j)) else M.stuck) = _
  rw [if_pos h]
theorem mod_int {i j : Int} (h : 0 < j) : dMod (.int i) (.int j) = M.pure (.int (i % j)) := by
  show (if 0 < j then M.pure (D.int (i % j)) else M.stuck) = _
  rw [if_pos h]
theorem fdiv_int {i j : Int} (h : divOk j = true) : dFdiv (.int i) (.int j) = M.pure (.int (i / j)) := by
  show (if divOk j = true then M.pure (D.int (i / j)) else M.stuck) = _
  rw [if_pos h]
theorem cmp_int (p : Int → Int → Bool) (i j : Int) : dCmpI p (.int i) (.int j) = M.pure (.bl (p i j)) := rfl
theorem int_int (i : Int) : dInt (.int i) = M.pure (.int i) := rfl
theorem ix_tup {ds : List D} {i : Int} {d : D} (h : atI ds i = some d) : dIx (.tup ds) (.int i) = M.pure d := by
  funext S
  show (match atI ds i with | some x => (some (Except.ok x, S) : Option (Except Exn D × List Ob)) | none => none) = _
  rw [h]
  rfl
theorem ix_lst {ds : List D} {i : Int} {d : D} (h : atI ds i = some d) : dIx (.lst ds) (.int i) = M.pure d := by
  funext S
  show (match atI ds i with | some x => (some (Except.ok x, S) : Option (Except Exn D × List Ob)) | none => none) = _
  rw [h]
  rfl
end Ev
set_option maxRecDepth 100000
set_option maxHeartbeats 2000000
namespace PySem.W
open PySem PyProof.Rows
section
variable {prog : Program} {w : World} {A : Around} {E : Value → Shared → Prop} {s : Shared} {K : Frag} {x y C : Addr} {h₀ : Heap} {ox oy : Obj} {od : Option Obj} {f : Addr}
theorem evx_ifB {M : Model} {name : Str} {id : String} {args : List Value} {Q : Option Value → Shared → Prop} (X : K.In s.heap) (I : InstAt s.heap x ox C od) (hs : findIn K (.ref C) name = some (some (.builtin id)))
    (hb : ∀ self, bindSpecial (.builtin id) self = pure (.builtin id, [self])) (h : wpAny M A (call (.builtin id) (.ref x :: args)) (fun v => Q (some v)) E s) : wpAny M A (callSpecialIfBound? (.ref x) name args) Q E s := by
  simp only [callSpecialIfBound?, bindSpecialIfBound?]
  refine wpAny_holding (wpAny_bind (wpAny_bind (wpAny_bind (I.type.here ((looks_findIn X hs).here ?_)))))
  refine wpAny_bind (wpAny_askSetting (wpAny_ite ?_))
  have fin : wpAny M A (call (.builtin id) ([.ref x] ++ args) >>= fun v => pure (some v)) Q E s := wpAny_bind (wpAny_mono h (fun v s' h' => wpAny_pure h') fun _ _ h' => h')
  split
  · exact wpAny_bind ((Looks.of_pure (hb _)).here (wpAny_pure (by exact fin)))
  · exact wpAny_tryCatch (wpAny_bind ((Looks.of_pure (hb _)).here (wpAny_pure (by exact fin))))
theorem evx_eq {Q : Value → Shared → Prop} (hu : A.units < cLine) (X : K.In s.heap) (I : InstAt s.heap x ox C od) (hy : s.heap.get? y = some oy) (hyc : oy.cls = .ref C)
    (hs : findIn K (.ref C) "__eq__" = some (some (.ref f))) (hf : isFn K (.ref f) = true)
    (h : wpAny (model prog w) A (call (.ref f) [.ref x, .ref y]) (fun v s' => ∃ b, v = .bool b ∧ Q (.bool b) s') E s) : wpAny (model prog w) A (compareOp .Eq (.ref x) (.ref y)) Q E s := by
  refine cmp_ofEq ?_
  unfold richCompare
  simp only [oneThing_ref]
  refine wpAny_holding (wpAny_bind (wpAny_cRoomFor hu ?_))
  refine wpAny_bind (I.type.here (wpAny_bind (wpAny_typeOf_ref hy ?_)))
  rw [hyc]
  rw [show (Value.ref C != Value.ref C) = false from by simp]
  simp only [Bool.false_eq_true, if_false]
  refine wpAny_bind (wpAny_pure ?_)
  simp only [Bool.false_eq_true, if_false]
  unfold tryCompare
  refine wpAny_bind (wpAny_bind (ifBound_K X I hs hf (wpAny_mono h (fun v s' hv => ?_) fun _ _ e => e)))
  obtain ⟨b, rfl, hq⟩ := hv
  exact wpAny_pure (wpAny_pure hq)
open Builtin in
theorem evx_ne {Q : Value → Shared → Prop} (hu : A.units < cLine) (hu1 : A.in1.units < cLine) (X : K.In s.heap) (I : InstAt s.heap x ox C od) (hy : s.heap.get? y = some oy) (hyc : oy.cls = .ref C)
    (hs : findIn K (.ref C) "__eq__" = some (some (.ref f))) (hf : isFn K (.ref f) = true) (hn : findIn K (.ref C) "__ne__" = some (some (.builtin "object.__ne__"))) (hm : mroIn K C (.type "object") = some true)
    (h : wpAny (model prog w) A.in1 (call (.ref f) [.ref x, .ref y]) (fun v s' => ∃ b, v = .bool b ∧ Q (.bool (!b)) s') E s) : wpAny (model prog w) A (compareOp .NotEq (.ref x) (.ref y)) Q E s := by
  refine cmp_ofNotEq ?_
  unfold richCompare
  simp only [oneThing_ref]
  refine wpAny_holding (wpAny_bind (wpAny_cRoomFor hu ?_))
  rw [cmpInfo_NotEq]
  dsimp only
  refine wpAny_bind (I.type.here (wpAny_bind (wpAny_typeOf_ref hy ?_)))
  rw [hyc]
  rw [show (Value.ref C != Value.ref C) = false from by simp]
  simp only [Bool.false_eq_true, if_false]
  refine wpAny_bind (wpAny_pure ?_)
  simp only [Bool.false_eq_true, if_false]
  unfold tryCompare
  have body : wpAny (model prog w) A.in1 (Builtin.«object.__ne__» ⟨[.ref x, .ref y], []⟩) (fun r s' => ∃ b, r = .done (.ret (.bool (!b))) ∧ Q (.bool (!b)) s') E s := by
    unfold Builtin.«object.__ne__»
    repeat (first
      | with_reducible refine wpAny_cRoomFor hu1 ?_
      | (refine wpAny_bind (m := callSpecialIfBound? (.ref x) (Str.ofString "__eq__") [.ref y])
          (ifBound_K X I hs hf (wpAny_mono h (fun r s' hr => by
            obtain ⟨b, rfl, hq⟩ := hr
            have hq : ∃ b', Fin.done (Flow.ret (.bool (!b))) = .done (.ret (.bool (!b'))) ∧ Q (.bool (!b')) s' := ⟨b, rfl, hq⟩
            repeat (first | exact hq | exact wpAny_pure hq | exact wpAny_truthy_bool hq | (refine wpAny_bind (m := truthy (.bool _)) (wpAny_truthy_bool ?_)) | wp_step)) fun _ _ e => e)))
      | wp_step)
  refine wpAny_bind (wpAny_bind (evx_ifB X I hn F.slot_object_ne.bind (wpAny_call (codeAny_call_builtin F.slot_object_ne.plain F.entry_object_ne (check_slot (i := "object.__ne__") (owner := "object") (n := "__ne__") (by decide +kernel) (by decide +kernel) (I.type.andThen (looks_mroIn X hm)) (F.cmpArgs_ne _ _) ?_)))))
  refine wpAny_mono body (fun r s' hr => ?_) fun _ _ e => e
  obtain ⟨b, rfl, hq⟩ := hr
  exact wpAny_pure (wpAny_pure hq)
end
end PySem.W
namespace Ev
open PySem PySem.Spec PyProof.Rows L2
section
variable {G : Sg} {X : Cx} {W : WX} {k n m j : Nat} {f C : Addr} {sem : List D → M D} {x y mm : Str} {p pos apos kpos : Pos} {e o fe : Expr} {es : List Expr} {kws : List Keyword} {ks : List Str} {fa fk : List SV → M (List D)} {ff g : List SV → M D} {σ : L2.St}
theorem run_in1 {pins : List (Addr × Obj)} {H : Hp} {s : Shared} {Q : VK} {E' : Value → Shared → Prop} {us : List Value} {vs : List V} (hr : Rm G.gd (k + 1) X.A) (F : FnX X G k f sem) (I : Inv X pins σ H s) (r : Vals vs us)
    (h : spV G sem vs H Q (fun _ _ _ => False)) : wpAny (model X.prog X.w) X.A.in1 (call (.ref f) us) (EP X pins σ Q) E' s := by
  have body := F.run X.A.in1 X.stack s H us vs Q (fun _ _ _ => False) hr.in1 I.env0.in1 r h
  refine wpAny_call (codeAny_mono body ?_)
  intro res s' hq
  rcases res with er | fl
  · obtain ⟨_, _, _, _, _, _, _, _, _, _, _, _, z⟩ := hq
    exact z.elim
  · cases fl with
    | ret u => exact I.after hq
    | next => exact hq.elim
    | brk => exact hq.elim
    | cont => exact hq.elim
structure EqT (X : Cx) (G : Sg) (k : Nat) (tbl : Nat → Option (List D → M D)) : Prop where
  at_ : ∀ c g, tbl c = some g → ∃ f, PySem.W.findIn X.K (.ref (G.ca c)) "__eq__" = some (some (.ref f)) ∧ PySem.W.isFn X.K (.ref f) = true ∧ PySem.W.findIn X.K (.ref (G.ca c)) "__ne__" = some (some (.builtin "object.__ne__")) ∧
    PySem.W.mroIn X.K (G.ca c) (.type "object") = some true ∧ FnX X G k f g
def ownEq (neg : Bool) (tbl : Nat → Option (List D → M D)) (d e : D) : M D := M.bind (pick tbl d) fun g => M.bind (clsOf d) fun c => M.bind (clsOf e) fun c' => if c = c' then M.bind (noErr (g [d, e])) fun r => M.bind (toB r) fun b => M.pure (.bl (neg != b)) else M.stuck
theorem EP.mono {pins : List (Addr × Obj)} {Q Q' : VK} {v : Value} {s : Shared} (h : EP X pins σ Q v s) (i : ∀ z H, Q z H → Q' z H) : EP X pins σ Q' v s := by
  obtain ⟨z, H, I, r, q⟩ := h
  exact ⟨z, H, I, r, i z H q⟩
theorem eq_both {op : CmpOp} {neg : Bool} {tbl : Nat → Option (List D → M D)} {pins : List (Addr × Obj)} {s : Shared} {Q : VK} (c : Ctx G X W k) (T : EqT X G k tbl) (hop : (op = .Eq ∧ neg = false) ∨ (op = .NotEq ∧ neg = true)) {u v : Value} {d d2 : D} {v1 v2 : V} {w2 : Wd} {S2 : List Ob} {Wx : Value → Option Addr → Hp → Prop}
    (I2 : Inv X pins σ w2.H s) (rv : RelV v1 v) (ru : RelV v2 u) (s2' : RepS G w2 S2) (rd : RepV G w2 d v1) (rd2 : RepV G w2 d2 v2) (q2 : FinG G (RepV G) Wx w2 Q (ownEq neg tbl d d2 S2)) :
    wpAny (model X.prog X.w) X.A (compareOp op v u) (EP X pins σ Q) X.xe s := by
  unfold ownEq at q2
  obtain ⟨cc, g, tg, q3, hc1, a1, dx1, fs1, rfl, hb1⟩ := pick_fin s2' rd q2
  obtain ⟨c1, q4, hc2, a2, dx2, fs2, e2, hb2⟩ := clsOf_fin s2' rd q3
  cases e2
  obtain ⟨c2, q5, hc3, a3, dx3, fs3, rfl, hb3⟩ := clsOf_fin s2' rd2 q4
  obtain ⟨ec, q6⟩ := FinG.ite q5
  subst ec
  have e12 : c1 = cc := by
    rw [hc1] at hc2
    cases hc2
    rfl
  subst e12
  obtain ⟨f, fi, isf, fn, hm, F⟩ := T.at_ c1 g tg
  cases (show v = Value.ref a1 from rv)
  cases (show u = Value.ref a3 from ru)
  obtain ⟨m1, O1, _⟩ := ins_get I2.hok hb1
  obtain ⟨od1, J1, _⟩ := O1.look
  obtain ⟨m3, O3, _⟩ := ins_get I2.hok hb3
  obtain ⟨od3, J3, _⟩ := O3.look
  have want : spV G g [.ref a1, .ref a3] w2.H (fun z H' => ∃ b, z = .bl b ∧ Q (.bl (neg != b)) H') (fun _ _ _ => False) := by
    refine ⟨w2, [d, d2], S2, rfl, s2', ⟨_, _, rfl, rd, _, _, rfl, rd2, rfl⟩, ?_⟩
    unfold M.bind noErr at q6
    rcases hg : g [d, d2] S2 with _ | ⟨_ | r, S3⟩
    · rw [hg] at q6; exact q6.elim
    · rw [hg] at q6; exact q6.elim
    · rw [hg] at q6
      intro w' z e s3 rz
      cases r with
      | bl b =>
        cases (show z = .bl b from rz)
        exact ⟨b, rfl, q6 w' _ e s3 rfl⟩
      | _ => exact q6.elim
  have hu := c.rm.room.units0
  rcases hop with ⟨rfl, rfl⟩ | ⟨rfl, rfl⟩
  · refine PySem.W.evx_eq hu I2.kIn J1 J3.at_ J3.cls fi isf ?_
    have lift : Rm G.gd k X.A := c.rm0
    have body := F.run X.A X.stack s w2.H [.ref a1, .ref a3] [.ref a1, .ref a3] _ (fun _ _ _ => False) lift I2.env0 (.cons rfl (.cons rfl .nil)) want
    refine wpAny_call (codeAny_mono body ?_)
    intro res s' hq
    rcases res with er | fl
    · obtain ⟨_, _, _, _, _, _, _, _, _, _, _, _, z⟩ := hq
      exact z.elim
    · cases fl with
      | ret u =>
        obtain ⟨z, H', I3, rz, b, rfl, hQ⟩ := I2.after hq
        cases (show u = Value.bool b from rz)
        refine ⟨b, rfl, .bl b, H', I3, rfl, ?_⟩
        simpa using hQ
      | next => exact hq.elim
      | brk => exact hq.elim
      | cont => exact hq.elim
  · have hu1 : X.A.in1.units < cLine := (c.rm.in1).room.units0
    refine PySem.W.evx_ne hu hu1 I2.kIn J1 J3.at_ J3.cls fi isf fn hm (wpAny_mono (run_in1 (us := [.ref a1, .ref a3]) (vs := [.ref a1, .ref a3]) c.rm F I2 (.cons rfl (.cons rfl .nil)) want) (fun u s' z => ?_) fun _ _ z => z)
    obtain ⟨z', H', I3, rz, b, rfl, hQ⟩ := z
    cases (show u = Value.bool b from rz)
    refine ⟨b, rfl, .bl (!b), H', I3, rfl, ?_⟩
    simpa using hQ
theorem o_ownEq {op : CmpOp} {neg : Bool} {tbl : Nat → Option (List D → M D)} (c : Ctx G X W k) (T : EqT X G k tbl) (hop : (op = .Eq ∧ neg = false) ∨ (op = .NotEq ∧ neg = true)) : OpR X (compareOp op) (rD2 G (ownEq neg tbl)) := by
  intro pins s σ H v1 v2 v u Q I rv ru ⟨Wx, w2, S2, d, d2, eH, s2, rd, rd2, q⟩
  subst eH
  exact eq_both c T hop I rv ru s2 rd rd2 q
def eqX (neg : Bool) (tbl : Nat → Option (List D → M D)) (d e : D) : M D := if isObj d = true then ownEq neg tbl d e else dEq neg d e
theorem o_eqX {tbl : Nat → Option (List D → M D)} (c : Ctx G X W k) (T : EqT X G k tbl) : OpR X (compareOp .Eq) (rD2 G (eqX false tbl)) := by
  refine OpR.imp ((o_ownEq c T (.inl ⟨rfl, rfl⟩)).or (o_eq c.cK c.rm)) fun v u H Q q => ?_
  obtain ⟨Wx, w2, S2, d, d2, eH, s2, rd, rd2, q⟩ := q
  unfold eqX at q
  by_cases h : isObj d = true
  · rw [if_pos h] at q
    exact .inl ⟨Wx, w2, S2, d, d2, eH, s2, rd, rd2, q⟩
  · rw [if_neg h] at q
    exact .inr ⟨Wx, w2, S2, d, d2, eH, s2, rd, rd2, q⟩
theorem o_neX {tbl : Nat → Option (List D → M D)} (c : Ctx G X W k) (T : EqT X G k tbl) : OpR X (compareOp .NotEq) (rD2 G (eqX true tbl)) := by
  refine OpR.imp ((o_ownEq c T (.inr ⟨rfl, rfl⟩)).or (o_ne c.cK c.rm)) fun v u H Q q => ?_
  obtain ⟨Wx, w2, S2, d, d2, eH, s2, rd, rd2, q⟩ := q
  unfold eqX at q
  by_cases h : isObj d = true
  · rw [if_pos h] at q
    exact .inl ⟨Wx, w2, S2, d, d2, eH, s2, rd, rd2, q⟩
  · rw [if_neg h] at q
    exact .inr ⟨Wx, w2, S2, d, d2, eH, s2, rd, rd2, q⟩
end
end Ev
set_option maxRecDepth 100000
set_option maxHeartbeats 2000000
namespace Ev
open PySem PySem.Spec PyProof.Rows L2
structure ClK (P : Program) (w : World) (K : PySem.W.Frag) (mg : Str → Option Value) (base : Heap) (G : Sg) (k c m : Nat) (ks : List Str) (sem : List D → M D) : Prop where
  ex : ∃ f, Mk K (G.ca c) f ∧ ∀ (A : Around) (fr : List Env) (s : Shared) (H : Hp) (us ws : List Value) (vs zs : List V) (Q : VK) (E : XK), Rm G.gd k A → Env0 P w K mg base A fr s H → Vals vs us → Vals zs ws → vs.length = m + 1 → zs.length = ks.length →
    spN G c sem (vs ++ zs) H Q E → codeAny (model P w) A (.call (.ref f) ⟨us, ks.zip ws⟩) (CR (L2.CX P w) fr P w H s Q E) s
theorem ClK.mono {P : Program} {w : World} {K : PySem.W.Frag} {mg : Str → Option Value} {base : Heap} {G : Sg} {j k c m : Nat} {ks : List Str} {sem : List D → M D} (F : ClK P w K mg base G j c m ks sem) (h : j ≤ k) : ClK P w K mg base G k c m ks sem :=
  ⟨let ⟨f, M, g⟩ := F.ex; ⟨f, M, fun A fr s H us ws vs zs Q E hr => g A fr s H us ws vs zs Q E (hr.mono h)⟩⟩
section
variable {G : Sg} {X : Cx} {W : WX} {k n m j c : Nat} {f C : Addr} {sem : List D → M D} {x y mm : Str} {p pos apos kpos : Pos} {e o fe : Expr} {es : List Expr} {kws : List Keyword} {ks : List Str} {fa fk : List SV → M (List D)} {ff g : List SV → M D} {σ : L2.St}
theorem ClK.call (cx : Ctx G X W k) (F : ClK X.prog X.w X.K X.mg X.base G k c m ks sem) : CallK G X W (G.ca c) m ks sem := by
  obtain ⟨f, M, g⟩ := F.ex
  refine ⟨M.kp, fun pins σ H s Q us ws vs zs I r r2 l1 l2 h => ?_⟩
  have J := Inv.made (C := G.ca c) I
  have body := g _ X.stack _ _ (Value.ref (s.heap.objs.size + 1) :: us) ws (V.ref (s.heap.objs.size + 1) :: vs) zs _ _ (cx.rm.make (G.ca c) us (ks.zip ws)) (J.env0.make (G.ca c) us (ks.zip ws)) (.cons rfl r) r2 (by rw [List.length_cons, l1]) l2
    ⟨_, _, vs ++ zs, H, Q, rfl, rfl, I.hok.fresh (Nat.le_succ _), I.hok.fresh (Nat.le_refl _), Nat.ne_of_lt (Nat.lt_succ_self s.heap.objs.size), rfl, h⟩
  refine wpAny_call (make_map (f := f) I.kIn M.makes M.init (beq_iff_eq.mp M.fn) (codeAny_mono body ?_))
  rintro (er | fl) s' got
  · exact cx.px σ pins _ _ er s' J got
  · cases fl with
    | ret u =>
      obtain ⟨v, H', J2, rv, rfl, q3⟩ := J.after got
      exact ⟨rv, V.ref (s.heap.objs.size + 1), H', J2, rfl, q3⟩
    | next => exact got.elim
    | brk => exact got.elim
    | cont => exact got.elim
theorem methk_tree {env : Env} {m : Str} {args : List Expr} (hb : plainBase o = true) (hs : args.all notStar = true) (hall : (backToKw pos (keywordEach kws env)).all (·.1.isSome) = true) (hl : args.length + kws.length + 1 < 30) (hp : (apos.endLine == pos.line) = true) :
    eval (.Call (.Attribute o m apos) args kws pos) env = (do
      let ov ← eval o env
      standAt apos.atName
      let (f, first) ← holding [ov] (getMethod ov m (do return (← importBound o env).getD true))
      callWith pos f first (backTo pos (starEach args env)) (backToKw pos (keywordEach kws env))) := by
  have e1 : eval (.Call (.Attribute o m apos) args kws pos) env = (do
      let ov ← attributeBase o m env (eval o env)
      standAt apos.atName
      methodCall o m apos pos env ov (args.length + kws.length) (backTo pos (starEach args env)) (backToKw pos (keywordEach kws env))) := rfl
  have few : methodCallForm (args.length + kws.length) (backTo pos (starEach args env)) (backToKw pos (keywordEach kws env)) = true := by
    unfold methodCallForm
    rw [star_form hs, hall]
    show (true && true && decide (args.length + kws.length + (if (backToKw pos (keywordEach kws env)).isEmpty then 0 else 1) < 30)) = true
    rw [decide_eq_true (by split <;> omega)]
    rfl
  rw [e1, attr_base hb]
  unfold methodCall
  rw [few]
  have mp : methodCallPos true o env apos pos = (pure pos : Sem Pos) := by
    unfold methodCallPos
    rw [hp]
    rfl
  rw [mp]
  rfl
end
end Ev
set_option maxRecDepth 100000
set_option maxHeartbeats 2000000
namespace Ev
open PySem PySem.Spec PyProof.Rows L2
section
variable {G : Sg} {X : Cx} {W : WX} {k j : Nat} {f : Addr} {sem : List D → M D} {σ : L2.St}
theorem run_text {A : Around} {pins : List (Addr × Obj)} {H : Hp} {s : Shared} {Q : VK} {E' : Value → Shared → Prop} {us : List Value} {vs : List V} (hr : Rm G.gd j A) (e0 : Env0 X.prog X.w X.K X.mg X.base A X.stack s H) (F : FnX X G j f sem) (I : Inv X pins σ H s) (r : Vals vs us)
    (h : spV G sem vs H (fun z H' => (∃ y, z = .str y) ∧ Q z H') (fun _ _ _ => False)) : wpAny (model X.prog X.w) A (call (.ref f) us) (PySem.W.StrBack (EP X pins σ Q)) E' s := by
  have body := F.run A X.stack s H us vs _ (fun _ _ _ => False) hr e0 r h
  refine wpAny_call (codeAny_mono body ?_)
  intro res s' hq
  rcases res with er | fl
  · obtain ⟨_, _, _, _, _, _, _, _, _, _, _, _, z⟩ := hq
    exact z.elim
  · cases fl with
    | ret u =>
      obtain ⟨z, H', I3, rz, ⟨y, rfl⟩, hQ⟩ := I.after hq
      obtain ⟨t, rfl⟩ := (show ∃ t, u = Value.str y t from rz)
      exact ⟨.str y, H', I3, ⟨t, rfl⟩, hQ⟩
    | next => exact hq.elim
    | brk => exact hq.elim
    | cont => exact hq.elim
structure TxT (X : Cx) (G : Sg) (j : Nat) (nm : Str) (tbl : Nat → Option (List D → M D)) : Prop where
  at_ : ∀ c g, tbl c = some g → ∃ f, PySem.W.findIn X.K (.ref (G.ca c)) nm = some (some (.ref f)) ∧ PySem.W.isFn X.K (.ref f) = true ∧ PySem.W.findIn X.K (.ref (G.ca c)) "__format__" = some (some (.builtin "object.__format__")) ∧
    PySem.W.mroIn X.K (G.ca c) (.type "object") = some true ∧ FnX X G j f g
def ownTx (tbl : Nat → Option (List D → M D)) (d : D) : M D := M.bind (pick tbl d) fun g => M.bind (noErr (g [d])) fun r => M.bind (isStr r) fun y => M.pure (.str y)
theorem ownTx_sp {nm : Str} {tbl : Nat → Option (List D → M D)} {w : Wd} {S : List Ob} {d : D} {v : V} {Q : VK} {Wx : Value → Option Addr → Hp → Prop} (T : TxT X G j nm tbl) (st : RepS G w S) (rd : RepV G w d v) (q : FinG G (RepV G) Wx w Q (ownTx tbl d S)) :
    ∃ c a dx fs f g, v = .ref a ∧ w.H a = some (.ins (G.ca c) dx fs) ∧ PySem.W.findIn X.K (.ref (G.ca c)) nm = some (some (.ref f)) ∧ PySem.W.isFn X.K (.ref f) = true ∧ PySem.W.findIn X.K (.ref (G.ca c)) "__format__" = some (some (.builtin "object.__format__")) ∧
      PySem.W.mroIn X.K (G.ca c) (.type "object") = some true ∧ FnX X G j f g ∧ spV G g [.ref a] w.H (fun z H' => (∃ y, z = .str y) ∧ Q z H') (fun _ _ _ => False) := by
  unfold ownTx at q
  obtain ⟨cc, g, tg, q3, hc1, a1, dx1, fs1, rfl, hb1⟩ := pick_fin st rd q
  obtain ⟨f, h1, h2, h3, h4, F⟩ := T.at_ cc g tg
  refine ⟨cc, a1, dx1, _, f, g, rfl, hb1, h1, h2, h3, h4, F, w, [d], S, rfl, st, ⟨_, _, rfl, rd, rfl⟩, ?_⟩
  unfold M.bind noErr at q3
  rcases hg : g [d] S with _ | ⟨_ | r, S3⟩
  · rw [hg] at q3; exact q3.elim
  · rw [hg] at q3; exact q3.elim
  · rw [hg] at q3
    intro w' z e s3 rz
    cases r with
    | str y =>
      cases (show z = .str y from rz)
      exact ⟨⟨y, rfl⟩, q3 w' _ e s3 rfl⟩
    | _ => exact q3.elim
def strX (tbl : Nat → Option (List D → M D)) (d : D) : M D := if isObj d = true then ownTx tbl d else dStr d
theorem c_strX {tbl : Nat → Option (List D → M D)} (c : Ctx G X W k) (hj : j + 1 ≤ k) (T : TxT X G j "__str__" tbl) : CallR X (.type "str") (rDs G (on1 (strX tbl))) := by
  intro pins s σ H xs us Q I rx h
  obtain ⟨Wx, w, S, d, v, rfl, st, rfl, r, q⟩ := on1_of h
  unfold strX at q
  by_cases ho : isObj d = true
  · rw [if_pos ho] at q
    obtain ⟨cc, a, dx, fs, f, g, rfl, ha, h1, h2, _, _, F, sp⟩ := ownTx_sp T st r q
    obtain ⟨u, rfl, ru⟩ := rx.one
    cases (show u = Value.ref a from ru)
    obtain ⟨m1, O1, _⟩ := ins_get I.hok ha
    obtain ⟨od1, J1, _⟩ := O1.look
    have r2 : Rm G.gd j X.A.in1.in1 := ((c.rm.mono (show j + 2 ≤ k + 1 by omega)).in1).in1
    exact PySem.W.kso_call r2.room.units0 I.kIn J1 h1 h2 (run_text (us := [.ref a]) (vs := [.ref a]) r2 I.env0.in1.in1 F I (.cons rfl .nil) sp)
  · rw [if_neg ho] at q
    exact c_str pins s σ w.H _ us Q I rx ⟨Wx, w, S, [d], rfl, st, ⟨_, _, rfl, r, rfl⟩, q⟩
def reprX (tbl : Nat → Option (List D → M D)) (d : D) : M D := if isObj d = true then ownTx tbl d else dRepr d
theorem c_reprX {tbl : Nat → Option (List D → M D)} (c : Ctx G X W k) (T : TxT X G k "__repr__" tbl) (hg : G.gd = true := by rfl) : CallR X (.builtin "repr") (rDs G (on1 (reprX tbl))) := by
  intro pins s σ H xs us Q I rx h
  obtain ⟨Wx, w, S, d, v, rfl, st, rfl, r, q⟩ := on1_of h
  unfold reprX at q
  by_cases ho : isObj d = true
  · rw [if_pos ho] at q
    obtain ⟨cc, a, dx, fs, f, g, rfl, ha, h1, h2, _, _, F, sp⟩ := ownTx_sp T st r q
    obtain ⟨u, rfl, ru⟩ := rx.one
    cases (show u = Value.ref a from ru)
    obtain ⟨m1, O1, _⟩ := ins_get I.hok ha
    obtain ⟨od1, J1, _⟩ := O1.look
    obtain ⟨m, hF⟩ := I.fr
    exact PySem.W.repr_K (c.rm.in1).room.units0 hF I.ok.mod.kin J1 h1 h2 (run_text (us := [.ref a]) (vs := [.ref a]) c.rm.in1 I.env0.in1 F I (.cons rfl .nil) sp)
  · rw [if_neg ho] at q
    exact c_repr c.cK c.rm hg pins s σ w.H _ us Q I rx ⟨Wx, w, S, [d], rfl, st, ⟨_, _, rfl, r, rfl⟩, q⟩
def fmtX (tbl : Nat → Option (List D → M D)) (d : D) : M D := if isObj d = true then ownTx tbl d else dFmt d
theorem v_fmtX {e : Expr} {fe : List SV → M D} {pos : Pos} {tbl : Nat → Option (List D → M D)} (c : Ctx G X W k) (T : TxT X G k "__str__" tbl) (he : PV G X W e fe) : PV G X W (.FormattedValue e (-1) none pos) (fun sd => M.bind (fe sd) (fmtX tbl)) := by
  constructor
  intro pins s σ H Q I ⟨w0, w, sd, S, eH, r, q⟩
  refine wpAny_FormattedValue_plain (thn (he.run pins s σ H (fun v H1 => ∃ w1 S1 d, w1.H = H1 ∧ RepS G w1 S1 ∧ RepV G w1 d v ∧ FinG G (RepV G) (fun c x H => W c x σ H) w1 Q (fmtX tbl d S1)) I ?_) ?_)
  · exact ⟨w0, w, sd, S, eH, r, fin_step q fun w1 S1 d v e1 s1 rv q1 => ⟨w1, S1, d, rfl, s1, rv, q1⟩⟩
  · rintro u s1 ⟨v, H1, I1, rv, w1, S1, d, rfl, st, rd, q1⟩
    unfold fmtX at q1
    by_cases ho : isObj d = true
    · rw [if_pos ho] at q1
      obtain ⟨cc, a, dx, fs, f, g, rfl, ha, h1, h2, h3, h4, F, sp⟩ := ownTx_sp T st rd q1
      cases (show u = Value.ref a from rv)
      obtain ⟨m1, O1, _⟩ := ins_get I1.hok ha
      obtain ⟨od1, J1, _⟩ := O1.look
      have I2 := I1.tok (s1.toks + 1)
      exact PySem.W.kfo_fieldS (c.rm.in1).room.units0 I1.kIn J1 h3 h4 h1 h2 (run_text (us := [.ref a]) (vs := [.ref a]) c.rm.in1 I2.env0.in1 F I2 (.cons rfl .nil) sp)
    · rw [if_neg ho] at q1
      cases d with
      | str x =>
        obtain ⟨cc, q2⟩ := FinG.ite q1
        cases (show v = .str x from rd)
        obtain ⟨t, rfl⟩ := (show ∃ t, u = Value.str x t from rv)
        have hQ : Q (.str x) w1.H := fin_pure q2 st rfl
        exact wpAny_formatField_str ⟨.str x, w1.H, I1, ⟨t, rfl⟩, hQ⟩ ⟨.str x, w1.H, I1.tok _, ⟨_, rfl⟩, hQ⟩ (by rw [← lim_eq]; exact cc)
      | int i =>
        obtain ⟨cc, q2⟩ := FinG.ite q1
        cases (show v = .int i from rd)
        obtain ⟨t, rfl⟩ := (show ∃ t, u = Value.int i t from rv)
        have hQ : Q (.str (toString i)) w1.H := fin_pure q2 st rfl
        exact wpAny_formatField_int (of_decide_eq_true cc) ⟨.str (toString i), w1.H, I1.tok _, ⟨_, rfl⟩, hQ⟩
      | _ => exact q1.elim
end
end Ev
set_option maxRecDepth 100000
set_option maxHeartbeats 2000000
namespace Ev
open PySem PySem.Spec PyProof.Rows L2 PySem.W NdefX
theorem FnS.mono {P : Program} {w : World} {K : Frag} {mg : Str → Option Value} {base : Heap} {b : Bool} {j k : Nat} {f : Addr} {sp : Sp} (F : FnS P w K mg base b j f sp) (h : j ≤ k) : FnS P w K mg base b k f sp := fun A fr s H us vs Q E hr => F A fr s H us vs Q E (hr.mono h)
end Ev
set_option maxRecDepth 100000
set_option maxHeartbeats 2000000
namespace Ev
open PySem L2
@[irreducible] def Bd (k : Nat) (x : Int) : Prop := x.natAbs < 2 ^ k
theorem Bd.nat {k : Nat} {x : Int} (h : Bd k x) : x.natAbs < 2 ^ k := by
  unfold Bd at h
  exact h
theorem Bd.mk {k : Nat} {x : Int} (h : x.natAbs < 2 ^ k) : Bd k x := by
  unfold Bd
  exact h
theorem Bd.mono {j k : Nat} {x : Int} (h : Bd j x) (l : j ≤ k) : Bd k x := .mk (Nat.lt_of_lt_of_le h.nat (Nat.pow_le_pow_right (by decide) l))
theorem Bd.mul {j k : Nat} {x y : Int} (h : Bd j x) (l : Bd k y) : Bd (j + k) (x * y) := by
  unfold Bd at *
  rw [Int.natAbs_mul, Nat.pow_add]
  have p : 0 < 2 ^ k := Nat.pow_pos (by decide)
  calc x.natAbs * y.natAbs ≤ x.natAbs * 2 ^ k := Nat.mul_le_mul_left _ (Nat.le_of_lt l)
    _ < 2 ^ j * 2 ^ k := Nat.mul_lt_mul_of_pos_right h p
theorem Bd.add {j k : Nat} {x y : Int} (h : Bd j x) (l : Bd k y) : Bd (j + k + 1) (x + y) := by
  have a := Bd.mono h (show j ≤ j + k by omega)
  have b := Bd.mono l (show k ≤ j + k by omega)
  unfold Bd at *
  rw [Nat.pow_succ]
  omega
theorem Bd.sub {j k : Nat} {x y : Int} (h : Bd j x) (l : Bd k y) : Bd (j + k + 1) (x - y) := by
  have a := Bd.mono h (show j ≤ j + k by omega)
  have b := Bd.mono l (show k ≤ j + k by omega)
  unfold Bd at *
  rw [Nat.pow_succ]
  omega
theorem Bd.neg {j : Nat} {x : Int} (h : Bd j x) : Bd j (-x) := by
  unfold Bd at *
  omega
theorem Bd.of64 {x : Int} (h : -18446744073709551616 < x) (l : x < 18446744073709551616) : Bd 64 x := by
  unfold Bd
  omega
theorem Bd.of128 {x : Int} (h : -340282366920938463463374607431768211456 < x) (l : x < 340282366920938463463374607431768211456) : Bd 128 x := by
  unfold Bd
  omega
theorem Bd.ediv {j : Nat} {x y : Int} (h : Bd j x) : Bd j (x / y) := by
  unfold Bd at *
  have := Int.natAbs_ediv_le_natAbs x y
  omega
theorem Bd.emod {j : Nat} {x y : Int} (h : Bd j y) (p : 0 < y) : Bd j (x % y) := by
  unfold Bd at *
  have a := Int.emod_nonneg x (show y ≠ 0 by omega)
  have b := Int.emod_lt_of_pos x p
  omega
theorem Bd.abs {j : Nat} {x : Int} (h : Bd j x) : Bd j (x.natAbs : Int) := by
  unfold Bd at *
  omega
theorem bd_bits {k : Nat} {x : Int} (h : PySem.Builtin.Int.intBits x ≤ k) : Bd k x := by
  unfold Bd
  unfold PySem.Builtin.Int.intBits at h
  by_cases z : x = 0
  · subst z
    exact Nat.pow_pos (by decide)
  · have e : (x == 0) = false := by simpa using z
    rw [e] at h
    simp only [Bool.false_eq_true, if_false] at h
    exact (Nat.log2_lt (by omega)).mp (by omega)
theorem mulOk_bd {j k : Nat} {x y : Int} (h : Bd j x) (l : Bd k y) (c : j + k ≤ 134217728) : mulOk x y = true := mulOk_by h.nat l.nat c
theorem divOk_bd {j : Nat} {x : Int} (p : 0 < x) (h : Bd j x) (c : j ≤ 9000) : divOk x = true := by
  unfold divOk
  rw [Bool.and_eq_true]
  refine ⟨decide_eq_true p, decide_eq_true ?_⟩
  have := (Nat.log2_lt (by omega)).mpr h.nat
  omega
@[irreducible] def Wp {α : Type} (f : M α) (S : List Ob) (P : α → List Ob → Prop) : Prop := Run f S P
@[irreducible] def Ws (f : MS) (sd : List SV) (S : List Ob) (N : List SV → List Ob → Prop) (R : D → List Ob → Prop) (B C : List SV → List Ob → Prop) : Prop := RunS f sd S N R B C
theorem wp_run {α : Type} {f : M α} {S : List Ob} {P : α → List Ob → Prop} : Wp f S P ↔ Run f S P := by unfold Wp; exact Iff.rfl
theorem ws_run {f : MS} {sd : List SV} {S : List Ob} {N : List SV → List Ob → Prop} {R : D → List Ob → Prop} {B C : List SV → List Ob → Prop} : Ws f sd S N R B C ↔ RunS f sd S N R B C := by unfold Ws; exact Iff.rfl
theorem Wp.run {α : Type} {f : M α} {S : List Ob} {P : α → List Ob → Prop} (h : Wp f S P) : Run f S P := wp_run.mp h
theorem Run.wp {α : Type} {f : M α} {S : List Ob} {P : α → List Ob → Prop} (h : Run f S P) : Wp f S P := wp_run.mpr h
theorem Ws.run {f : MS} {sd : List SV} {S : List Ob} {N : List SV → List Ob → Prop} {R : D → List Ob → Prop} {B C : List SV → List Ob → Prop} (h : Ws f sd S N R B C) : RunS f sd S N R B C := ws_run.mp h
theorem RunS.ws {f : MS} {sd : List SV} {S : List Ob} {N : List SV → List Ob → Prop} {R : D → List Ob → Prop} {B C : List SV → List Ob → Prop} (h : RunS f sd S N R B C) : Ws f sd S N R B C := ws_run.mpr h
theorem Wp.mono {α : Type} {f : M α} {S : List Ob} {P P' : α → List Ob → Prop} (h : Wp f S P) (i : ∀ a S', P a S' → P' a S') : Wp f S P' := (h.run.mono i).wp
theorem Ws.mono {m : MS} {sd : List SV} {S : List Ob} {N N' : List SV → List Ob → Prop} {R R' : D → List Ob → Prop} {B B' C C' : List SV → List Ob → Prop} (h : Ws m sd S N R B C) (hN : ∀ sd S, N sd S → N' sd S) (hR : ∀ d S, R d S → R' d S) (hB : ∀ sd S, B sd S → B' sd S) (hC : ∀ sd S, C sd S → C' sd S) : Ws m sd S N' R' B' C' := (h.run.mono hN hR hB hC).ws
theorem Wp.ex {α : Type} {f : M α} {S : List Ob} {P : α → List Ob → Prop} (h : Wp f S P) : ∃ a S', f S = some (.ok a, S') ∧ P a S' := h.run.ex
theorem pure_wp {α : Type} {f : M α} {r : α} (h : ∀ S, Wp f S fun d S' => d = r ∧ S' = S) : f = M.pure r := pure_of fun S => (h S).run
section
variable {α β : Type} {f : M α} {S : List Ob} {P : α → List Ob → Prop} {PD : D → List Ob → Prop} {sd : List SV} {N : List SV → List Ob → Prop} {R : D → List Ob → Prop} {B C : List SV → List Ob → Prop} {m1 m2 : MS}
theorem go_bind {k : α → M β} {Q : β → List Ob → Prop} (h : Wp f S fun a S' => Wp (k a) S' Q) : Wp (M.bind f k) S Q := wp_run.mpr (run_bind.mpr (h.run.mono fun _ _ h => h.run))
theorem go_pure {a : α} (h : P a S) : Wp (M.pure a) S P := wp_run.mpr h
theorem go_get {i : Nat} {d : D} (e : sd[i]? = some (.val d)) (h : PD d S) : Wp (getv i sd) S PD := by rw [getv_val e]; exact wp_run.mpr h
theorem go_ite {c : Prop} [Decidable c] {g : M α} (h : if c then Wp f S P else Wp g S P) : Wp (if c then f else g) S P := by split <;> rename_i c' <;> simpa only [c', if_true, if_false] using h
theorem go_noErr (h : Wp f S P) : Wp (noErr f) S P := wp_run.mpr (run_noErr.mpr h.run)
theorem go_val {r : α} (e : f = M.pure r) (h : P r S) : Wp f S P := by subst e; exact wp_run.mpr h
theorem go_use {P' : α → List Ob → Prop} (h : Wp f S P') (i : ∀ a S', P' a S' → P a S') : Wp f S P := h.mono i
theorem gs_next (h : N sd S) : Ws nextS sd S N R B C := ws_run.mpr h
theorem gs_seq (h : Ws m1 sd S (fun sd' S' => Ws m2 sd' S' N R B C) R B C) : Ws (seqS m1 m2) sd S N R B C := ws_run.mpr (runS_seq.mpr (h.run.mono (fun _ _ h => h.run) (fun _ _ h => h) (fun _ _ h => h) (fun _ _ h => h)))
theorem gs_ret {g : List SV → M D} (h : Wp (g sd) S R) : Ws (retS g) sd S N R B C := ws_run.mpr (runS_ret.mpr h.run)
theorem gs_retN (h : R .non S) : Ws (fun _ S => some (.ret .non, S)) sd S N R B C := ws_run.mpr h
theorem gs_brk (h : B sd S) : Ws (fun sd S => some (.brk sd, S)) sd S N R B C := ws_run.mpr h
theorem gs_cont (h : C sd S) : Ws (fun sd S => some (.cont sd, S)) sd S N R B C := ws_run.mpr h
theorem gs_asg {g : List SV → M D} {i : Nat} (h : Wp (g sd) S fun d S' => N (sd.set i (.val d)) S') : Ws (asgS g (setT i)) sd S N R B C := ws_run.mpr (runS_asg.mpr h.run)
theorem gs_tgt {g : List SV → M D} {t : Tgt} (h : Wp (g sd) S fun d S' => match t d sd S' with | some (sd2, S2) => N sd2 S2 | none => False) : Ws (asgS g t) sd S N R B C := ws_run.mpr (runS_tgt.mpr h.run)
theorem gs_par {g : List SV → M (List D)} {i j : Nat} (h : Wp (g sd) S fun ds S' => match ds with | [a, b] => N ((sd.set i (.val a)).set j (.val b)) S' | _ => False) : Ws (parS i j g) sd S N R B C := ws_run.mpr (runS_par.mpr h.run)
theorem gs_if {g : List SV → M Bool} (h : Wp (g sd) S fun k S' => if k = true then Ws m1 sd S' N R B C else Ws m2 sd S' N R B C) : Ws (exS g fun k => if k = true then m1 else m2) sd S N R B C := ws_run.mpr (runS_if.mpr (h.run.mono fun k _ h => by cases k <;> exact Ws.run h))
theorem gs_own {g : List SV → M (List D)} {i : Nat} (h : Wp (g sd) S fun ds S' => N (sd.set i (.own (.lst ds))) S') : Ws (ownS i g) sd S N R B C := ws_run.mpr (runS_own.mpr h.run)
theorem gs_for {g : List SV → M (List D)} {t : Tgt} {body : MS} (h : Wp (g sd) S fun ds S' => Ws (loopS t body ds) sd S' N R B C) : Ws (forS g t body) sd S N R B C := ws_run.mpr (runS_for.mpr (h.run.mono fun _ _ h => h.run))
theorem gs_expr {g : List SV → M α} (h : Wp (g sd) S fun _ S' => N sd S') : Ws (exS g fun _ => nextS) sd S N R B C := by
  refine ws_run.mpr ?_
  rw [runS_ex]
  exact h.run
theorem gs_app {g : List SV → M D} {i : Nat} {ds : List D} (e : sd[i]? = some (.own (.lst ds))) (l : ds.length < lim) (h : Wp (g sd) S fun d S' => N (sd.set i (.own (.lst (ds ++ [d])))) S') : Ws (appS i g) sd S N R B C := by
  have z : appS i g sd S = exS g (fun d sd S => some (.next (sd.set i (.own (.lst (ds ++ [d])))), S)) sd S := by
    unfold appS
    rw [e]
    simp only [l, if_true]
  refine ws_run.mpr ?_
  unfold RunS
  rw [z]
  exact (runS_ex (k := fun d sd S => some (.next (sd.set i (.own (.lst (ds ++ [d])))), S))).mpr h.run
theorem gs_frz {i : Nat} {o : Ob} (e : sd[i]? = some (.own o)) (h : N (sd.set i (.val (frzO o))) S) : Ws (frzS i) sd S N R B C := by
  refine ws_run.mpr ?_
  unfold RunS frzS
  rw [e]
  exact h
theorem go_fn {m n : Nat} {ms : MS} {ds : List D} (l : ds.length = m) (h : Ws ms (slots n (ds.map .val)) S (fun _ S' => PD .non S') PD (fun _ _ => False) (fun _ _ => False)) : Wp (runFn m n ms ds) S PD := wp_run.mpr (run_fn.mpr ⟨l, h.run⟩)
theorem gs_loop {t : Tgt} {body : MS} (J : List D → List SV → List Ob → Prop) (step : ∀ d ds sd S, J (d :: ds) sd S → ∃ sd1 S1, t d sd S = some (sd1, S1) ∧ Ws body sd1 S1 (fun sd2 S2 => J ds sd2 S2) R (fun sd2 S2 => N sd2 S2) (fun sd2 S2 => J ds sd2 S2))
    (fin : ∀ sd S, J [] sd S → N sd S) (ds : List D) (sd : List SV) (S : List Ob) (h : J ds sd S) : Ws (loopS t body ds) sd S N R B C :=
  ws_run.mpr (loop_rule J (fun d ds sd S h => let ⟨a, b, c, e⟩ := step d ds sd S h; ⟨a, b, c, e.run⟩) fin ds sd S h)
theorem gs_iter {c : List SV → M Bool} {body : MS} (J : Nat → List SV → List Ob → Prop) (step : ∀ n sd S, J n sd S → Wp (c sd) S fun b S1 => if b = true then Ws body sd S1 (fun sd2 S2 => ∃ n', n' < n ∧ J n' sd2 S2) R N (fun sd2 S2 => ∃ n', n' < n ∧ J n' sd2 S2) else N sd S1)
    (n : Nat) (sd : List SV) (S : List Ob) (l : n < bigW) (h : J n sd S) : Ws (whileS c body) sd S N R B C :=
  ws_run.mpr (iter_rule J (fun n sd S h => (step n sd S h).run.mono fun b _ h => by cases b <;> first | exact h | exact Ws.run h) bigW n sd S l h)
theorem ite_d {p : Prop} [Decidable p] {X Y : Prop} (h : p → X) (l : ¬p → Y) : if decide p = true then X else Y := by
  by_cases c : p
  · rw [if_pos (decide_eq_true c)]; exact h c
  · rw [if_neg (by simpa using c)]; exact l c
theorem ite_dt {p : Prop} [Decidable p] {X Y : Prop} (c : p) (h : X) : if decide p = true then X else Y := by
  rw [if_pos (decide_eq_true c)]; exact h
theorem ite_df {p : Prop} [Decidable p] {X Y : Prop} (c : ¬p) (h : Y) : if decide p = true then X else Y := by
  rw [if_neg (by simpa using c)]; exact h
theorem ite_t {X Y : Prop} (h : X) : if true = true then X else Y := h
theorem ite_f {X Y : Prop} (h : Y) : if false = true then X else Y := h
theorem ite_n {b : Bool} {X Y : Prop} (h : if b = true then Y else X) : if (!b) = true then X else Y := by
  cases b <;> exact h
theorem p_toB {b : Bool} {P : Bool → List Ob → Prop} (h : P b S) : Wp (toB (.bl b)) S P := wp_run.mpr h
theorem p_toI {i : Int} {P : Option Int → List Ob → Prop} (h : P (some i) S) : Wp (toI (.int i)) S P := wp_run.mpr h
theorem p_on1 {g : D → M D} {d : D} (h : Wp (g d) S PD) : Wp (on1 g [d]) S PD := h
theorem p_on2 {g : D → D → M D} {d e : D} (h : Wp (g d e) S PD) : Wp (on2 g [d, e]) S PD := h
theorem p_add {i j : Int} (h : PD (.int (i + j)) S) : Wp (dAdd (.int i) (.int j)) S PD := wp_run.mpr h
theorem p_sub {i j : Int} (h : PD (.int (i - j)) S) : Wp (dSub (.int i) (.int j)) S PD := wp_run.mpr h
theorem p_neg {i : Int} (h : PD (.int (-i)) S) : Wp (dNeg (.int i)) S PD := wp_run.mpr h
theorem p_abs {i : Int} (h : PD (.int (i.natAbs : Int)) S) : Wp (dAbs (.int i)) S PD := by
  have e : (if i < 0 then -i else i) = (i.natAbs : Int) := by split <;> omega
  refine wp_run.mpr ?_
  show PD (.int (if i < 0 then -i else i)) S
  rw [e]
  exact h
theorem p_mul {j k : Nat} {x y : Int} (hx : Bd j x) (hy : Bd k y) (c : j + k ≤ 134217728) (h : PD (.int (x * y)) S) : Wp (dMul (.int x) (.int y)) S PD := by
  rw [mul_int (mulOk_bd hx hy c)]
  exact wp_run.mpr h
theorem p_div {k : Nat} {x y : Int} (p : 0 < y) (hy : Bd k y) (c : k ≤ 9000) (h : PD (.int (x / y)) S) : Wp (dFdiv (.int x) (.int y)) S PD := by
  rw [fdiv_int (divOk_bd p hy c)]
  exact wp_run.mpr h
theorem p_mod {x y : Int} (p : 0 < y) (h : PD (.int (x % y)) S) : Wp (dMod (.int x) (.int y)) S PD := by
  rw [mod_int p]
  exact wp_run.mpr h
theorem p_cmp {p : Int → Int → Bool} {i j : Int} (h : PD (.bl (p i j)) S) : Wp (dCmpI p (.int i) (.int j)) S PD := wp_run.mpr h
theorem p_int {i : Int} (h : PD (.int i) S) : Wp (dInt (.int i)) S PD := wp_run.mpr h
theorem p_ixT {ds : List D} {i : Int} {d : D} (e : L2.atI ds i = some d) (h : PD d S) : Wp (dIx (.tup ds) (.int i)) S PD := by
  rw [ix_tup e]
  exact wp_run.mpr h
theorem p_ixL {ds : List D} {i : Int} {d : D} (e : L2.atI ds i = some d) (h : PD d S) : Wp (dIx (.lst ds) (.int i)) S PD := by
  rw [ix_lst e]
  exact wp_run.mpr h
theorem p_lenT {ds : List D} (h : PD (.int ds.length) S) : Wp (dLen (.tup ds)) S PD := wp_run.mpr h
theorem p_lenL {ds : List D} (h : PD (.int ds.length) S) : Wp (dLen (.lst ds)) S PD := wp_run.mpr h
theorem p_lenS {ds : List D} (h : PD (.int ds.length) S) : Wp (dLen (.scr ds)) S PD := wp_run.mpr h
theorem p_isN (h : PD (.bl true) S) : Wp (dIs false .non .non) S PD := wp_run.mpr h
theorem p_isntN (h : PD (.bl false) S) : Wp (dIs true .non .non) S PD := wp_run.mpr h
theorem p_eqI {i j : Int} (h : PD (.bl (decide (i = j))) S) : Wp (dEq false (.int i) (.int j)) S PD := wp_run.mpr h
theorem p_neI {i j : Int} (h : PD (.bl (!decide (i = j))) S) : Wp (dEq true (.int i) (.int j)) S PD := wp_run.mpr h
theorem p_eqS {x y : Str} (h : PD (.bl (decide (x = y))) S) : Wp (dEq false (.str x) (.str y)) S PD := wp_run.mpr h
theorem p_neS {x y : Str} (h : PD (.bl (!decide (x = y))) S) : Wp (dEq true (.str x) (.str y)) S PD := wp_run.mpr h
theorem p_seqT {ds : List D} {P : List D → List Ob → Prop} (h : P ds S) : Wp (seqOf (.tup ds)) S P := wp_run.mpr h
theorem p_seqL {ds : List D} {P : List D → List Ob → Prop} (h : P ds S) : Wp (seqOf (.lst ds)) S P := wp_run.mpr h
theorem p_ref {o : Ob} (h : PD (.ref S.length) (S ++ [o])) : Wp (newRef o) S PD := wp_run.mpr h
end
section
variable {S : List Ob} {PD : D → List Ob → Prop} {PL : List D → List Ob → Prop}
theorem p_min {i j : Int} (h : PD (.int (if j < i then j else i)) S) : Wp (dMin (.int i) (.int j)) S PD := wp_run.mpr h
theorem p_max {i j : Int} (h : PD (.int (if j > i then j else i)) S) : Wp (dMax (.int i) (.int j)) S PD := wp_run.mpr h
theorem p_rng1 {i : Int} (l : -4611686018427387904 ≤ i) (u : i < 4611686018427387904) (h : PL (rngD 0 i.toNat) S) : Wp (rng1 [.int i]) S PL := by
  refine wp_run.mpr ?_
  show Run (if -(2 ^ 62) ≤ i ∧ i < 2 ^ 62 then M.pure (rngD 0 i.toNat) else M.stuck) S PL
  rw [if_pos ⟨by omega, by omega⟩]
  exact h
theorem p_rng2 {i j : Int} (l : -4611686018427387904 ≤ i) (u : i < 4611686018427387904) (l2 : -4611686018427387904 ≤ j) (u2 : j < 4611686018427387904) (h : PL (rngD i (j - i).toNat) S) : Wp (rng2 [.int i, .int j]) S PL := by
  refine wp_run.mpr ?_
  show Run (if (-(2 ^ 62) ≤ i ∧ i < 2 ^ 62) ∧ -(2 ^ 62) ≤ j ∧ j < 2 ^ 62 then M.pure (rngD i (j - i).toNat) else M.stuck) S PL
  rw [if_pos ⟨⟨by omega, by omega⟩, by omega, by omega⟩]
  exact h
theorem rng_mem {lo : Int} {n : Nat} {d : D} (h : d ∈ rngD lo n) : ∃ i : Int, d = .int i ∧ lo ≤ i ∧ i < lo + n := by
  obtain ⟨m, hm, rfl⟩ := List.mem_map.mp h
  have := List.mem_range.mp hm
  exact ⟨_, rfl, by omega, by omega⟩
theorem rng_len {lo : Int} {n : Nat} : (rngD lo n).length = n := by
  unfold rngD
  rw [List.length_map, List.length_range]
theorem rng_cons {lo : Int} {n : Nat} : rngD lo (n + 1) = .int lo :: rngD (lo + 1) n := by
  unfold rngD
  rw [List.range_succ_eq_map, List.map_cons, List.map_map]
  congr 1
  · simp
  · refine List.map_congr_left fun i _ => ?_
    show D.int (lo + ((i + 1 : Nat) : Int)) = _
    congr 1
    omega
end
theorem go_lc {fi : List SV → M (List D)} {vs : List Nat} {t : TgP} {tt : List SV → M Bool} {fe : List SV → M D} {sd : List SV} {S : List Ob} {P : D → List Ob → Prop}
    (h : Wp (fi sd) S fun ds S' => Wp (compS t tt fe (wipeD sd vs) ds []) S' fun acc S2 => P (.lst acc) S2) : Wp (lcS fi vs t tt fe sd) S P :=
  go_bind (h.mono fun _ _ h => go_bind (h.mono fun _ _ h => go_pure h))
theorem go_comp {t : TgP} {tt : List SV → M Bool} {fe : List SV → M D} {sdw : List SV} {P : List D → List Ob → Prop} (J : List D → List D → List Ob → Prop)
    (step : ∀ d ds acc S, J (d :: ds) acc S → ∃ sd1, t d sdw = some sd1 ∧ acc.length < lim ∧ Wp (tt sd1) S fun b S1 => if b = true then Wp (fe sd1) S1 fun y S2 => J ds (acc ++ [y]) S2 else J ds acc S1)
    (fin : ∀ acc S, J [] acc S → P acc S) : ∀ ds acc S, J ds acc S → Wp (compS t tt fe sdw ds acc) S P
  | [], acc, S, h => go_pure (fin acc S h)
  | d :: ds, acc, S, h => by
    obtain ⟨sd1, e, l, hb⟩ := step d ds acc S h
    unfold compS
    rw [e]
    refine go_bind (go_noErr (hb.mono fun b S1 hc => ?_))
    cases b with
    | false => exact go_comp J step fin ds acc S1 hc
    | true =>
      refine go_bind (go_noErr (Wp.mono hc fun y S2 hy => ?_))
      rw [if_pos l]
      exact go_comp J step fin ds _ S2 hy
theorem all_true {acc : List D} (h : ∀ a ∈ acc, a = .bl true) : dAll (.lst acc) = M.pure (.bl true) := by
  have : ∀ acc : List D, (∀ a ∈ acc, a = .bl true) → ∃ bs, bls acc = some bs ∧ bs.all id = true := by
    intro acc
    induction acc with
    | nil => exact fun _ => ⟨[], rfl, rfl⟩
    | cons a acc ih =>
      intro h
      obtain ⟨bs, e1, e2⟩ := ih fun x hx => h x (List.mem_cons_of_mem _ hx)
      have ea := h a List.mem_cons_self
      subst ea
      refine ⟨true :: bs, ?_, ?_⟩
      · unfold bls
        rw [e1]
        rfl
      · rw [List.all_cons, e2]
        rfl
  obtain ⟨bs, e1, e2⟩ := this acc h
  unfold dAll
  simp only [e1, e2]
theorem all_spots {t : TgP} {fe : List SV → M D} {sdw : List SV} {n : Nat} (hn : n ≤ 100) (S : List Ob)
    (step : ∀ i : Int, 0 ≤ i → i < 100 → ∀ S, ∃ sd1, t (.int i) sdw = some sd1 ∧ Wp (fe sd1) S fun y _ => y = .bl true) :
    Wp (compS t (fun _ => M.pure true) fe sdw (rngD 0 n) []) S fun acc _ => dAll (.lst acc) = M.pure (.bl true) := by
  refine go_comp (J := fun ds acc _ => (∀ d ∈ ds, ∃ i : Int, d = .int i ∧ 0 ≤ i ∧ i < 100) ∧ (∀ a ∈ acc, a = .bl true) ∧ acc.length + ds.length ≤ 100) ?_ ?_ _ _ _ ?_
  · rintro d ds acc S ⟨hd, ha, hl⟩
    obtain ⟨i, rfl, h0, h1⟩ := hd d List.mem_cons_self
    obtain ⟨sd1, e, hw⟩ := step i h0 h1 S
    rw [List.length_cons] at hl
    refine ⟨sd1, e, by unfold lim; omega, go_pure (ite_t (hw.mono fun y S2 hy => ⟨fun d hd' => hd d (List.mem_cons_of_mem _ hd'), fun a ha' => ?_, ?_⟩))⟩
    · rcases List.mem_append.mp ha' with h | h
      · exact ha a h
      · rw [List.mem_singleton.mp h, hy]
    · rw [List.length_append, List.length_singleton]; omega
  · rintro acc S ⟨_, ha, _⟩
    exact all_true ha
  · refine ⟨fun d hd => ?_, fun a ha => absurd ha List.not_mem_nil, ?_⟩
    · obtain ⟨i, e, h0, h1⟩ := rng_mem hd
      exact ⟨i, e, h0, by omega⟩
    · rw [rng_len, List.length_nil]; omega
end Ev
local macro_rules | `(tactic| regstrif_fact) => `(tactic| first
  | assumption
  | ((with_reducible show Ev.Bd _ (_ * _)); refine Ev.Bd.mul (by regstrif_fact) (by regstrif_fact))
  | ((with_reducible show Ev.Bd _ (_ + _)); refine Ev.Bd.add (by regstrif_fact) (by regstrif_fact))
  | ((with_reducible show Ev.Bd _ (_ - _)); refine Ev.Bd.sub (by regstrif_fact) (by regstrif_fact))
  | ((with_reducible show Ev.Bd _ (-_)); refine Ev.Bd.neg (by regstrif_fact))
  | ((with_reducible show Ev.Bd _ (Int.natAbs _ : Int)); refine Ev.Bd.abs (by regstrif_fact))
  | ((with_reducible show Ev.Bd _ (_ % _)); refine Ev.Bd.emod (by regstrif_fact) (by first | assumption | omega))
  | ((with_reducible show Ev.Bd _ (_ / _)); refine Ev.Bd.ediv (by regstrif_fact))
  | exact Ev.Bd.of64 (by omega) (by omega)
  | exact Ev.Bd.of128 (by omega) (by omega))
local macro_rules | `(tactic| regstrif_gather) => `(tactic| first
  | with_reducible refine Ev.go_bind ?_
  | with_reducible refine Ev.go_pure ?_
  | ((with_reducible show Ev.Wp (Ev.getv _ _) _ _); refine Ev.go_get (by exact rfl) ?_)
  | with_reducible (first
    | refine Ev.gs_seq ?_ | refine Ev.gs_next ?_ | refine Ev.gs_asg ?_ | refine Ev.gs_if ?_ | refine Ev.gs_ret ?_ | refine Ev.gs_for ?_ | refine Ev.gs_par ?_ | refine Ev.gs_own ?_ | refine Ev.gs_expr ?_
    | refine Ev.p_toB ?_ | refine Ev.p_on1 ?_ | refine Ev.p_on2 ?_ | refine Ev.p_cmp ?_ | refine Ev.p_add ?_ | refine Ev.p_sub ?_
    | refine Ev.go_lc ?_ | refine Ev.go_ite ?_ | refine Ev.go_noErr ?_ | refine Ev.ite_t ?_ | refine Ev.ite_f ?_ | refine Ev.ite_n ?_
    | refine Ev.p_eqI ?_ | refine Ev.p_neI ?_ | refine Ev.p_eqS ?_ | refine Ev.p_neS ?_
    | refine Ev.p_neg ?_ | refine Ev.p_abs ?_ | refine Ev.p_int ?_ | refine Ev.p_toI ?_
    | refine Ev.p_lenT ?_ | refine Ev.p_lenL ?_ | refine Ev.p_lenS ?_ | refine Ev.p_isN ?_ | refine Ev.p_isntN ?_ | refine Ev.p_seqT ?_ | refine Ev.p_seqL ?_
    | refine Ev.p_min ?_ | refine Ev.p_max ?_ | refine Ev.p_ref ?_ | refine Ev.gs_retN ?_ | refine Ev.gs_brk ?_ | refine Ev.gs_cont ?_)
  | ((with_reducible refine Ev.p_mod ?_ ?_); (· first | assumption | omega))
  | ((with_reducible show Ev.Wp (Ev.dMul (.int _) (.int _)) _ _); refine Ev.p_mul (by regstrif_fact) (by regstrif_fact) (by first | decide | omega) ?_)
  | ((with_reducible show Ev.Wp (Ev.dFdiv (.int _) (.int _)) _ _); refine Ev.p_div (by first | assumption | omega) (by regstrif_fact) (by first | decide | omega) ?_)
  | ((with_reducible show Ev.Wp (Ev.dIx (.tup _) (.int _)) _ _); refine Ev.p_ixT (by exact rfl) ?_)
  | ((with_reducible show Ev.Wp (Ev.dIx (.lst _) (.int _)) _ _); refine Ev.p_ixL (by exact rfl) ?_)
  | ((with_reducible show Ev.Ws (Ev.appS _ _) _ _ _ _ _ _); refine Ev.gs_app (by exact rfl) (by first | decide | omega) ?_)
  | ((with_reducible show Ev.Ws (Ev.frzS _) _ _ _ _ _ _); refine Ev.gs_frz (by exact rfl) ?_)
  | ((with_reducible refine Ev.p_rng1 ?_ ?_ ?_); (· omega); (· omega))
  | ((with_reducible refine Ev.p_rng2 ?_ ?_ ?_ ?_ ?_); (· omega); (· omega); (· omega); (· omega))
  | ((with_reducible refine Ev.ite_dt ?_ ?_); (· first | assumption | omega))
  | ((with_reducible refine Ev.ite_df ?_ ?_); (· first | assumption | omega))
  | regstrif_slice
  | with_reducible refine Ev.gs_tgt ?_)
local macro_rules | `(tactic| regstrif_slice) => `(tactic| fail "no step is ev_known")
set_option maxRecDepth 100000
set_option maxHeartbeats 2000000
namespace Ev
open PySem L2
@[irreducible] def Shw (k n : Nat) (d : D) : Prop := ∃ p, toP d = some p ∧ p.showable = true ∧ p.canLay0 = true ∧ p.depth ≤ k ∧ p.shown.length ≤ n
@[irreducible] def ShwL (k n : Nat) (ds : List D) : Prop := ∃ ps, toPs ds = some ps ∧ PyData.showableAll ps = true ∧ PyData.canLayAll0 ps = true ∧ PyData.depthAll ps ≤ k ∧ ((PyData.shownAll ps).map (·.length)).sum + 2 * ps.length ≤ n
theorem Shw.mono {k n k' n' : Nat} {d : D} (h : Shw k n d) (hk : k ≤ k') (hn : n ≤ n') : Shw k' n' d := by
  unfold Shw at *
  obtain ⟨p, a, b, c, e, f⟩ := h
  exact ⟨p, a, b, c, by omega, by omega⟩
theorem shw_non : Shw 0 5 .non := by
  unfold Shw
  exact ⟨_, rfl, rfl, rfl, Nat.le_refl _, by decide⟩
theorem shw_bl (b : Bool) : Shw 0 5 (.bl b) := by
  unfold Shw
  exact ⟨_, rfl, rfl, rfl, Nat.le_refl _, by cases b <;> decide⟩
theorem shw_int {j : Nat} {i : Int} (h : Bd j i) (l : j ≤ 1920) : Shw 0 1921 (.int i) := by
  have a := (h.mono l).nat
  have b : i.natAbs.log2 < 1920 := by
    by_cases z : i.natAbs = 0
    · rw [z]
      decide +kernel
    · exact (Nat.log2_lt z).mpr a
  have c := PyProof.Rows.int_text_len_1921 b
  unfold Shw
  refine ⟨_, rfl, decide_eq_true b, rfl, Nat.le_refl _, ?_⟩
  show (Str.ofString (toString i)).length ≤ 1921
  omega
theorem shl_nil : ShwL 0 0 [] := by
  unfold ShwL
  exact ⟨[], rfl, rfl, rfl, Nat.le_refl _, Nat.le_refl _⟩
theorem shl_cons {k n k' n' : Nat} {d : D} {ds : List D} (h : Shw k n d) (l : ShwL k' n' ds) : ShwL (k + k') (n + 2 + n') (d :: ds) := by
  unfold Shw at h
  unfold ShwL at *
  obtain ⟨p, a, b, c, e, f⟩ := h
  obtain ⟨ps, a', b', c', e', f'⟩ := l
  refine ⟨p :: ps, ?_, ?_, ?_, ?_, ?_⟩
  · unfold toPs
    rw [a, a']
  · unfold PyData.showableAll
    rw [b, b']
    rfl
  · unfold PyData.canLayAll0
    rw [c, c']
    rfl
  · unfold PyData.depthAll
    omega
  · unfold PyData.shownAll
    simp only [List.map_cons, List.sum_cons, List.length_cons]
    omega
theorem shl_all {k n : Nat} : ∀ {ds : List D}, (∀ d ∈ ds, Shw k n d) → ShwL k (ds.length * (n + 2)) ds
  | [], _ => by
    have h := shl_nil
    unfold ShwL at *
    obtain ⟨ps, a', b', c', e', f'⟩ := h
    exact ⟨ps, a', b', c', by omega, by omega⟩
  | d :: ds, h => by
    have h1 := h d List.mem_cons_self
    have h2 := shl_all fun x hx => h x (List.mem_cons_of_mem _ hx)
    unfold Shw at h1
    unfold ShwL at *
    obtain ⟨p, a, b, c, e, f⟩ := h1
    obtain ⟨ps, a', b', c', e', f'⟩ := h2
    refine ⟨p :: ps, ?_, ?_, ?_, ?_, ?_⟩
    · unfold toPs
      rw [a, a']
    · unfold PyData.showableAll
      rw [b, b']
      rfl
    · unfold PyData.canLayAll0
      rw [c, c']
      rfl
    · unfold PyData.depthAll
      omega
    · unfold PyData.shownAll
      simp only [List.map_cons, List.sum_cons, List.length_cons, Nat.succ_mul]
      omega
theorem len_shownAll : ∀ ps : List PyData, (PyData.shownAll ps).length = ps.length
  | [] => rfl
  | p :: ps => by
    unfold PyData.shownAll
    rw [List.length_cons, List.length_cons, len_shownAll ps]
theorem shw_tup {k n : Nat} {ds : List D} (h : ShwL k n ds) : Shw (k + 1) (n + 3) (.tup ds) := by
  unfold ShwL at h
  unfold Shw
  obtain ⟨ps, a, b, c, e, f⟩ := h
  refine ⟨.tuple ps, by unfold toP; rw [a]; rfl, by unfold PyData.showable; exact b, by unfold PyData.canLay0; exact c, by unfold PyData.depth; omega, ?_⟩
  have := tupleText_len_le (PyData.shownAll ps)
  rw [len_shownAll] at this
  show (tupleText (PyData.shownAll ps)).length ≤ _
  omega
theorem shw_lst {k n : Nat} {ds : List D} (h : ShwL k n ds) : Shw (k + 1) (n + 3) (.lst ds) := by
  unfold ShwL at h
  unfold Shw
  obtain ⟨ps, a, b, c, e, f⟩ := h
  refine ⟨.list ps, by unfold toP; rw [a]; rfl, by unfold PyData.showable; exact b, by unfold PyData.canLay0; exact c, by unfold PyData.depth; omega, ?_⟩
  have := listText_len_le (PyData.shownAll ps)
  rw [len_shownAll] at this
  show (listText (PyData.shownAll ps)).length ≤ _
  omega
@[irreducible] def txtD (d : D) : Str := match toP d with
  | some p => p.shown
  | none => ""
theorem repr_get {k n : Nat} {d : D} (h : Shw k n d) (hk : k ≤ 60) (hn : n ≤ lim) : dRepr d = M.pure (.str (txtD d)) := by
  unfold Shw at h
  obtain ⟨p, a, b, c, e, f⟩ := h
  unfold dRepr txtD
  rw [a]
  have g : reprOk p = true := by
    unfold reprOk
    rw [b, PyData.hasDict_of_canLay p c]
    simp only [Bool.not_false, Bool.and_true, Bool.true_and, Bool.and_eq_true, decide_eq_true_eq]
    omega
  simp only [g, if_true]
section
variable {S : List Ob} {PD : D → List Ob → Prop}
theorem p_repr {k n : Nat} {d : D} (h : Shw k n d) (hk : k ≤ 60) (hn : n ≤ lim) (q : PD (.str (txtD d)) S) : Wp (dRepr d) S PD := by
  rw [repr_get h hk hn]
  exact go_pure q
theorem p_eqSS {x : Str} (h : PD (.bl true) S) : Wp (dEq false (.str x) (.str x)) S PD := by
  refine p_eqS ?_
  rw [decide_eq_true rfl]
  exact h
theorem p_neSS {x : Str} (h : PD (.bl false) S) : Wp (dEq true (.str x) (.str x)) S PD := by
  refine p_neS ?_
  rw [decide_eq_true rfl]
  exact h
theorem p_eqB {x y : Bool} (h : PD (.bl (decide (x = y))) S) : Wp (dEq false (.bl x) (.bl y)) S PD := wp_run.mpr h
theorem p_neB {x y : Bool} (h : PD (.bl (!decide (x = y))) S) : Wp (dEq true (.bl x) (.bl y)) S PD := wp_run.mpr h
end
mutual
def noB : PyData → Bool
  | .none | .int _ | .str _ => true
  | .bool _ | .dict _ => false
  | .list xs | .tuple xs => noBs xs
def noBs : List PyData → Bool
  | [] => true
  | x :: xs => noB x && noBs xs
end
mutual
theorem eqv_iff : ∀ p q : PyData, noB p = true → noB q = true → PyData.eqv p q = true → p = q
  | .none, q, _, h, e => by cases q <;> first | rfl | simp [PyData.eqv] at e
  | .int i, q, _, h, e => by cases q <;> simp [PyData.eqv, noB] at e h; rw [e]
  | .str x, q, _, h, e => by cases q <;> simp [PyData.eqv, noB] at e h; rw [e]
  | .list xs, .list ys, g, h, e => by
    unfold noB at g h
    unfold PyData.eqv at e
    rw [eqvAll_iff xs ys g h e]
  | .tuple xs, .tuple ys, g, h, e => by
    unfold noB at g h
    unfold PyData.eqv at e
    rw [eqvAll_iff xs ys g h e]
  | .list xs, .none, _, _, e | .list xs, .int _, _, _, e | .list xs, .str _, _, _, e | .list xs, .tuple _, _, _, e | .list xs, .bool _, _, _, e | .list xs, .dict _, _, _, e => by simp [PyData.eqv] at e
  | .tuple xs, .none, _, _, e | .tuple xs, .int _, _, _, e | .tuple xs, .str _, _, _, e | .tuple xs, .list _, _, _, e | .tuple xs, .bool _, _, _, e | .tuple xs, .dict _, _, _, e => by simp [PyData.eqv] at e
  | .bool _, _, g, _, _ => by simp [noB] at g
  | .dict _, _, g, _, _ => by simp [noB] at g
theorem eqvAll_iff : ∀ ps qs : List PyData, noBs ps = true → noBs qs = true → PyData.eqvAll ps qs = true → ps = qs
  | [], [], _, _, _ => rfl
  | [], _ :: _, _, _, e => by simp [PyData.eqvAll] at e
  | _ :: _, [], _, _, e => by simp [PyData.eqvAll] at e
  | p :: ps, q :: qs, g, h, e => by
    unfold noBs at g h
    unfold PyData.eqvAll at e
    rw [Bool.and_eq_true] at g h e
    rw [eqv_iff p q g.1 h.1 e.1, eqvAll_iff ps qs g.2 h.2 e.2]
end
@[irreducible] def Pln (k : Nat) (d : D) (p : PyData) : Prop := toP d = some p ∧ noB p = true ∧ p.canLay0 = true ∧ p.depth ≤ k
@[irreducible] def PlnL (k : Nat) (ds : List D) (ps : List PyData) : Prop := toPs ds = some ps ∧ noBs ps = true ∧ PyData.canLayAll0 ps = true ∧ PyData.depthAll ps ≤ k
theorem pln_non : Pln 0 .non .none := by unfold Pln; exact ⟨rfl, rfl, rfl, Nat.le_refl _⟩
theorem pln_int {i : Int} : Pln 0 (.int i) (.int i) := by unfold Pln; exact ⟨rfl, rfl, rfl, Nat.le_refl _⟩
theorem pll_nil : PlnL 0 [] [] := by unfold PlnL; exact ⟨rfl, rfl, rfl, Nat.le_refl _⟩
theorem pll_cons {j k : Nat} {d : D} {p : PyData} {ds : List D} {ps : List PyData} (h : Pln j d p) (l : PlnL k ds ps) : PlnL (j + k) (d :: ds) (p :: ps) := by
  unfold Pln at h
  unfold PlnL at *
  obtain ⟨a, b, c, e⟩ := h
  obtain ⟨a', b', c', e'⟩ := l
  refine ⟨?_, ?_, ?_, ?_⟩
  · unfold toPs
    rw [a, a']
  · unfold noBs
    rw [b, b']
    rfl
  · unfold PyData.canLayAll0
    rw [c, c']
    rfl
  · unfold PyData.depthAll
    omega
theorem pll_map {α : Type} {k : Nat} {f : α → D} {g : α → PyData} : ∀ {xs : List α}, (∀ x ∈ xs, Pln k (f x) (g x)) → PlnL k (xs.map f) (xs.map g)
  | [], _ => by unfold PlnL; exact ⟨rfl, rfl, rfl, Nat.zero_le _⟩
  | x :: xs, h => by
    have h1 := h x List.mem_cons_self
    have h2 := pll_map (xs := xs) fun y hy => h y (List.mem_cons_of_mem _ hy)
    unfold Pln at h1
    unfold PlnL at *
    obtain ⟨a, b, c, e⟩ := h1
    obtain ⟨a', b', c', e'⟩ := h2
    refine ⟨?_, ?_, ?_, ?_⟩
    · rw [List.map_cons, List.map_cons]
      unfold toPs
      rw [a, a']
    · rw [List.map_cons]
      unfold noBs
      rw [b, b']
      rfl
    · rw [List.map_cons]
      unfold PyData.canLayAll0
      rw [c, c']
      rfl
    · rw [List.map_cons]
      unfold PyData.depthAll
      omega
theorem pln_tup {k : Nat} {ds : List D} {ps : List PyData} (h : PlnL k ds ps) : Pln (k + 1) (.tup ds) (.tuple ps) := by
  unfold PlnL at h
  unfold Pln
  obtain ⟨a, b, c, e⟩ := h
  exact ⟨by unfold toP; rw [a]; rfl, by unfold noB; exact b, by unfold PyData.canLay0; exact c, by unfold PyData.depth; omega⟩
theorem pln_lst {k : Nat} {ds : List D} {ps : List PyData} (h : PlnL k ds ps) : Pln (k + 1) (.lst ds) (.list ps) := by
  unfold PlnL at h
  unfold Pln
  obtain ⟨a, b, c, e⟩ := h
  exact ⟨by unfold toP; rw [a]; rfl, by unfold noB; exact b, by unfold PyData.canLay0; exact c, by unfold PyData.depth; omega⟩
theorem eqv_dec {p q : PyData} (g : noB p = true) (h : noB q = true) (c : p.canLay0 = true) {P : Prop} [Decidable P] (i : p = q ↔ P) : PyData.eqv p q = decide P := by
  by_cases z : P
  · rw [decide_eq_true z]
    have e := i.mpr z
    subst e
    exact SeqAt.eqv_refl p c
  · rw [decide_eq_false z]
    cases e : PyData.eqv p q with
    | false => rfl
    | true => exact absurd (i.mp (eqv_iff p q g h e)) z
theorem eq_pln {j k : Nat} {d e : D} {p q : PyData} (neg : Bool) (h : Pln j d p) (l : Pln k e q) (hj : j ≤ 64) (hk : k ≤ 64) {P : Prop} [Decidable P] (i : p = q ↔ P)
    (z : dEq neg d e = match toP d, toP e with
      | some p, some q => if SeqAt.shaped p = true ∧ SeqAt.shaped q = true then M.pure (.bl (if neg then !PyData.eqv p q else PyData.eqv p q)) else M.stuck
      | _, _ => M.stuck) : dEq neg d e = M.pure (.bl (if neg then !decide P else decide P)) := by
  unfold Pln at h l
  obtain ⟨a, b, c, f⟩ := h
  obtain ⟨a', b', c', f'⟩ := l
  rw [z, a, a']
  simp only
  rw [eqv_dec b b' c i]
  refine if_pos ⟨?_, ?_⟩
  · unfold SeqAt.shaped
    rw [c, decide_eq_true (by omega)]
    rfl
  · unfold SeqAt.shaped
    rw [c', decide_eq_true (by omega)]
    rfl
theorem cut_take {α : Type} {xs : List α} {j : Int} (h0 : 0 ≤ j) : cutD xs none (some j) = xs.take j.toNat := by
  unfold cutD HT.sIx
  simp only [show ¬(j < 0) by omega, if_false, List.drop_zero, Nat.sub_zero]
  show List.take (min j.toNat xs.length) xs = _
  rw [List.take_eq_take_iff]
  omega
theorem cut_drop {α : Type} {xs : List α} {j : Int} (h0 : 0 ≤ j) : cutD xs (some j) none = xs.drop j.toNat := by
  unfold cutD HT.sIx
  simp only [show ¬(j < 0) by omega, if_false]
  show List.take (xs.length - min j.toNat xs.length) (xs.drop (min j.toNat xs.length)) = _
  by_cases l : j.toNat ≤ xs.length
  · rw [Nat.min_eq_left l]
    exact List.take_of_length_le (by rw [List.length_drop]; omega)
  · rw [Nat.min_eq_right (by omega), List.drop_of_length_le (Nat.le_refl _), List.drop_of_length_le (by omega)]
    simp
section
variable {S : List Ob} {PD : D → List Ob → Prop}
theorem p_take {ds : List D} {j : Int} (h0 : 0 ≤ j) (h : PD (.lst (ds.take j.toNat)) S) : Wp (dSl (.lst ds) none (some j)) S PD := by
  show Wp (M.pure (D.lst (cutD ds none (some j)))) S PD
  rw [cut_take h0]
  exact go_pure h
theorem p_drop {ds : List D} {j : Int} (h0 : 0 ≤ j) (h : PD (.lst (ds.drop j.toNat)) S) : Wp (dSl (.lst ds) (some j) none) S PD := by
  show Wp (M.pure (D.lst (cutD ds (some j) none))) S PD
  rw [cut_drop h0]
  exact go_pure h
theorem p_takeT {ds : List D} {j : Int} (h0 : 0 ≤ j) (h : PD (.tup (ds.take j.toNat)) S) : Wp (dSl (.tup ds) none (some j)) S PD := by
  show Wp (M.pure (D.tup (cutD ds none (some j)))) S PD
  rw [cut_take h0]
  exact go_pure h
theorem p_dropT {ds : List D} {j : Int} (h0 : 0 ≤ j) (h : PD (.tup (ds.drop j.toNat)) S) : Wp (dSl (.tup ds) (some j) none) S PD := by
  show Wp (M.pure (D.tup (cutD ds (some j) none))) S PD
  rw [cut_drop h0]
  exact go_pure h
theorem p_revL {ds : List D} (h : PD (.lst ds.reverse) S) : Wp (dRev (.lst ds)) S PD := wp_run.mpr h
theorem p_addL {as bs : List D} (l : as.length + bs.length ≤ lim) (h : PD (.lst (as ++ bs)) S) : Wp (dAdd (.lst as) (.lst bs)) S PD := by
  show Wp (if as.length + bs.length ≤ lim then M.pure (D.lst (as ++ bs)) else M.stuck) S PD
  rw [if_pos l]
  exact go_pure h
theorem p_addT {as bs : List D} (l : as.length + bs.length ≤ lim) (h : PD (.tup (as ++ bs)) S) : Wp (dAdd (.tup as) (.tup bs)) S PD := by
  show Wp (if as.length + bs.length ≤ lim then M.pure (D.tup (as ++ bs)) else M.stuck) S PD
  rw [if_pos l]
  exact go_pure h
theorem p_isT {ds : List D} {neg : Bool} (h : PD (.bl neg) S) : Wp (dIs neg (.tup ds) .non) S PD := by
  cases neg <;> exact wp_run.mpr h
theorem p_isO {c : Nat} {ds : List D} {neg : Bool} (h : PD (.bl neg) S) : Wp (dIs neg (.ins c ds) .non) S PD := by
  cases neg <;> exact wp_run.mpr h
theorem p_isI {i : Int} {neg : Bool} (h : PD (.bl neg) S) : Wp (dIs neg (.int i) .non) S PD := by
  cases neg <;> exact wp_run.mpr h
end
end Ev
local macro_rules | `(tactic| nest_fact) => `(tactic| first
  | assumption
  | exact Ev.shw_non
  | exact Ev.shw_bl _
  | exact Ev.shw_int (by regstrif_fact) (by first | decide | omega)
  | ((with_reducible apply Ev.shw_tup); nest_fact)
  | ((with_reducible apply Ev.shw_lst); nest_fact)
  | with_reducible exact Ev.shl_nil
  | ((with_reducible apply Ev.shl_cons); (· nest_fact); (· nest_fact)))
local macro_rules | `(tactic| regstrif_gather) => `(tactic| first
  | with_reducible refine Ev.p_eqSS ?_
  | with_reducible refine Ev.p_neSS ?_
  | with_reducible refine Ev.p_eqB ?_
  | with_reducible refine Ev.p_neB ?_
  | with_reducible refine Ev.p_isT ?_
  | with_reducible refine Ev.p_isO ?_
  | with_reducible refine Ev.p_isI ?_
  | with_reducible refine Ev.p_revL ?_
  | ((with_reducible show Ev.Wp (Ev.dRepr _) _ _); refine Ev.p_repr (by nest_fact) (by first | decide | omega) (by first | decide | omega) ?_)
  | ((with_reducible refine Ev.p_take ?_ ?_); (· omega))
  | ((with_reducible refine Ev.p_drop ?_ ?_); (· omega))
  | ((with_reducible refine Ev.p_takeT ?_ ?_); (· omega))
  | ((with_reducible refine Ev.p_dropT ?_ ?_); (· omega)))
set_option maxRecDepth 100000
set_option maxHeartbeats 2000000
namespace Ev
open PySem L2
@[irreducible] def Tg (t : Tgt) (d : D) (sd : List SV) (S : List Ob) (N : List SV → List Ob → Prop) : Prop := ∃ sd2 S2, t d sd S = some (sd2, S2) ∧ N sd2 S2
@[irreducible] def TgL (t : Tgts) (ds : List D) (sd : List SV) (S : List Ob) (N : List SV → List Ob → Prop) : Prop := ∃ sd2 S2, t ds sd S = some (sd2, S2) ∧ N sd2 S2
section
variable {S : List Ob} {sd : List SV} {N : List SV → List Ob → Prop} {R : D → List Ob → Prop} {B C : List SV → List Ob → Prop} {d : D} {ds : List D}
theorem gs_tg {g : List SV → M D} {t : Tgt} (h : Wp (g sd) S fun d S' => Tg t d sd S' N) : Ws (asgS g t) sd S N R B C := by
  refine gs_tgt (h.mono fun d S' q => ?_)
  unfold Tg at q
  obtain ⟨sd2, S2, e, q⟩ := q
  rw [e]
  exact q
theorem tg_set {i : Nat} (h : N (sd.set i (.val d)) S) : Tg (setT i) d sd S N := by
  unfold Tg
  exact ⟨_, _, rfl, h⟩
theorem tg_tup {k : Nat} {t : Tgts} (l : ds.length = k) (h : TgL t ds sd S N) : Tg (tupT k t) (.tup ds) sd S N := by
  unfold TgL at h
  unfold Tg
  obtain ⟨sd2, S2, e, q⟩ := h
  refine ⟨sd2, S2, ?_, q⟩
  show (if ds.length = k then t ds sd S else none) = _
  rw [if_pos l]
  exact e
theorem tg_lst {k : Nat} {t : Tgts} (l : ds.length = k) (h : TgL t ds sd S N) : Tg (tupT k t) (.lst ds) sd S N := by
  unfold TgL at h
  unfold Tg
  obtain ⟨sd2, S2, e, q⟩ := h
  refine ⟨sd2, S2, ?_, q⟩
  show (if ds.length = k then t ds sd S else none) = _
  rw [if_pos l]
  exact e
theorem tl_cons {t : Tgt} {ts : Tgts} (h : Tg t d sd S fun sd2 S2 => TgL ts ds sd2 S2 N) : TgL (consT t ts) (d :: ds) sd S N := by
  unfold Tg at h
  obtain ⟨sd1, S1, e, q⟩ := h
  unfold TgL at q ⊢
  obtain ⟨sd2, S2, e2, q⟩ := q
  refine ⟨sd2, S2, ?_, q⟩
  show (match t d sd S with | none => none | some (sd1, S1) => ts ds sd1 S1) = _
  rw [e]
  exact e2
theorem tl_nil (h : N sd S) : TgL (fun _ sd S => some (sd, S)) [] sd S N := by
  unfold TgL
  exact ⟨_, _, rfl, h⟩
theorem Tg.ex {t : Tgt} (h : Tg t d sd S N) : ∃ sd2 S2, t d sd S = some (sd2, S2) ∧ N sd2 S2 := by
  unfold Tg at h
  exact h
theorem gs_each {α : Type} {f : α → D} {t : Tgt} {body : MS} (J : List α → List SV → List Ob → Prop)
    (step : ∀ x xs sd S, J (x :: xs) sd S → Tg t (f x) sd S fun sd1 S1 => Ws body sd1 S1 (fun sd2 S2 => J xs sd2 S2) R (fun sd2 S2 => N sd2 S2) (fun sd2 S2 => J xs sd2 S2))
    (fin : ∀ sd S, J [] sd S → N sd S) (xs : List α) (sd : List SV) (S : List Ob) (h : J xs sd S) : Ws (loopS t body (xs.map f)) sd S N R B C := by
  refine gs_loop (J := fun ds sd S => ∃ xs : List α, ds = xs.map f ∧ J xs sd S) ?_ ?_ _ _ _ ⟨xs, rfl, h⟩
  · rintro d ds sd S ⟨xs, e, hj⟩
    rcases xs with _ | ⟨x, xs⟩
    · cases e
    rw [List.map_cons] at e
    cases e
    obtain ⟨sd1, S1, e1, q⟩ := (step x xs sd S hj).ex
    exact ⟨sd1, S1, e1, q.mono (fun sd S h => ⟨xs, rfl, h⟩) (fun _ _ h => h) (fun _ _ h => h) (fun sd S h => ⟨xs, rfl, h⟩)⟩
  · rintro sd S ⟨xs, e, hj⟩
    rcases xs with _ | ⟨x, xs⟩
    · exact fin sd S hj
    · cases e
theorem gs_frzL {i : Nat} (e : sd[i]? = some (.own (.lst ds))) (h : N (sd.set i (.val (.lst ds))) S) : Ws (frzS i) sd S N R B C := gs_frz e h
theorem ws_sd {m : MS} {sd' : List SV} (e : sd = sd') (h : Ws m sd' S N R B C) : Ws m sd S N R B C := e ▸ h
theorem tl_sd {t : Tgts} {sd' : List SV} (e : sd = sd') (h : TgL t ds sd' S N) : TgL t ds sd S N := e ▸ h
end
end Ev
local macro_rules | `(tactic| regstrif_gather) => `(tactic| first
  | ((with_reducible show Ev.Ws _ (List.set _ _ _) _ _ _ _ _); apply Ev.ws_sd; (· first | (simp only [List.set_cons_zero, List.set_cons_succ]; done) | (simp only [List.set_cons_zero, List.set_cons_succ]; exact rfl)))
  | ((with_reducible show Ev.TgL _ _ (List.set _ _ _) _ _); apply Ev.tl_sd; (· first | (simp only [List.set_cons_zero, List.set_cons_succ]; done) | (simp only [List.set_cons_zero, List.set_cons_succ]; exact rfl)))
  | with_reducible refine Ev.gs_seq ?_
  | with_reducible refine Ev.gs_asg ?_
  | with_reducible refine Ev.tg_set ?_
  | ((with_reducible refine Ev.tg_tup ?_ ?_); (· exact rfl))
  | with_reducible refine Ev.tl_cons ?_
  | with_reducible refine Ev.tl_nil ?_
  | ((with_reducible refine Ev.tg_lst ?_ ?_); (· exact rfl))
  | ((with_reducible show Ev.Ws (Ev.asgS _ (Ev.tupT _ _)) _ _ _ _ _ _); refine Ev.gs_tg ?_)
  | ((with_reducible show Ev.Ws (Ev.appS _ _) _ _ _ _ _ _); refine Ev.gs_app (by exact rfl) (by simp only [List.length_append, List.length_cons, List.length_nil, List.length_map, Nat.zero_add, Nat.add_zero]; first | decide | (unfold Ev.lim; omega)) ?_)
  | ((with_reducible refine Ev.p_addL ?_ ?_); (· simp only [List.length_append, List.length_cons, List.length_nil, List.length_map, List.length_take, List.length_drop, List.length_reverse]; unfold Ev.lim; omega))
  | ((with_reducible refine Ev.p_addT ?_ ?_); (· simp only [List.length_append, List.length_cons, List.length_nil, List.length_map, List.length_take, List.length_drop, List.length_reverse]; unfold Ev.lim; omega))
  | ((with_reducible refine Ev.ite_dt ?_ ?_); (· first | with_reducible rfl | decide))
  | ((with_reducible refine Ev.ite_df ?_ ?_); (· decide))
  | ((with_reducible show Ev.Ws (Ev.frzS _) _ _ _ _ _ _); refine Ev.gs_frzL (by exact rfl) ?_))
set_option maxRecDepth 100000
set_option maxHeartbeats 2000000
namespace Ev
open PySem L2
theorem step_rev {α : Type} (xs : List α) : Ev.stepL (-1) xs = xs.reverse := by
  have n : stepNo xs.length (-1) = xs.length := by
    unfold stepNo stepLo Builtin.Slice.slicePlaces
    simp only [show (-1 : Int) < 0 by decide, if_true]
    simp
    omega
  unfold Ev.stepL
  rw [n]
  have lo : stepLo xs.length (-1) = (xs.length : Int) - 1 := by unfold stepLo; simp
  rw [lo]
  have : ∀ k, k ≤ xs.length → ((List.range k).filterMap fun (m : Nat) => xs[((xs.length : Int) - 1 + (m : Int) * (-1)).toNat]?) = (xs.drop (xs.length - k)).reverse := by
    intro k
    induction k with
    | zero => intro _; simp
    | succ k ih =>
      intro h
      have hk : xs.length - (k + 1) < xs.length := by omega
      have e : ((xs.length : Int) - 1 + (k : Int) * (-1)).toNat = xs.length - (k + 1) := by omega
      rw [List.range_succ, List.filterMap_append, ih (by omega), List.drop_eq_getElem_cons hk, List.reverse_cons]
      have e2 : xs.length - (k + 1) + 1 = xs.length - k := by omega
      rw [e2]
      congr 1
      simp only [List.filterMap_cons, List.filterMap_nil, e, List.getElem?_eq_getElem hk]
  have := this xs.length (Nat.le_refl _)
  simpa using this
theorem dStep_rev (ds : List D) : dStep (-1) (.tup ds) = M.pure (.tup ds.reverse) := by
  show M.pure (D.tup (Ev.stepL (-1) ds)) = _
  rw [step_rev]
section
variable {S : List Ob} {PD : D → List Ob → Prop}
theorem p_lenT0 (h : PD (.int 0) S) : Wp (dLen (.tup [])) S PD := wp_run.mpr h
theorem p_lenT1 {x0 : D} (h : PD (.int 1) S) : Wp (dLen (.tup [x0])) S PD := wp_run.mpr h
theorem p_lenT2 {x0 x1 : D} (h : PD (.int 2) S) : Wp (dLen (.tup [x0, x1])) S PD := wp_run.mpr h
theorem p_lenT3 {x0 x1 x2 : D} (h : PD (.int 3) S) : Wp (dLen (.tup [x0, x1, x2])) S PD := wp_run.mpr h
theorem p_lenT4 {x0 x1 x2 x3 : D} (h : PD (.int 4) S) : Wp (dLen (.tup [x0, x1, x2, x3])) S PD := wp_run.mpr h
theorem p_lenT5 {x0 x1 x2 x3 x4 : D} (h : PD (.int 5) S) : Wp (dLen (.tup [x0, x1, x2, x3, x4])) S PD := wp_run.mpr h
theorem p_lenL0 (h : PD (.int 0) S) : Wp (dLen (.lst [])) S PD := wp_run.mpr h
theorem p_lenL1 {x0 : D} (h : PD (.int 1) S) : Wp (dLen (.lst [x0])) S PD := wp_run.mpr h
theorem p_lenL2 {x0 x1 : D} (h : PD (.int 2) S) : Wp (dLen (.lst [x0, x1])) S PD := wp_run.mpr h
theorem p_lenL3 {x0 x1 x2 : D} (h : PD (.int 3) S) : Wp (dLen (.lst [x0, x1, x2])) S PD := wp_run.mpr h
theorem p_lenL4 {x0 x1 x2 x3 : D} (h : PD (.int 4) S) : Wp (dLen (.lst [x0, x1, x2, x3])) S PD := wp_run.mpr h
theorem p_lenL5 {x0 x1 x2 x3 x4 : D} (h : PD (.int 5) S) : Wp (dLen (.lst [x0, x1, x2, x3, x4])) S PD := wp_run.mpr h
theorem p_revT {ds : List D} (h : PD (.tup ds.reverse) S) : Wp (dStep (-1) (.tup ds)) S PD := by
  rw [dStep_rev]
  exact go_pure h
end
end Ev
local macro_rules | `(tactic| regstrif_gather) => `(tactic| first
  | with_reducible refine Ev.p_lenT0 ?_
  | with_reducible refine Ev.p_lenT1 ?_
  | with_reducible refine Ev.p_lenT2 ?_
  | with_reducible refine Ev.p_lenT3 ?_
  | with_reducible refine Ev.p_lenT4 ?_
  | with_reducible refine Ev.p_lenT5 ?_
  | with_reducible refine Ev.p_lenL0 ?_
  | with_reducible refine Ev.p_lenL1 ?_
  | with_reducible refine Ev.p_lenL2 ?_
  | with_reducible refine Ev.p_lenL3 ?_
  | with_reducible refine Ev.p_lenL4 ?_
  | with_reducible refine Ev.p_lenL5 ?_
  | with_reducible refine Ev.p_revT ?_)
set_option maxRecDepth 100000
set_option maxHeartbeats 2000000
namespace Ev
open PySem L2
section
variable {S : List Ob} {sd : List SV} {N : List SV → List Ob → Prop} {R : D → List Ob → Prop} {B C : List SV → List Ob → Prop} {Q : D → List Ob → Prop} {c m n : Nat} {ms : MS} {ds : List D}
theorem go_mk (l : ds.length + 1 = m) (h : Ws ms (slots n (.own (.ins c []) :: ds.map .val)) S (fun sd S' => ∃ es, sd[0]? = some (.own (.ins c es)) ∧ Q (.ins c es) S') (fun _ _ => False) (fun _ _ => False) (fun _ _ => False)) : Wp (mkFn c m n ms ds) S Q := by
  have h := h.run
  refine wp_run.mpr ?_
  unfold Run mkFn
  unfold RunS at h
  rw [if_pos l]
  rcases e : ms (slots n (.own (.ins c []) :: ds.map .val)) S with _ | ⟨sd | _ | _ | _ | _, S'⟩
  · rw [e] at h; exact h
  · rw [e] at h
    obtain ⟨es, e0, q⟩ := h
    unfold mkR
    simp only
    rw [e0]
    simp only [if_true]
    exact q
  · rw [e] at h; exact h
  · rw [e] at h; exact h
  · rw [e] at h; exact h
  · rw [e] at h; exact h
theorem gs_setF {i : Nat} {tbl : Nat → Option Nat} {g : List SV → M D} {j : Nat} (e : sd[i]? = some (.own (.ins c ds))) (t : tbl c = some j) (h : Wp (g sd) S fun d S' => ∃ es, putL ds j d = some es ∧ N (sd.set i (.own (.ins c es))) S') : Ws (setFS i tbl g) sd S N R B C := by
  have h := h.run
  refine ws_run.mpr ?_
  unfold RunS setFS exS
  unfold Run at h
  rcases e2 : g sd S with _ | ⟨_ | d, S'⟩
  · rw [e2] at h; exact h
  · rw [e2] at h; exact h
  · rw [e2] at h
    obtain ⟨es, e3, q⟩ := h
    simp only [e, t, e3]
    exact q
end
end Ev
set_option maxRecDepth 100000
set_option maxHeartbeats 2000000
namespace Ev
open PySem L2
end Ev
set_option maxRecDepth 100000
set_option maxHeartbeats 2000000
namespace Ev
open PySem PySem.Spec PyProof.Rows L2
end Ev
set_option maxRecDepth 100000
set_option maxHeartbeats 2000000
namespace Ev
open PySem PySem.Spec PyProof.Rows L2
section
variable {G : Sg} {X : Cx} {W : WX} {k : Nat}
def augS (i : Nat) (f : List SV → M D) : MS := fun sd S => match sd[i]? with
  | some (SV.val (.int a)) => exS f (fun b sd S => match b with
    | .int j => some (.next (sd.set i (.val (.int (a + j)))), S)
    | _ => none) sd S
  | _ => none
theorem s_aug {i : Nat} {x : Str} {e : Expr} {f : List SV → M D} {pos pos' : Pos} (c : Ctx G X W k) (hi : X.N[i]? = some x) (hx : Loc X.env.scope x) (he : PV G X W e f) (hf : X.fn x = true ∨ X.env.scope.names.lookup x = some .local) :
    PSV G X W (.AugAssign (.Name x pos') .Add e pos) (augS i f) := by
  refine PS.imp (ps_aug c.nd hi hx he ip_add hf) fun D σ H q => ?_
  obtain ⟨w0, w, sd, S, e, r, q⟩ := q
  unfold augS at q
  rcases hs : sd[i]? with _ | _ | d | o
  · rw [hs] at q; exact q.elim
  · rw [hs] at q; exact q.elim
  · rw [hs] at q
    cases d with
    | int a =>
      obtain ⟨v, h1, h2⟩ := r.vl i _ hs
      cases (show v = .int a from h2)
      refine ⟨.int a, h1, w0, w, sd, S, e, r, exS_step q r fun w1 S1 b u e1 r1 rv q1 => ?_⟩
      cases b with
      | int j =>
        cases (show u = .int j from rv)
        exact ⟨a, j, rfl, rfl, q1 w1 _ (Stay.refl w1) (r1.setv (d := .int (a + j)) rfl i)⟩
      | _ => exact q1.elim
    | _ => exact q.elim
  · rw [hs] at q; exact q.elim
end
theorem gs_aug {S : List Ob} {sd : List SV} {N : List SV → List Ob → Prop} {R : D → List Ob → Prop} {B C : List SV → List Ob → Prop} {f : List SV → M D} {i : Nat} {a : Int} (e : sd[i]? = some (.val (.int a)))
    (h : Wp (f sd) S fun d S' => ∃ j, d = .int j ∧ N (sd.set i (.val (.int (a + j)))) S') : Ws (augS i f) sd S N R B C := by
  refine ws_run.mpr ?_
  unfold RunS augS
  rw [e]
  refine (runS_ex (k := fun b sd S => match b with
    | .int j => some (.next (sd.set i (.val (.int (a + j)))), S)
    | _ => none)).mpr (h.run.mono fun d S' q => ?_)
  obtain ⟨j, rfl, q⟩ := q
  exact q
end Ev
set_option maxRecDepth 100000
set_option maxHeartbeats 2000000
namespace Ev
open PySem PySem.Spec PyProof.Rows L2
end Ev
set_option maxRecDepth 100000
set_option maxHeartbeats 2000000
namespace Ev
open PySem PySem.Spec PyProof.Rows L2
def Txt (n : Nat) (m : M D) : Prop := ∃ y : Str, m = M.pure (.str y) ∧ y.length ≤ n
theorem str_app_len (x y : Str) : (x ++ y).length = x.length + y.length := by
  show (x.cps ++ y.cps).size = _
  rw [Array.size_append]
  rfl
end Ev
set_option maxRecDepth 100000
set_option maxHeartbeats 2000000
namespace Ev
open PySem PySem.Spec PyProof.Rows L2
end Ev
set_option maxRecDepth 100000
set_option maxHeartbeats 2000000
namespace Ev
open PySem PySem.Spec PyProof.Rows L2
end Ev
set_option maxRecDepth 100000
set_option maxHeartbeats 2000000
namespace Ev
open PySem PySem.Spec PyProof.Rows L2
section
variable {P : Program} {w : World} {K : PySem.W.Frag} {mg : Str → Option Value} {base : Heap} {j k : Nat} {f : Addr} {fd : FuncData} {N ps : List Str}
def DecR (fr : List Env) (P : Program) (w : World) (H : Hp) (s : Shared) (Q : Hp → Prop) (r : Result) (s' : Shared) : Prop :=
  r = .ok (.ret .notImplemented) ∧ CE fr P w H s (fun v H' => v = .non ∧ Q H') .none s'
theorem dec_of {name qual : Str} {params : Arguments} {c : Expr} {rest : List Stmt} {p1 p2 p3 : Pos} {scope : Scope} {dV kV doc pm cdv ct oc : Value} {an od : Option Addr} {osl : Array (Option Value)}
    (lk : K.lookup f = some ⟨oc, od, .func (PySem.W.fnOf name qual params (.If c [.Return (some (.Name "NotImplemented" p1)) p2] [] p3 :: rest) scope dV kV doc pm an cdv ct), osl⟩) (hcd : PySem.W.codeIn K cdv qual = true) (SC : FnScope N ps scope)
    {A : Around} {fr : List Env} {s : Shared} {H : Hp} {args : Args} {us : List Value} {vs : List V} {Q : Hp → Prop}
    {bb : Bool} (hr : Rm bb (k + 1) A) (e0 : Env0 P w K mg base A fr s H) (hbind : BindsTo s (PySem.W.fnOf name qual params (.If c [.Return (some (.Name "NotImplemented" p1)) p2] [] p3 :: rest) scope dV kV doc pm an cdv ct) args (ps.zip us)) (rv : Vals vs us) (len : vs.length = ps.length)
    (hm : mg "NotImplemented" = none)
    (hb : ∀ E : XK, Rm bb k (A.deeper (envOfC qual scope s.heap.objs.size f cdv)) → Gl (cxOf (L2.CX P w) P w K mg base N qual scope f cdv A fr s H E) "NotImplemented" ∧
      ∃ tc, PT (cxOf (L2.CX P w) P w K mg base N qual scope f cdv A fr s H E) c tc ∧ tc (start N vs) H (fun b H' => b = true ∧ Q H')) :
    codeAny (model P w) A (.call (.ref f) args) (DecR fr P w H s Q) s := by
  have inK : K.In s.heap := by
    refine e0.mod.kin.keeps ?_
    exact fun b o e => (e0.bs b o e).1
  have noL : s.heap.NoLimit := by
    refine e0.mod.nolimit.keeps ?_
    exact fun b o e => (e0.bs b o e).1
  have kinds : ∀ y ∈ ps.zip us, scope.names.lookup y.1 = some .local ∨
      (scope.names.lookup y.1 = some .cell ∧ ((cellsFrom (s.heap.objs.size + 1) scope.names []).lookup y.1).isSome = true) := by
    rintro ⟨n, v⟩ hy
    have hn := SC.par n (List.of_mem_zip hy).1
    exact hn.imp id fun q => ⟨q, PySem.W.cellsFrom_some _ _ _ (.inl q)⟩
  refine codeAny_call_function hr.room.depth (inK _ _ lk) rfl SC.co SC.gen rfl ?_ (hbind _ _ _ _ ?_)
  · exact PySem.W.codeRec_of inK hcd
  refine wpAny_newFunctionEnv_cells SC.kind kinds ?_
  rintro env rfl s1 x
  refine ⟨noL.keeps x.toInCall.keep, codeAny_func ?_⟩
  obtain ⟨hg, t, ht, hq⟩ := hb (fun _ _ _ => False) (hr.deeper _)
  have I := inv_start (CX := L2.CX P w) (P := P) (w := w) (E := fun _ _ _ => False) SC hr.room.hd e0 len rv x
  have run := ht.run [] s1 _ H _ I hq
  have thnX : wpAny (model P w) (cxOf (L2.CX P w) P w K mg base N qual scope f cdv A fr s H (fun _ _ _ => False)).A (execs (.If c [.Return (some (.Name "NotImplemented" p1)) p2] [] p3 :: rest) (cxOf (L2.CX P w) P w K mg base N qual scope f cdv A fr s H (fun _ _ _ => False)).env)
      (fun fl s' => fl = .ret .notImplemented ∧ CE fr P w H s (fun v H' => v = .non ∧ Q H') .none s') (cxOf (L2.CX P w) P w K mg base N qual scope f cdv A fr s H (fun _ _ _ => False)).xe s1 := by
    refine wpAny_execs_cons (wpAny_If (wpAny_mono run (fun d s2 z => ?_) fun _ _ e => e))
    obtain ⟨H1, I1, rfl, q1⟩ := z
    refine wpAny_execs_cons (wpAny_Return_some (ld_blt I1 hg hm rfl ?_))
    exact ⟨rfl, .non, H1, I1.os, I1.bare, I1.base, I1.hok, rfl, rfl, q1⟩
  refine wpAny_mono thnX ?_ (fun e s' hs => ?_)
  · rintro fl s' ⟨rfl, z⟩
    exact ⟨rfl, z⟩
  · refine wpAny_mono hs (fun y s'' hq => ?_) (fun e' s'' hq => ?_)
    · obtain ⟨_, _, _, _, _, _, _, _, _, _, _, _, z⟩ := hq
      exact z.elim
    · obtain ⟨_, _, _, _, _, _, _, _, _, _, _, _, z⟩ := hq
      exact z.elim
def DecS (P : Program) (w : World) (K : PySem.W.Frag) (mg : Str → Option Value) (base : Heap) (G : Sg) (k m n : Nat) (f : Addr) (fc : List SV → M Bool) : Prop :=
  ∀ (A : Around) (fr : List Env) (s : Shared) (wd : Wd) (us : List Value) (vs : List V) (ds : List D) (S S' : List Ob) (Q : Hp → Prop),
    Rm G.gd k A → Env0 P w K mg base A fr s wd.H → Vals vs us → RepS G wd S → RepVs G wd ds vs → ds.length = m → fc (slots n (ds.map .val)) S = some (.ok true, S') → (∀ w', Ext wd w' → RepS G w' S' → Q w'.H) →
    codeAny (model P w) A (.call (.ref f) ⟨us, []⟩) (DecR fr P w wd.H s Q) s
theorem dec_rule {G : Sg} {x qual : Str} {st : Stmt} {c : Expr} {rest : List Stmt} {p1 p2 p3 : Pos} {fc : List SV → M Bool} {m n : Nat} (F : Fun K x qual st f fd) (SC : FnScope N ps (defScope st)) (hb : Binds K fd ps []) (cK : G.K = K) (hbody : defBody st = .If c [.Return (some (.Name "NotImplemented" p1)) p2] [] p3 :: rest) (hm : mg "NotImplemented" = none)
    (nl : N.length = n) (pl : ps.length = m) (mn : m ≤ n)
    (B : ∀ (cdv : Value) (A : Around) (fr : List Env) (s : Shared) (H : Hp) (E : XK), Ctx G (XF P w K mg base N qual st f cdv A fr s H E) (WF E) k → Gl (XF P w K mg base N qual st f cdv A fr s H E) "NotImplemented" ∧ PB G (XF P w K mg base N qual st f cdv A fr s H E) (WF E) c fc) :
    DecS P w K mg base G (k + 2) m n f fc := by
  obtain ⟨oc, od, kV, doc, pm, an, cdv, ct, osl, rfl, lk, hcd⟩ := F.ex
  intro A fr s wd us vs ds S S' Q hr e0 rv rs rd ld ht hq
  have vl : vs.length = ps.length := by rw [← rd.length, ld, pl]
  have inK : K.In s.heap := e0.mod.kin.keeps fun b o e => (e0.bs b o e).1
  have b2 := hb s us inK (by rw [List.append_nil, ← rv.length]; exact vl)
  rw [List.append_nil] at b2
  rw [hbody] at lk b2
  refine dec_of (Q := Q) (k := k + 1) lk hcd SC hr e0 b2 rv vl hm fun E hr2 => ?_
  obtain ⟨b3, b4⟩ := B cdv A fr s wd.H E (ctxF cK SC hr2)
  refine ⟨b3, _, b4, ?_⟩
  subst nl
  refine ⟨wd, wd, _, S, rfl, R.enter rs rd (by omega), ?_⟩
  show FinG G _ _ wd _ (fc (slots N.length (ds.map .val)) S)
  rw [ht]
  intro w' v e s' rv'
  cases (show v = true from rv')
  exact ⟨rfl, hq w' e s'⟩
end
end Ev
set_option maxRecDepth 100000
set_option maxHeartbeats 2000000
namespace PySem.W
open PySem PyProof.Rows
section
variable {prog : Program} {w : World} {A : Around} {E : Value → Shared → Prop} {s : Shared} {K : Frag} {x C : Addr} {h₀ : Heap} {ox oy : Obj} {od : Option Obj} {f : Addr}
theorem evn_eq {u : Value} {T : String} {Q : Value → Shared → Prop} {R : Shared → Prop} (hu : A.units < cLine) (X : K.In s.heap) (I : InstAt s.heap x ox C od) (hT : s.TypeIs u T) (sub : subIn K (.type T) (.ref C) = some false)
    (hs : findIn K (.ref C) "__eq__" = some (some (.ref f))) (hf : isFn K (.ref f) = true) (hsame : ∀ (s' : Shared) (Q' : Bool → Shared → Prop), R s' → Q' false s' → wpAny (model prog w) A (isSame (.ref x) u) Q' E s')
    (h1 : wpAny (model prog w) A (call (.ref f) [.ref x, u]) (fun v s' => v = .notImplemented ∧ R s') E s)
    (h2 : ∀ s', R s' → wpAny (model prog w) A (tryCompare u "__eq__" (.ref x)) (fun r s'' => r = none ∧ s'' = s') E s')
    (h3 : ∀ s', R s' → Q (.bool false) s') : wpAny (model prog w) A (compareOp .Eq (.ref x) u) Q E s := by
  refine cmp_ofEq ?_
  have one : wpAny (model prog w) A (tryCompare (.ref x) "__eq__" u) (fun r s' => r = none ∧ R s') E s := by
    unfold tryCompare
    refine wpAny_bind (ifBound_K X I hs hf (wpAny_mono h1 (fun v s' hv => ?_) fun _ _ e => e))
    obtain ⟨rfl, hr⟩ := hv
    exact wpAny_pure ⟨rfl, hr⟩
  simp only [richCompare, cmpInfo_Eq, oneThing_ref]
  refine wpAny_holding (wpAny_bind (wpAny_cRoomFor hu ?_))
  refine wpAny_bind (I.type.here ?_)
  refine wpAny_bind (wpAny_typeOf hT ?_)
  split
  · refine wpAny_bind ((looks_subIn X sub).here ?_)
    simp only [Bool.false_eq_true, if_false, Bool.not_false, if_true]
    refine wpAny_bind (m := tryCompare (.ref x) _ u) (wpAny_mono one (fun r s1 z => ?_) fun _ _ e => e)
    obtain ⟨z1, z2⟩ := z
    subst z1
    refine wpAny_bind (m := tryCompare u _ (.ref x)) (wpAny_mono (h2 s1 z2) (fun r s2 z => ?_) fun _ _ e => e)
    obtain ⟨z1, z3⟩ := z
    subst z1
    subst z3
    exact wpAny_bind (wpAny_rule (wpAny_bind (hsame _ _ z2 (wpAny_pure (h3 _ z2)))))
  · rename_i q
    exact absurd (by simp) q
end
end PySem.W
set_option maxRecDepth 100000
set_option maxHeartbeats 2000000
namespace PySem.W
open PyProof.Rows
open PySem.AutoSeq1 (wpAny_loadPart')
section
variable (l : Addr) (C dx : Addr)
theorem dcl_int_eq (b : Int) (u : Tok) : Meets (Builtin.«int.__eq__» ⟨[.int b u, .ref l], []⟩) (fun _ R s => s.heap.get? l = some (instObj C dx) ∧ R (.ok (.ret .notImplemented)) s) :=
  .of_wp fun prog w A R s h => by obtain ⟨hp, g, d, tk, os⟩ := s; obtain ⟨hl, h⟩ := h; wp_walk using wpAny_loadPart' hl, wpAny_load hl; exact ⟨_, rfl, h⟩
theorem dcl_int_ne (b : Int) (u : Tok) : Meets (Builtin.«int.__ne__» ⟨[.int b u, .ref l], []⟩) (fun _ R s => s.heap.get? l = some (instObj C dx) ∧ R (.ok (.ret .notImplemented)) s) :=
  .of_wp fun prog w A R s h => by obtain ⟨hp, g, d, tk, os⟩ := s; obtain ⟨hl, h⟩ := h; wp_walk using wpAny_loadPart' hl, wpAny_load hl; exact ⟨_, rfl, h⟩
theorem dcl_bl_eq (b : Bool) : Meets (Builtin.«int.__eq__» ⟨[.bool b, .ref l], []⟩) (fun _ R s => s.heap.get? l = some (instObj C dx) ∧ R (.ok (.ret .notImplemented)) s) :=
  .of_wp fun prog w A R s h => by obtain ⟨hp, g, d, tk, os⟩ := s; obtain ⟨hl, h⟩ := h; wp_walk using wpAny_loadPart' hl, wpAny_load hl; exact ⟨_, rfl, h⟩
theorem dcl_bl_ne (b : Bool) : Meets (Builtin.«int.__ne__» ⟨[.bool b, .ref l], []⟩) (fun _ R s => s.heap.get? l = some (instObj C dx) ∧ R (.ok (.ret .notImplemented)) s) :=
  .of_wp fun prog w A R s h => by obtain ⟨hp, g, d, tk, os⟩ := s; obtain ⟨hl, h⟩ := h; wp_walk using wpAny_loadPart' hl, wpAny_load hl; exact ⟨_, rfl, h⟩
theorem dcl_str_eq (b : Str) (u : Tok) : Meets (Builtin.«str.__eq__» ⟨[.str b u, .ref l], []⟩) (fun _ R s => s.heap.get? l = some (instObj C dx) ∧ R (.ok (.ret .notImplemented)) s) :=
  .of_wp fun prog w A R s h => by obtain ⟨hp, g, d, tk, os⟩ := s; obtain ⟨hl, h⟩ := h; wp_walk using wpAny_loadPart' hl, wpAny_load hl; exact ⟨_, rfl, h⟩
theorem dcl_str_ne (b : Str) (u : Tok) : Meets (Builtin.«str.__ne__» ⟨[.str b u, .ref l], []⟩) (fun _ R s => s.heap.get? l = some (instObj C dx) ∧ R (.ok (.ret .notImplemented)) s) :=
  .of_wp fun prog w A R s h => by obtain ⟨hp, g, d, tk, os⟩ := s; obtain ⟨hl, h⟩ := h; wp_walk using wpAny_loadPart' hl, wpAny_load hl; exact ⟨_, rfl, h⟩
variable (K : Frag) (t : Addr) (items : Array Value) (n : Nat) (dd : Option Addr) (sl : Array (Option Value))
theorem inst_not {M : Model} {h : Heap} {base : Value} {r : Bool} (X : K.In h) (hl : h.get? l = some (instObj C dx)) (e : mroIn K C base = some r) : Looks M h (isInstance (.ref l) base) r := by
  have h1 : Looks M h (typeOf (.ref l)) (.ref C) := (Looks.ld hl).andThen .now
  exact h1.andThen (looks_mroIn X e)
theorem dcl_tup_eq (e : mroIn K C (.type "tuple") = some false) : Meets (Builtin.«tuple.__eq__» ⟨[.ref t, .ref l], []⟩) (fun _ R s => K.In s.heap ∧ s.heap.get? t = some { cls := .type "tuple", dict := dd, data := .seq items n, slots := sl } ∧ s.heap.get? l = some (instObj C dx) ∧ R (.ok (.ret .notImplemented)) s) :=
  .of_wp fun prog w A R s h => by
    obtain ⟨hp, g, d, tk, os⟩ := s; obtain ⟨X, ht, hl, h⟩ := h
    have f1 := inst_not (M := model prog w) (r := false) l C dx K X hl e
    wp_walk using wpAny_loadPart' hl, wpAny_loadPart' ht, f1.here
    exact ⟨_, rfl, h⟩
theorem dcl_tup_ne (e : mroIn K C (.type "tuple") = some false) : Meets (Builtin.«tuple.__ne__» ⟨[.ref t, .ref l], []⟩) (fun _ R s => K.In s.heap ∧ s.heap.get? t = some { cls := .type "tuple", dict := dd, data := .seq items n, slots := sl } ∧ s.heap.get? l = some (instObj C dx) ∧ R (.ok (.ret .notImplemented)) s) :=
  .of_wp fun prog w A R s h => by
    obtain ⟨hp, g, d, tk, os⟩ := s; obtain ⟨X, ht, hl, h⟩ := h
    have f1 := inst_not (M := model prog w) (r := false) l C dx K X hl e
    wp_walk using wpAny_loadPart' hl, wpAny_loadPart' ht, f1.here
    exact ⟨_, rfl, h⟩
theorem dcl_lst_eq (e : mroIn K C (.type "list") = some false) : Meets (Builtin.«list.__eq__» ⟨[.ref t, .ref l], []⟩) (fun _ R s => K.In s.heap ∧ s.heap.get? t = some { cls := .type "list", dict := dd, data := .seq items n, slots := sl } ∧ s.heap.get? l = some (instObj C dx) ∧ R (.ok (.ret .notImplemented)) s) :=
  .of_wp fun prog w A R s h => by
    obtain ⟨hp, g, d, tk, os⟩ := s; obtain ⟨X, ht, hl, h⟩ := h
    have f1 := inst_not (M := model prog w) (r := false) l C dx K X hl e
    wp_walk using wpAny_loadPart' hl, wpAny_loadPart' ht, f1.here
    exact ⟨_, rfl, h⟩
theorem dcl_lst_ne (e : mroIn K C (.type "list") = some false) : Meets (Builtin.«list.__ne__» ⟨[.ref t, .ref l], []⟩) (fun _ R s => K.In s.heap ∧ s.heap.get? t = some { cls := .type "list", dict := dd, data := .seq items n, slots := sl } ∧ s.heap.get? l = some (instObj C dx) ∧ R (.ok (.ret .notImplemented)) s) :=
  .of_wp fun prog w A R s h => by
    obtain ⟨hp, g, d, tk, os⟩ := s; obtain ⟨X, ht, hl, h⟩ := h
    have f1 := inst_not (M := model prog w) (r := false) l C dx K X hl e
    wp_walk using wpAny_loadPart' hl, wpAny_loadPart' ht, f1.here
    exact ⟨_, rfl, h⟩
end
end PySem.W
namespace PySem.W
open PyProof.Rows L2
def KindV (K : Frag) (H : Hp) (v : V) (T : String) : Prop :=
  (v = .non ∧ T = "NoneType") ∨ (∃ b, v = .bl b ∧ T = "bool") ∨ (∃ i, v = .int i ∧ T = "int") ∨ (∃ x, v = .str x ∧ T = "str") ∨ (∃ a xs, v = .ref a ∧ SqT K H a xs ∧ T = "tuple") ∨ (∃ a xs, v = .ref a ∧ SqL K H a xs ∧ T = "list")
section
variable {X : Cx} {pins : List (Addr × Obj)} {σ : L2.St} {H : Hp} {s : Shared} {A : Around} {E : Value → Shared → Prop} {Q : Option Value → Shared → Prop} {v : V} {u : Value} {T : String} {l C dx : Addr}
theorem KindV.type (I : Inv X pins σ H s) (k : KindV X.K H v T) (r : L2.RelV v u) : s.TypeIs u T := by
  rcases k with ⟨rfl, rfl⟩ | ⟨b, rfl, rfl⟩ | ⟨i, rfl, rfl⟩ | ⟨x, rfl, rfl⟩ | ⟨a, xs, rfl, q, rfl⟩ | ⟨a, xs, rfl, q, rfl⟩
  · cases r; exact rfl
  · cases r; exact rfl
  · obtain ⟨t, rfl⟩ := r; exact rfl
  · obtain ⟨t, rfl⟩ := r; exact rfl
  · cases r
    obtain ⟨its, _, ⟨o, e, c, _⟩, _⟩ := I.tuple q
    exact ⟨o, e, c⟩
  · cases r
    obtain ⟨its, _, ⟨o, n, e, c, _⟩, _⟩ := I.list q
    exact ⟨o, e, c⟩
theorem dcl_of (I : Inv X pins σ H s) (k : KindV X.K H v T) (r : L2.RelV v u) (hl : s.heap.get? l = some (instObj C dx)) (h1 : mroIn X.K C (.type "tuple") = some false) (h2 : mroIn X.K C (.type "list") = some false) {name : Str} (hn : name = "__eq__" ∨ name = "__ne__") (q : Q none s) :
    wpAny (model X.prog X.w) A (tryCompare u name (.ref l)) Q E s := by
  have tt := k.type I r
  rcases k with ⟨rfl, rfl⟩ | ⟨b, rfl, rfl⟩ | ⟨i, rfl, rfl⟩ | ⟨x, rfl, rfl⟩ | ⟨a, xs, rfl, sq, rfl⟩ | ⟨a, xs, rfl, sq, rfl⟩
  · cases r
    rcases hn with rfl | rfl
    · exact wpAny_tryCompare_declines tt F.slot_NoneType_eq (call_gives F.slot_NoneType_eq tt F.entry_NoneType_eq (F.args_NoneType_eq_2 _ _) (SeqAt.NoneType___eq___none_ref_0 l) ⟨rfl, q⟩)
    · exact wpAny_tryCompare_declines tt F.slot_NoneType_ne (call_gives F.slot_NoneType_ne tt F.entry_NoneType_ne (F.args_NoneType_ne_2 _ _) (SeqAt.NoneType___ne___none_ref_0 l) ⟨rfl, q⟩)
  · cases r
    rcases hn with rfl | rfl
    · exact wpAny_tryCompare_declines tt F.slot_bool_eq (call_meets F.slot_bool_eq tt F.entry_int_eq (F.args_int_eq_2 _ _) (dcl_bl_eq l C dx b) ⟨hl, rfl, q⟩)
    · exact wpAny_tryCompare_declines tt F.slot_bool_ne (call_meets F.slot_bool_ne tt F.entry_int_ne (F.args_int_ne_2 _ _) (dcl_bl_ne l C dx b) ⟨hl, rfl, q⟩)
  · obtain ⟨t, rfl⟩ := r
    rcases hn with rfl | rfl
    · exact wpAny_tryCompare_declines tt F.slot_int_eq (call_meets F.slot_int_eq tt F.entry_int_eq (F.args_int_eq_2 _ _) (dcl_int_eq l C dx i t) ⟨hl, rfl, q⟩)
    · exact wpAny_tryCompare_declines tt F.slot_int_ne (call_meets F.slot_int_ne tt F.entry_int_ne (F.args_int_ne_2 _ _) (dcl_int_ne l C dx i t) ⟨hl, rfl, q⟩)
  · obtain ⟨t, rfl⟩ := r
    rcases hn with rfl | rfl
    · exact wpAny_tryCompare_declines tt F.slot_str_eq (call_meets F.slot_str_eq tt F.entry_str_eq (F.args_str_eq_2 _ _) (dcl_str_eq l C dx x t) ⟨hl, rfl, q⟩)
    · exact wpAny_tryCompare_declines tt F.slot_str_ne (call_meets F.slot_str_ne tt F.entry_str_ne (F.args_str_ne_2 _ _) (dcl_str_ne l C dx x t) ⟨hl, rfl, q⟩)
  · cases r
    obtain ⟨its, _, ⟨⟨cls, dd, data, sl⟩, e, c, n, d⟩, _⟩ := I.tuple sq
    simp only at c d
    subst c d
    rcases hn with rfl | rfl
    · exact wpAny_tryCompare_declines tt F.slot_tuple_eq (call_meets F.slot_tuple_eq tt F.entry_tuple_eq (F.args_tuple_eq_2 _ _) (dcl_tup_eq l C dx X.K a its.toArray n dd sl h1) ⟨I.kIn, e, hl, rfl, q⟩)
    · exact wpAny_tryCompare_declines tt F.slot_tuple_ne (call_meets F.slot_tuple_ne tt F.entry_tuple_ne (F.args_tuple_ne_2 _ _) (dcl_tup_ne l C dx X.K a its.toArray n dd sl h1) ⟨I.kIn, e, hl, rfl, q⟩)
  · cases r
    obtain ⟨its, _, ⟨⟨cls, dd, data, sl⟩, n, e, c, dn, d⟩, _⟩ := I.list sq
    simp only at c d dn
    subst c d dn
    rcases hn with rfl | rfl
    · exact wpAny_tryCompare_declines tt F.slot_list_eq (call_meets F.slot_list_eq tt F.entry_list_eq (F.args_list_eq_2 _ _) (dcl_lst_eq l C dx X.K a its.toArray n none sl h2) ⟨I.kIn, e, hl, rfl, q⟩)
    · exact wpAny_tryCompare_declines tt F.slot_list_ne (call_meets F.slot_list_ne tt F.entry_list_ne (F.args_list_ne_2 _ _) (dcl_lst_ne l C dx X.K a its.toArray n none sl h2) ⟨I.kIn, e, hl, rfl, q⟩)
end
end PySem.W
set_option maxRecDepth 100000
set_option maxHeartbeats 2000000
namespace PySem.W
open PySem PyProof.Rows
section
variable {prog : Program} {w : World} {A : Around} {E : Value → Shared → Prop} {s : Shared} {K : Frag} {x C : Addr} {h₀ : Heap} {ox oy : Obj} {od : Option Obj} {f : Addr}
open Builtin in
theorem evn_ne {u : Value} {T : String} {Q : Value → Shared → Prop} {R : Shared → Prop} (hu : A.units < cLine) (hu1 : A.in1.units < cLine) (X : K.In s.heap) (I : InstAt s.heap x ox C od) (hT : s.TypeIs u T) (sub : subIn K (.type T) (.ref C) = some false)
    (hs : findIn K (.ref C) "__eq__" = some (some (.ref f))) (hf : isFn K (.ref f) = true) (hn : findIn K (.ref C) "__ne__" = some (some (.builtin "object.__ne__"))) (hm : mroIn K C (.type "object") = some true) (hsame : ∀ (s' : Shared) (Q' : Bool → Shared → Prop), R s' → Q' false s' → wpAny (model prog w) A (isSame (.ref x) u) Q' E s')
    (h1 : wpAny (model prog w) A.in1 (call (.ref f) [.ref x, u]) (fun v s' => v = .notImplemented ∧ R s') E s)
    (h2 : ∀ s', R s' → wpAny (model prog w) A (tryCompare u "__ne__" (.ref x)) (fun r s'' => r = none ∧ s'' = s') E s')
    (h3 : ∀ s', R s' → Q (.bool true) s') : wpAny (model prog w) A (compareOp .NotEq (.ref x) u) Q E s := by
  refine cmp_ofNotEq ?_
  have body : wpAny (model prog w) A.in1 (Builtin.«object.__ne__» ⟨[.ref x, u], []⟩) (fun r s' => r = .done (.ret .notImplemented) ∧ R s') E s := by
    unfold Builtin.«object.__ne__»
    repeat (first
      | with_reducible refine wpAny_cRoomFor hu1 ?_
      | (refine wpAny_bind (m := callSpecialIfBound? (.ref x) (Str.ofString "__eq__") [u])
          (ifBound_K X I hs hf (wpAny_mono h1 (fun r s' hr => by
            obtain ⟨rfl, hq⟩ := hr
            have hq : Fin.done (Flow.ret Value.notImplemented) = .done (.ret .notImplemented) ∧ R s' := ⟨rfl, hq⟩
            repeat (first | exact hq | exact wpAny_pure hq | wp_step)) fun _ _ e => e)))
      | wp_step)
  have one : wpAny (model prog w) A (tryCompare (.ref x) "__ne__" u) (fun r s' => r = none ∧ R s') E s := by
    unfold tryCompare
    refine wpAny_bind (evx_ifB X I hn F.slot_object_ne.bind (wpAny_call (codeAny_call_builtin F.slot_object_ne.plain F.entry_object_ne (check_slot (i := "object.__ne__") (owner := "object") (n := "__ne__") (by decide +kernel) (by decide +kernel) (I.type.andThen (looks_mroIn X hm)) (F.cmpArgs_ne _ _) ?_))))
    refine wpAny_mono body (fun r s' hr => ?_) fun _ _ e => e
    obtain ⟨rfl, hq⟩ := hr
    exact wpAny_pure ⟨rfl, hq⟩
  simp only [richCompare, cmpInfo_NotEq, oneThing_ref]
  refine wpAny_holding (wpAny_bind (wpAny_cRoomFor hu ?_))
  refine wpAny_bind (I.type.here ?_)
  refine wpAny_bind (wpAny_typeOf hT ?_)
  split
  · refine wpAny_bind ((looks_subIn X sub).here ?_)
    simp only [Bool.false_eq_true, if_false, Bool.not_false, if_true]
    refine wpAny_bind (m := tryCompare (.ref x) _ u) (wpAny_mono one (fun r s1 z => ?_) fun _ _ e => e)
    obtain ⟨z1, z2⟩ := z
    subst z1
    refine wpAny_bind (m := tryCompare u _ (.ref x)) (wpAny_mono (h2 s1 z2) (fun r s2 z => ?_) fun _ _ e => e)
    obtain ⟨z1, z3⟩ := z
    subst z1
    subst z3
    exact wpAny_bind (wpAny_rule (wpAny_bind (hsame _ _ z2 (wpAny_pure (h3 _ z2)))))
  · rename_i q
    exact absurd (by simp) q
end
end PySem.W
namespace PySem.W
open PyProof.Rows L2
section
variable {X : Cx} {pins : List (Addr × Obj)} {σ : L2.St} {H : Hp} {s : Shared} {A : Around} {E : Value → Shared → Prop} {Q : Bool → Shared → Prop} {v : V} {u : Value} {T : String} {l C dx : Addr}
theorem same_not (I : Inv X pins σ H s) (k : KindV X.K H v T) (r : L2.RelV v u) (hl : s.heap.get? l = some (instObj C dx)) (q : Q false s) : wpAny (model X.prog X.w) A (isSame (.ref l) u) Q E s := by
  have ref : ∀ {a : Addr} {o : Obj}, s.heap.get? a = some o → o.cls ≠ .ref C → wpAny (model X.prog X.w) A (isSame (.ref l) (.ref a)) Q E s := fun {a o} e hc => by
    have ne : l ≠ a := fun z => by
      rw [← z, hl] at e
      cases e
      exact hc rfl
    show wpAny _ A (if (l == a) = true then pure true else _) Q E s
    rw [if_neg (by simpa using ne)]
    refine wpAny_bind (wpAny_load hl (wpAny_bind (wpAny_load e ?_)))
    split
    · rename_i h1 h2
      cases h1
    · exact wpAny_pure q
  rcases k with ⟨rfl, rfl⟩ | ⟨b, rfl, rfl⟩ | ⟨i, rfl, rfl⟩ | ⟨x, rfl, rfl⟩ | ⟨a, xs, rfl, sq, rfl⟩ | ⟨a, xs, rfl, sq, rfl⟩
  · cases r; exact wpAny_pure q
  · cases r; exact wpAny_pure q
  · obtain ⟨t, rfl⟩ := r; exact wpAny_pure q
  · obtain ⟨t, rfl⟩ := r; exact wpAny_pure q
  · cases r
    obtain ⟨its, _, ⟨o, e, c, _⟩, _⟩ := I.tuple sq
    exact ref e (by rw [c]; exact fun z => nomatch z)
  · cases r
    obtain ⟨its, _, ⟨o, n, e, c, _⟩, _⟩ := I.list sq
    exact ref e (by rw [c]; exact fun z => nomatch z)
end
end PySem.W
namespace Ev
open PySem PySem.Spec PyProof.Rows L2
def ifC : List Stmt → Expr
  | .If c _ _ _ :: _ => c
  | _ => .Constant .none 0 ⟨0, 0, 0, 0⟩
def kindD : D → Option String
  | .non => some "NoneType" | .bl _ => some "bool" | .int _ => some "int" | .str _ => some "str" | .tup _ => some "tuple" | .lst _ => some "list" | .scr _ => some "list"
  | _ => none
section
variable {G : Sg} {X : Cx} {W : WX} {k : Nat} {σ : L2.St}
theorem kindD_rep (cK : G.K = X.K) {w : Wd} {d : D} {v : V} {T : String} (r : RepV G w d v) (h : kindD d = some T) : PySem.W.KindV X.K w.H v T := by
  cases d with
  | non => cases h; exact .inl ⟨r, rfl⟩
  | bl b => cases h; exact .inr (.inl ⟨b, r, rfl⟩)
  | int i => cases h; exact .inr (.inr (.inl ⟨i, r, rfl⟩))
  | str x => cases h; exact .inr (.inr (.inr (.inl ⟨x, r, rfl⟩)))
  | tup ds =>
    cases h
    obtain ⟨a, vs, e, hh, _⟩ := r
    exact .inr (.inr (.inr (.inr (.inl ⟨a, vs, e, sqT_of cK hh, rfl⟩))))
  | lst ds =>
    cases h
    obtain ⟨a, vs, e, _, hh, _⟩ := r
    exact .inr (.inr (.inr (.inr (.inr ⟨a, vs, e, .of hh, rfl⟩))))
  | scr ds =>
    cases h
    obtain ⟨a, vs, e, hh, _⟩ := r
    exact .inr (.inr (.inr (.inr (.inr ⟨a, vs, e, sqL_of cK hh, rfl⟩))))
  | _ => cases h
structure DecT (X : Cx) (G : Sg) (k : Nat) (tbl : Nat → Option (Nat × (List SV → M Bool))) : Prop where
  at_ : ∀ c g, tbl c = some g → ∃ f, PySem.W.findIn X.K (.ref (G.ca c)) "__eq__" = some (some (.ref f)) ∧ PySem.W.isFn X.K (.ref f) = true ∧ PySem.W.findIn X.K (.ref (G.ca c)) "__ne__" = some (some (.builtin "object.__ne__")) ∧
    PySem.W.mroIn X.K (G.ca c) (.type "object") = some true ∧ PySem.W.mroIn X.K (G.ca c) (.type "tuple") = some false ∧ PySem.W.mroIn X.K (G.ca c) (.type "list") = some false ∧
    (∀ T ∈ ["NoneType", "bool", "int", "str", "tuple", "list"], PySem.W.subIn X.K (.type T) (.ref (G.ca c)) = some false) ∧ DecS X.prog X.w X.K X.mg X.base G k 2 g.1 f g.2
theorem DecS.mono {P : Program} {w : World} {K : PySem.W.Frag} {mg : Str → Option Value} {base : Heap} {j m n : Nat} {f : Addr} {fc : List SV → M Bool} (h : DecS P w K mg base G j m n f fc) (l : j ≤ k) : DecS P w K mg base G k m n f fc :=
  fun A fr s wd us vs ds S S' Q hr => h A fr s wd us vs ds S S' Q (hr.mono l)
theorem all6 {p : String → Prop} (h1 : p "NoneType") (h2 : p "bool") (h3 : p "int") (h4 : p "str") (h5 : p "tuple") (h6 : p "list") : ∀ T ∈ ["NoneType", "bool", "int", "str", "tuple", "list"], p T := fun T h => by
  simp only [List.mem_cons, List.mem_nil_iff, or_false] at h
  rcases h with rfl | rfl | rfl | rfl | rfl | rfl <;> assumption
def decEq (neg : Bool) (tbl : Nat → Option (Nat × (List SV → M Bool))) (d e : D) : M D := match d with
  | .ins c _ => match tbl c, kindD e with
    | some (n, fc), some _ => fun S => match fc (slots n ([d, e].map .val)) S with
      | some (.ok true, S') => some (.ok (.bl neg), S')
      | _ => none
    | _, _ => M.stuck
  | _ => M.stuck
theorem o_decEq {op : CmpOp} {neg : Bool} {tbl : Nat → Option (Nat × (List SV → M Bool))} (c : Ctx G X W k) (T : DecT X G k tbl) (hop : (op = .Eq ∧ neg = false) ∨ (op = .NotEq ∧ neg = true)) : OpR X (compareOp op) (rD2 G (decEq neg tbl)) := by
  intro pins s σ H v1 v2 v u Q I rv ru ⟨Wx, w2, S2, d, d2, eH, s2, rd, rd2, q⟩
  subst eH
  unfold decEq at q
  cases d with
  | ins c1 ds =>
    simp only at q
    obtain ⟨a1, dx1, fs1, e1, hF1, hb1, _⟩ := id rd
    subst e1
    rcases ht : tbl c1 with _ | ⟨n, fc⟩
    · rw [ht] at q; exact q.elim
    rcases hk : kindD d2 with _ | T2
    · rw [ht, hk] at q; exact q.elim
    rw [ht, hk] at q
    simp only at q
    rcases hf : fc (slots n ([D.ins c1 ds, d2].map .val)) S2 with _ | ⟨_ | b, S3⟩
    · rw [hf] at q; exact q.elim
    · rw [hf] at q; exact q.elim
    cases b with
    | false => rw [hf] at q; exact q.elim
    | true =>
    rw [hf] at q
    obtain ⟨f, fi, isf, fn, hm, m1, m2, sb, Dc⟩ := T.at_ c1 (n, fc) ht
    cases (show v = Value.ref a1 from rv)
    obtain ⟨mA, O1, _⟩ := ins_get I.hok hb1
    obtain ⟨od1, J1, _⟩ := O1.look
    have kv := kindD_rep (X := X) c.cK rd2 hk
    have tT : T2 ∈ ["NoneType", "bool", "int", "str", "tuple", "list"] := by
      cases d2 <;> first | (cases hk; decide) | (exact absurd hk (fun z => nomatch z))
    have hu := c.rm.room.units0
    have hu1 : X.A.in1.units < cLine := (c.rm.in1).room.units0
    let Rr : Shared → Prop := fun s' => ∃ w', Ext w2 w' ∧ RepS G w' S3 ∧ Inv X pins σ w'.H s'
    have tell : ∀ s', Rr s' → ∃ H' dx', Inv X pins σ H' s' ∧ PySem.W.KindV X.K H' v2 T2 ∧ s'.heap.get? a1 = some (PySem.W.instObj (G.ca c1) dx') := fun s' ⟨w', e, s3, I3⟩ => by
      obtain ⟨a, dx', fs', ea, _, hb, _⟩ := RepV.mono e s2.dj _ _ rd
      cases ea
      obtain ⟨mA', O', _⟩ := ins_get I3.hok hb
      exact ⟨w'.H, dx', I3, kindD_rep (X := X) c.cK (RepV.mono e s2.dj _ _ rd2) hk, O'.obj⟩
    have fin : ∀ s', Rr s' → EP X pins σ Q (.bool neg) s' := fun s' ⟨w', e, s3, I3⟩ => ⟨.bl neg, w'.H, I3, rfl, q w' _ e s3 rfl⟩
    have runs : ∀ (A' : Around), Rm G.gd k A' → Env0 X.prog X.w X.K X.mg X.base A' X.stack s w2.H → wpAny (model X.prog X.w) A' (call (.ref f) [.ref a1, u]) (fun v s' => v = .notImplemented ∧ Rr s') X.xe s := fun A' hr e0 => by
      have body := Dc A' X.stack s w2 [.ref a1, u] [.ref a1, v2] [.ins c1 ds, d2] S2 S3 (fun H' => ∃ w', w'.H = H' ∧ Ext w2 w' ∧ RepS G w' S3) hr e0 (.cons rfl (.cons ru .nil)) s2 ⟨_, _, rfl, rd, _, _, rfl, rd2, rfl⟩ rfl hf (fun w' e s3 => ⟨w', rfl, e, s3⟩)
      refine wpAny_call (codeAny_mono body ?_)
      rintro r s' ⟨rfl, z⟩
      obtain ⟨v', H', I3, _, _, w', rfl, e, s3⟩ := I.after z
      exact ⟨rfl, w', e, s3, I3⟩
    rcases hop with ⟨rfl, rfl⟩ | ⟨rfl, rfl⟩
    · refine PySem.W.evn_eq (R := Rr) hu I.kIn J1 (kv.type I ru) (sb T2 tT) fi isf (fun s' Q' hr hq => ?_) (runs X.A c.rm0 I.env0) (fun s' hr => ?_) fin
      · obtain ⟨H', dx', I3, k3, hl⟩ := tell s' hr
        exact PySem.W.same_not I3 k3 ru hl hq
      · obtain ⟨H', dx', I3, k3, hl⟩ := tell s' hr
        exact PySem.W.dcl_of I3 k3 ru hl m1 m2 (.inl rfl) ⟨rfl, rfl⟩
    · refine PySem.W.evn_ne (R := Rr) hu hu1 I.kIn J1 (kv.type I ru) (sb T2 tT) fi isf fn hm (fun s' Q' hr hq => ?_) (runs X.A.in1 c.rm.in1 I.env0.in1) (fun s' hr => ?_) fin
      · obtain ⟨H', dx', I3, k3, hl⟩ := tell s' hr
        exact PySem.W.same_not I3 k3 ru hl hq
      · obtain ⟨H', dx', I3, k3, hl⟩ := tell s' hr
        exact PySem.W.dcl_of I3 k3 ru hl m1 m2 (.inr rfl) ⟨rfl, rfl⟩
  | _ => exact q.elim
def eqXN (neg : Bool) (tbl : Nat → Option (List D → M D)) (dec : Nat → Option (Nat × (List SV → M Bool))) (d e : D) : M D := if isObj d = true then (if isObj e = true then ownEq neg tbl d e else decEq neg dec d e) else dEq neg d e
theorem o_eqXN {tbl : Nat → Option (List D → M D)} {dec : Nat → Option (Nat × (List SV → M Bool))} (c : Ctx G X W k) (T : EqT X G k tbl) (T2 : DecT X G k dec) : OpR X (compareOp .Eq) (rD2 G (eqXN false tbl dec)) := by
  refine OpR.imp (((o_ownEq c T (.inl ⟨rfl, rfl⟩)).or (o_decEq c T2 (.inl ⟨rfl, rfl⟩))).or (o_eq c.cK c.rm)) fun v u H Q q => ?_
  obtain ⟨Wx, w2, S2, d, d2, eH, s2, rd, rd2, q⟩ := q
  unfold eqXN at q
  split at q
  · split at q
    · exact .inl (.inl ⟨Wx, w2, S2, d, d2, eH, s2, rd, rd2, q⟩)
    · exact .inl (.inr ⟨Wx, w2, S2, d, d2, eH, s2, rd, rd2, q⟩)
  · exact .inr ⟨Wx, w2, S2, d, d2, eH, s2, rd, rd2, q⟩
theorem o_neXN {tbl : Nat → Option (List D → M D)} {dec : Nat → Option (Nat × (List SV → M Bool))} (c : Ctx G X W k) (T : EqT X G k tbl) (T2 : DecT X G k dec) : OpR X (compareOp .NotEq) (rD2 G (eqXN true tbl dec)) := by
  refine OpR.imp (((o_ownEq c T (.inr ⟨rfl, rfl⟩)).or (o_decEq c T2 (.inr ⟨rfl, rfl⟩))).or (o_ne c.cK c.rm)) fun v u H Q q => ?_
  obtain ⟨Wx, w2, S2, d, d2, eH, s2, rd, rd2, q⟩ := q
  unfold eqXN at q
  split at q
  · split at q
    · exact .inl (.inl ⟨Wx, w2, S2, d, d2, eH, s2, rd, rd2, q⟩)
    · exact .inl (.inr ⟨Wx, w2, S2, d, d2, eH, s2, rd, rd2, q⟩)
  · exact .inr ⟨Wx, w2, S2, d, d2, eH, s2, rd, rd2, q⟩
end
end Ev
set_option maxRecDepth 100000
set_option maxHeartbeats 2000000
namespace Ev
open PySem PySem.Spec PyProof.Rows L2
end Ev
set_option maxRecDepth 100000
set_option maxHeartbeats 2000000
namespace Ev
open PySem PySem.Spec PyProof.Rows L2
section
variable {prog : Program} {w : World} {A : Around} {R : GenEnd} {Y : Protocol} {n : Nat} {s₀ : Shared} {c : Code} {fs : List Frame} {s : Shared} {env : Env}
  {K : Flow → Sem PySem.Fin} {J : Value → Sem PySem.Fin} {gd : Bool → Bool} {lv : List Value → List Value}
abbrev turnLeft (env : Env) : Value → Sem PySem.Fin := fun e => (do noteFrame e env; theTreesLotGoes e : Sem Unit).wrap (fun _ => .raise e) .raise id id
abbrev turnNext (again : Code) : Flow → Sem PySem.Fin := fun f => match f with
  | .next => .pure (.again again)
  | .cont => .pure (.again again)
  | .brk => .pure (.done .next)
  | .ret v => .pure (.done (.ret v))
abbrev loopBack (env : Env) (K : Flow → Sem PySem.Fin) (J : Value → Sem PySem.Fin) (gd : Bool → Bool) (lv : List Value → List Value) : Result → Sem PySem.Fin :=
  fun r => ((match r with | .ok f => (.pure f : Sem Flow) | .error e => .raise e).onRaise (cameBack env)).wrap K J gd lv
theorem seg_for {tg iter : Expr} {body : List Stmt} {pos : Pos} (hs : ∀ x, foldedSetIterable iter env x = pure x)
    (h : wpAny (model prog w) (A.over c fs) (eval iter env) (fun x s1 => wpAny (model prog w) (A.over c fs) (pyIter x) (fun it s2 => ∀ p,
        Seg (model prog w) A R Y n s₀ (.forLoop tg it body [] env) ((model prog w).den (.forLoop tg it body [] env)) (.ret (loopBack env K J gd lv) none (gd false) (lv []) c p [] :: fs) s2)
      (fun e s' => Seg (model prog w) A R Y n s₀ c (J e) fs s') s1) (fun e s' => Seg (model prog w) A R Y n s₀ c (J e) fs s') s) :
    Seg (model prog w) A R Y n s₀ c ((exec (.For tg iter body [] pos) env).wrap K J gd lv) fs s := by
  rw [exec_For]
  refine seg_at ?_
  show Seg _ _ _ _ _ _ _ ((do
    let v ← eval iter env
    let x ← foldedSetIterable iter env v
    standAt iter.pos
    let it ← holding [x] (pyIter x)
    runOwn (.forLoop tg it body [] env) env : Sem Flow).wrap K J gd lv) _ _
  refine seg_bind_wrap (wpAny_mono h (fun x s1 h1 => ?_) fun _ _ z => z)
  rw [hs x]
  refine seg_bind_wrap (wpAny_pure ?_)
  refine seg_bind_wrap (wpAny_standAt ?_)
  refine seg_bind_wrap (wpAny_holding (wpAny_mono h1 (fun it s2 h2 => ?_) fun _ _ z => z))
  exact seg_call h2
theorem seg_forLoop {tg : Expr} {it : Value} {body : List Stmt}
    (h : wpAny (model prog w) (A.over (.forLoop tg it body [] env) fs) (pyNext it) (fun r s1 => match r with
        | none => Seg (model prog w) A R Y n s₀ (.block [] env) ((model prog w).den (.block [] env)) fs s1
        | some v => wpAny (model prog w) (A.over (.forLoop tg it body [] env) fs) (letOwnedTupleGo tg it v) (fun _ s2 =>
            wpAny (model prog w) (A.over (.forLoop tg it body [] env) fs) (assign tg env v) (fun _ s3 =>
              Seg (model prog w) A R Y n s₀ (.forLoop tg it body [] env) ((execs body env).wrap (turnNext (.forLoop tg it body [] env)) (turnLeft env) id id) fs s3)
              (fun e s' => Seg (model prog w) A R Y n s₀ (.forLoop tg it body [] env) (turnLeft env e) fs s') s2)
            (fun e s' => Seg (model prog w) A R Y n s₀ (.forLoop tg it body [] env) (turnLeft env e) fs s') s1)
      (fun e s' => Seg (model prog w) A R Y n s₀ (.forLoop tg it body [] env) (turnLeft env e) fs s') s) :
    Seg (model prog w) A R Y n s₀ (.forLoop tg it body [] env) ((model prog w).den (.forLoop tg it body [] env)) fs s := by
  show Seg _ A R Y n s₀ _ ((forTurn tg it body [] env).onRaise (fun x => do noteFrame x env; theTreesLotGoes x)) fs s
  rw [Sem.onRaise_eq_wrap]
  have tl : ∀ e : Value, ((do noteFrame e env; theTreesLotGoes e : Sem Unit).bind fun _ => (Sem.raise e : Sem PySem.Fin)) = turnLeft env e := fun e => by
    rw [Sem.bind_eq_wrap]
  refine seg_bind_wrap (wpAny_standAt ?_)
  refine seg_bind_wrap (wpAny_onRaise (wpAny_mono h (fun r s1 h1 => ?_) fun e s' z => wpAny_standAt ?_))
  · cases r with
    | none => exact seg_again rfl h1
    | some v =>
      refine seg_bind_wrap (wpAny_mono h1 (fun _ s2 h2 => ?_) fun e s' z => ?_)
      · refine seg_bind_wrap (wpAny_mono h2 (fun _ s3 h3 => ?_) fun e s' z => ?_)
        · rw [Sem.bind_eq_wrap', Sem.wrap_wrap]
          have q : ∀ t, t = (execs body env).wrap (turnNext (.forLoop tg it body [] env)) (turnLeft env) id id → Seg (model prog w) A R Y n s₀ (.forLoop tg it body [] env) t fs s3 := fun t e => by
            rw [e]
            exact h3
          exact q _ (Sem.wrap_congr (execs body env) id id (fun f => by cases f <;> rfl) (fun e => tl e))
        · exact (tl e).symm ▸ z
      · exact (tl e).symm ▸ z
  · exact (tl e).symm ▸ z
end
def tGFor (wi : TI) (g : TG) (tb : TGn) : TGn := fun D ys σ H => wi σ H fun J H1 => ∃ W : Nat → Nat → List V → L2.St → Hp → Prop, (∃ m, W 0 m ys σ H1) ∧ ∀ i m ys σ H, W i m ys σ H →
  (J.stop i H ∧ D.nx ys σ H) ∨ (J.go i H ∧ ∃ N : List V → L2.St → Hp → Prop, (∀ ys' σ' H', N ys' σ' H' → ∃ m', m' < m ∧ W (i + 1) m' ys' σ' H') ∧
    ∀ x H', J.yld i H x H' → g x σ H' fun σ2 H2 => tb { D with nx := N, ct := N, bk := D.nx } ys σ2 H2)
section
variable {X : Cx}
theorem gi_less {S : Addr} {ip more : List (Addr × Obj)} {ys : List V} {σ : L2.St} {H : Hp} {s : Shared} (h : GI X S (ip ++ more) ys σ H s) : GI X S ip ys σ H s := by
  obtain ⟨acc, c, r, I⟩ := h
  refine ⟨acc, c, r, I.pins_of fun p hp => I.pin p (List.mem_append_right _ ?_)⟩
  rcases List.mem_cons.mp hp with z | z
  · exact z ▸ List.mem_cons_self
  · exact List.mem_cons_of_mem _ (List.mem_append_left _ z)
theorem gsg_for {tg iter : Expr} {body : List Stmt} {pos : Pos} {wi : TI} {gt : TG} {tb : TGn} (po : PassesOwn (model X.prog X.w) X.A X.env X.xe) (cm : X.calm = true) (hi : PI X tg iter wi) (ht : PG X tg gt) (hb : GSs X body tb)
    (hs : ∀ x, foldedSetIterable iter X.env x = pure x) : GS X (.For tg iter body [] pos) (tGFor wi gt tb) := by
  refine ⟨fun A S ip R n0 ys0 s0 c fs K J gd lv st σ0 H0 D g0 hn0 k hI q0 => ?_⟩
  obtain ⟨acc0, cc0, r0, I0⟩ := hI
  refine seg_for hs ?_
  rw [g0.over]
  refine wpAny_mono (hi.run ((S, lstObj acc0 cc0) :: ip) st σ0 H0 _ I0 q0) (fun xv s1 h1 => wpAny_mono h1 (fun itv s2 h2 p => ?_) fun e s' z => k.exc n0 s0 e s' z) fun e s' z => k.exc n0 s0 e s' z
  obtain ⟨it, fp, tn, J1, H2, rfl, I2, T, st2, f2, W, ⟨m0, w0⟩, turn⟩ := h2
  have fpo : ∀ {acc : Array Value} {cc : Nat} {H' : Hp}, (∀ b ∈ fp, H' b = none) → ∀ b ∈ fp, FpOk X ((S, lstObj acc cc) :: ip) H' b := fun {acc cc H'} hn b hb => by
    obtain ⟨a1, a2, a3, a4, a5, a6⟩ := f2 b hb
    refine ⟨hn b hb, a2, a3, a4, a5, fun q hq => ?_⟩
    rcases List.mem_append.mp hq with z | z
    · exact a6 q (List.mem_append_left _ z)
    · rcases List.mem_cons.mp z with z | z
      · rw [z]
        exact a6 (S, lstObj acc0 cc0) (List.mem_append_right _ List.mem_cons_self)
      · exact a6 q (List.mem_append_right _ (List.mem_cons_of_mem _ z))
  have gl := gc_loop (k := loopBack X.env K J gd lv) (c' := .forLoop tg (.ref it) body [] X.env) (l := lv []) (kp := []) (p := p) g0 rfl rfl
  have ovr := gl.over
  have leave : ∀ (n : Nat) (s0 : Shared) (e : Value) (s' : Shared), X.xe e s' → Seg (model X.prog X.w) A R (GY X S) n s0 (.forLoop tg (.ref it) body [] X.env) (turnLeft X.env e) (.ret (loopBack X.env K J gd lv) none (gd false) (lv []) c p [] :: fs) s' := fun n s0 e s' hx => by
    refine seg_wrap ?_
    rw [ovr]
    refine wpAny_bind (wpAny_mono (po e s' hx) (fun _ s3 hcb => wpAny_theTreesLotGoes ?_) fun y s3 hcb => ?_)
    · exact seg_leaf (Except.error e) (seg_cameBack g0 k hcb)
    · exact seg_leaf (Except.error y) (seg_cameBack g0 k hcb)
  have main : ∀ (m i n : Nat) (ys : List V) (s0 s : Shared) (σ : L2.St) (H : Hp), n + ys.length = sizeLine → W i m ys σ H → tn i s.heap → (∀ b ∈ fp, H b = none) → GI X S ip ys σ H s →
      Seg (model X.prog X.w) A R (GY X S) n s0 (.forLoop tg (.ref it) body [] X.env) ((model X.prog X.w).den (.forLoop tg (.ref it) body [] X.env)) (.ret (loopBack X.env K J gd lv) none (gd false) (lv []) c p [] :: fs) s := by
    intro m
    induction m using Nat.strongRecOn with
    | ind m ih =>
      intro i n ys s0 s σ H hn w tns fpn hG
      obtain ⟨acc, cc, r, I⟩ := hG
      refine seg_forLoop ?_
      rw [ovr]
      rcases turn i m ys σ H w with ⟨stop, q⟩ | ⟨goo, N, hN, step⟩
      · refine wpAny_mono (T.done X rfl rfl rfl cm i ((S, lstObj acc cc) :: ip) s σ H X.xe I (fpo fpn) tns stop) (fun r1 s1 h1 => ?_) fun e s' z => leave n s0 e s' z
        obtain ⟨rfl, I1⟩ := h1
        show Seg _ _ _ _ _ _ _ (leafOf (Except.ok Flow.next)) _ _
        exact seg_leaf (Except.ok Flow.next) (k.ok n ys s0 s1 Flow.next hn ⟨σ, H, ⟨acc, cc, r, I1⟩, q⟩)
      · refine wpAny_mono (T.item X rfl rfl rfl cm i ((S, lstObj acc cc) :: ip) s σ H X.xe I (fpo fpn) tns goo) (fun r1 s1 h1 => ?_) fun e s' z => leave n s0 e s' z
        obtain ⟨u, rfl, h1⟩ := h1
        refine wpAny_mono h1 (fun _ s2 h2 => ?_) fun e s' z => leave n s0 e s' z
        obtain ⟨x, H3, I3, rx, yx, tn3, fp3⟩ := h2
        have obs := T.obj _ _ tn3
        have I4 := I3.pinned (fpo fp3) obs
        refine wpAny_mono (ht.run _ s2 σ H3 x u _ I4 rx (step x H3 yx)) (fun _ s3 h3 => ?_) fun e s' z => leave n s0 e s' z
        obtain ⟨σ3, H4, I5, q5⟩ := h3
        have apart : ∀ q ∈ ip ++ pinsAt fp s2.heap, q.1 ≠ S := fun q hq => by
          rcases List.mem_append.mp hq with z | z
          · exact g0.ip q z
          · obtain ⟨hb, _⟩ := of_pinsAt z
            exact fun e => (f2 q.1 hb).2.2.2.2.2 (S, lstObj acc0 cc0) (List.mem_append_right _ List.mem_cons_self) e.symm
        have g1 : GC X S (ip ++ pinsAt fp s2.heap) A (.forLoop tg (.ref it) body [] X.env) (.ret (loopBack X.env K J gd lv) none (gd false) (lv []) c p [] :: fs) id := ⟨gl.pn, apart, gl.apart, gl.over, gl.split, gl.guard, gl.gd⟩
        refine hb.run A S (ip ++ pinsAt fp s2.heap) R n ys s0 _ _ _ _ id id s3 σ3 H4 { D with nx := N, ct := N, bk := D.nx } g1 hn ⟨fun n' ys' s0' s' f hn' hsp => ?_, fun n' s0' e s' z => leave n' s0' e s' z⟩ ⟨acc, cc, r, I5⟩ q5
        have again : ∀ (σ' : L2.St) (H' : Hp), GI X S (ip ++ pinsAt fp s2.heap) ys' σ' H' s' → N ys' σ' H' →
            Seg (model X.prog X.w) A R (GY X S) n' s0' (.forLoop tg (.ref it) body [] X.env) (.pure (.again (.forLoop tg (.ref it) body [] X.env))) (.ret (loopBack X.env K J gd lv) none (gd false) (lv []) c p [] :: fs) s' := fun σ' H' hG' hN' => by
          obtain ⟨m', lt, w'⟩ := hN ys' σ' H' hN'
          have held : ∀ b ∈ fp, ∀ o, s2.heap.get? b = some o → s'.heap.get? b = some o ∧ H' b = none := fun b hb o e => by
            obtain ⟨_, _, _, I'⟩ := hG'
            have z := I'.pin (b, o) (List.mem_append_right _ (List.mem_cons_of_mem _ (List.mem_append_right _ (mem_pinsAt hb e))))
            exact ⟨z.1, z.2.1⟩
          refine seg_again rfl (ih m' lt (i + 1) n' ys' s0' s' σ' H' hn' w' (T.keep _ _ _ tn3 fun b hb o e => (held b hb o e).1) (fun b hb => ?_) (gi_less hG'))
          obtain ⟨o, e, _⟩ := obs b hb
          exact (held b hb o e).2
        cases f with
        | next =>
          obtain ⟨σ', H', a, b⟩ := hsp
          exact again σ' H' a b
        | cont =>
          obtain ⟨σ', H', a, b⟩ := hsp
          exact again σ' H' a b
        | brk =>
          obtain ⟨σ', H', a, b⟩ := hsp
          exact seg_leaf (Except.ok Flow.next) (k.ok n' ys' s0' s' Flow.next hn' ⟨σ', H', gi_less a, b⟩)
        | ret v =>
          obtain ⟨v', σ', H', a, rv, b⟩ := hsp
          exact seg_leaf (Except.ok (Flow.ret v)) (k.ok n' ys' s0' s' (Flow.ret v) hn' ⟨v', σ', H', gi_less a, rv, b⟩)
  exact main m0 0 n0 ys0 s0 s2 σ0 H2 hn0 w0 st2 (fun b hb => (f2 b hb).1) ⟨acc0, cc0, r0, I2⟩
end
end Ev
set_option maxRecDepth 100000
set_option maxHeartbeats 2000000
namespace Ev
open PySem PySem.Spec PyProof.Rows L2
abbrev MG : Type := List SV → List Ob → List D → Option (Out × List Ob × List D)
def FinN (G : Sg) (W : WX) (w0 w : Wd) (D : GEnds) : Option (Out × List Ob × List Ev.D) → Prop
  | none => False
  | some (.next sd, S, out) => ∀ w' σ' ys, Stay w w' → R G w0 w' sd S σ' → RepVs G w' out ys → D.nx ys σ' w'.H
  | some (.ret _, _, _) => False
  | some (.brk sd, S, out) => ∀ w' σ' ys, Stay w w' → R G w0 w' sd S σ' → RepVs G w' out ys → D.bk ys σ' w'.H
  | some (.cont sd, S, out) => ∀ w' σ' ys, Stay w w' → R G w0 w' sd S σ' → RepVs G w' out ys → D.ct ys σ' w'.H
  | some (.err e sd, S, _) => ∀ w' σ' cls x, Stay w w' → R G w0 w' sd S σ' → RepX G w' e cls x → W cls x σ' w'.H
def tgN (G : Sg) (W : WX) (f : MG) : TGn := fun D ys σ H => ∃ w0 w sd S out, w.H = H ∧ R G w0 w sd S σ ∧ RepVs G w out ys ∧ FinN G W w0 w D (f sd S out)
abbrev PGS (G : Sg) (X : Cx) (W : WX) (st : Stmt) (f : MG) : Prop := GS X st (tgN G W f)
abbrev PGSs (G : Sg) (X : Cx) (W : WX) (st : List Stmt) (f : MG) : Prop := GSs X st (tgN G W f)
theorem gs_imp {X : Cx} {st : Stmt} {t t' : TGn} (h : GS X st t) (i : ∀ D ys σ H, t' D ys σ H → t D ys σ H) : GS X st t' :=
  ⟨fun A S ip R n ys s0 c fs K J gd lv s σ H D g hn k I q => h.run A S ip R n ys s0 c fs K J gd lv s σ H D g hn k I (i D ys σ H q)⟩
theorem gss_imp {X : Cx} {st : List Stmt} {t t' : TGn} (h : GSs X st t) (i : ∀ D ys σ H, t' D ys σ H → t D ys σ H) : GSs X st t' :=
  ⟨fun A S ip R n ys s0 c fs K J gd lv s σ H D g hn k I q => h.run A S ip R n ys s0 c fs K J gd lv s σ H D g hn k I (i D ys σ H q)⟩
theorem FinN.stay {G : Sg} {W : WX} {w0 w w1 : Wd} {D : GEnds} {r : Option (Out × List Ob × List Ev.D)} (e : Stay w w1) (h : FinN G W w0 w D r) : FinN G W w0 w1 D r := by
  rcases r with _ | ⟨_ | _ | _ | _ | _, _, _⟩
  · exact h
  · exact fun w' σ' ys s => h w' σ' ys (e.trans s)
  · exact h
  · exact fun w' σ' ys s => h w' σ' ys (e.trans s)
  · exact fun w' σ' ys s => h w' σ' ys (e.trans s)
  · exact fun w' σ' c x s => h w' σ' c x (e.trans s)
def plainG (f : MS) : MG := fun sd S out => match f sd S with
  | none => none
  | some (.ret _, _) => none
  | some (o, S') => some (o, S', out)
def yieldG (f : List SV → M D) : MG := fun sd S out => if out.length < lim then (match f sd S with
  | none => none
  | some (.error e, S1) => some (.err e sd, S1, out)
  | some (.ok d, S1) => some (.next sd, S1, out ++ [d])) else none
def nilG : MG := fun sd S out => some (.next sd, S, out)
def seqG (f g : MG) : MG := fun sd S out => match f sd S out with
  | some (.next sd', S', out') => g sd' S' out'
  | o => o
def loopG (t : Tgt) (body : MG) : List D → MG
  | [] => nilG
  | d :: ds => fun sd S out => match t d sd S with
    | none => none
    | some (sd1, S1) => match body sd1 S1 out with
      | some (.next sd2, S2, out2) => loopG t body ds sd2 S2 out2
      | some (.cont sd2, S2, out2) => loopG t body ds sd2 S2 out2
      | some (.brk sd2, S2, out2) => some (.next sd2, S2, out2)
      | o => o
def forG (f : List SV → M (List D)) (t : Tgt) (body : MG) : MG := fun sd S out => match f sd S with
  | none => none
  | some (.error e, S1) => some (.err e sd, S1, out)
  | some (.ok ds, S1) => loopG t body ds sd S1 out
section
variable {G : Sg} {X : Cx} {W : WX} {k : Nat}
theorem plain_at {f : MS} {D : GEnds} {ys : List V} {σ : L2.St} {H : Hp} (h : tgN G W (plainG f) D ys σ H) : tsV G W f (D.at ys) σ H := by
  obtain ⟨w0, w, sd, S, out, e, r, ro, q⟩ := h
  refine ⟨w0, w, sd, S, e, r, ?_⟩
  unfold plainG at q
  rcases hf : f sd S with _ | ⟨_ | _ | _ | _ | _, S1⟩
  · rw [hf] at q; exact q
  · rw [hf] at q
    exact fun w' σ' s r' => q w' σ' ys s r' (RepVs.stay s _ _ ro)
  · rw [hf] at q; exact q.elim
  · rw [hf] at q
    exact fun w' σ' s r' => q w' σ' ys s r' (RepVs.stay s _ _ ro)
  · rw [hf] at q
    exact fun w' σ' s r' => q w' σ' ys s r' (RepVs.stay s _ _ ro)
  · rw [hf] at q
    exact fun w' σ' cls x s r' rx => q w' σ' cls x s r' rx
theorem sg_plain {st : Stmt} {f : MS} (h : PSV G X W st f) : PGS G X W st (plainG f) := gs_imp (gs_ps h) fun D ys σ H q => plain_at q
theorem sg_nil : PGSs G X W [] nilG := gss_imp gss_nil fun D ys σ H q => by
  obtain ⟨w0, w, sd, S, out, e, r, ro, q⟩ := q
  subst e
  exact q w σ ys (Stay.refl w) r ro
theorem sg_cons {st : Stmt} {rest : List Stmt} {f g : MG} (h1 : PGS G X W st f) (h2 : PGSs G X W rest g) : PGSs G X W (st :: rest) (seqG f g) := by
  refine gss_imp (gss_cons h1 h2) fun D ys σ H q => ?_
  obtain ⟨w0, w, sd, S, out, e, r, ro, q⟩ := q
  refine ⟨w0, w, sd, S, out, e, r, ro, ?_⟩
  unfold seqG at q
  rcases hf : f sd S out with _ | ⟨_ | _ | _ | _ | _, S1, out1⟩
  · rw [hf] at q; exact q
  · rw [hf] at q
    exact fun w' σ' ys' s r' ro' => ⟨w0, w', _, S1, out1, rfl, r', ro', FinN.stay s q⟩
  · rw [hf] at q; exact q
  · rw [hf] at q; exact q
  · rw [hf] at q; exact q
  · rw [hf] at q; exact q
theorem sg_yield {e : Expr} {f : List SV → M D} {yp pos : Pos} (h : PV G X W e f) (hco : X.env.scope.isCoroutine = false) (hi : interactive X.env = false) : PGS G X W (.Expr (.Yield (some e) yp) pos) (yieldG f) := by
  refine gs_imp (gs_yield h hco hi) fun D ys σ H q => ?_
  obtain ⟨w0, w, sd, S, out, e, r, ro, q⟩ := q
  unfold yieldG at q
  by_cases l : out.length < lim
  · rw [if_pos l] at q
    refine ⟨by rw [← ro.length, ← lim_eq]; exact l, w0, w, sd, S, e, r, ?_⟩
    rcases hf : f sd S with _ | ⟨_ | d, S1⟩
    · rw [hf] at q; exact q
    · rw [hf] at q
      exact fun w' cls x ex s rx => q w' σ cls x (ex.stay r.st.dj) (r.step ex s) rx
    · rw [hf] at q
      exact fun w' v ex s rv => q w' σ (ys ++ [v]) (ex.stay r.st.dj) (r.step ex s) (RepVs.append (RepVs.mono ex r.st.dj _ _ ro) (RepVs.one rv))
  · rw [if_neg l] at q
    exact q.elim
theorem sg_for {ts : List Nat} {tg iter : Expr} {body : List Stmt} {f : List SV → M (List D)} {t : Tgt} {fb : MG} {pos : Pos} (c : Ctx G X W k) (hi : PIV G X W tg iter f) (hg : PGV G X ts tg t) (hb : PGSs G X W body fb) (hs : setFree iter = true) :
    PGS G X W (.For tg iter body [] pos) (forG f t fb) := by
  refine gs_imp (gsg_for c.po c.calm hi hg hb (set_free hs)) fun En ys0 σ H q => ?_
  obtain ⟨w0, w, sd, S, out, e, r, ro, q⟩ := q
  refine ⟨w0, w, sd, S, e, r, ?_⟩
  unfold forG at q
  rcases hf : f sd S with _ | ⟨_ | ds, S1⟩
  · rw [hf] at q; exact q
  · rw [hf] at q
    exact fun w' cls x ex s rx => q w' σ cls x (ex.stay r.st.dj) (r.step ex s) rx
  rw [hf] at q
  intro w1 J ex s1 Y
  have q1 : FinN G W w0 w1 En (loopG t fb ds sd S1 out) := FinN.stay (ex.stay r.st.dj) q
  have r1 := r.step ex s1
  have ro1 := RepVs.mono ex r.st.dj _ _ ro
  refine ⟨fun i m ys σ H => m = ds.length - i ∧ i ≤ ds.length ∧ ∃ w sd S out, w.H = H ∧ Stay w1 w ∧ R G w0 w sd S σ ∧ RepVs G w out ys ∧ FinN G W w0 w En (loopG t fb (ds.drop i) sd S out), ⟨_, rfl, Nat.zero_le _, w1, sd, S1, out, rfl, Stay.refl _, r1, ro1, q1⟩, ?_⟩
  rintro i m ys σ2 H2 ⟨rfl, hi2, w2, sd2, S2, out2, rfl, st2, r2, ro2, q2⟩
  by_cases hlt : i < ds.length
  · obtain ⟨d, hd, hdr⟩ := drop_cons hlt
    rw [hdr] at q2
    refine .inr ⟨Y.go w2 i st2 hlt, _, fun ys' σ' H' hN => ⟨ds.length - (i + 1), by omega, hN⟩, fun x H' hy => ?_⟩
    obtain ⟨w3, rfl, e3, s3, rx⟩ := Y.yld w2 i d x H' S2 st2 r2.st hd hy
    have r3 := r2.step e3 s3
    refine ⟨w0, w3, sd2, S2, d, rfl, r3, rx, ?_⟩
    unfold loopG at q2
    rcases ht : t d sd2 S2 with _ | ⟨sd4, S4⟩
    · rw [ht] at q2; exact q2
    · rw [ht] at q2
      simp only at q2
      intro w4 σ4 st4 r4 _
      have st24 : Stay w2 w4 := (e3.stay r2.st.dj).trans st4
      refine ⟨w0, w4, sd4, S4, out2, rfl, r4, RepVs.stay st24 _ _ ro2, ?_⟩
      rcases hbq : fb sd4 S4 out2 with _ | ⟨_ | _ | _ | _ | _, S5, out5⟩
      · rw [hbq] at q2; exact q2
      · rw [hbq] at q2
        exact fun w5 σ5 ys5 st5 r5 ro5 => ⟨rfl, hlt, w5, _, S5, out5, rfl, st2.trans (st24.trans st5), r5, ro5, FinN.stay (st24.trans st5) q2⟩
      · rw [hbq] at q2; exact q2
      · rw [hbq] at q2
        exact fun w5 σ5 ys5 st5 r5 ro5 => q2 w5 σ5 ys5 (st24.trans st5) r5 ro5
      · rw [hbq] at q2
        exact fun w5 σ5 ys5 st5 r5 ro5 => ⟨rfl, hlt, w5, _, S5, out5, rfl, st2.trans (st24.trans st5), r5, ro5, FinN.stay (st24.trans st5) q2⟩
      · rw [hbq] at q2
        exact fun w5 σ5 cl y st5 r5 => q2 w5 σ5 cl y (st24.trans st5) r5
  · have e : i = ds.length := by omega
    subst e
    rw [List.drop_length] at q2
    exact .inl ⟨Y.stop w2 _ st2 (Nat.le_refl _), q2 w2 σ2 ys (Stay.refl _) r2 ro2⟩
end
end Ev
set_option maxRecDepth 100000
set_option maxHeartbeats 2000000
namespace Ev
open PySem PySem.Spec PyProof.Rows L2
def Sg.un (G : Sg) : Sg := { G with gd := false }
section
variable {G : Sg} {w : Wd}
mutual
theorem rep_un : ∀ (d : D) (v : V), RepV G.un w d v ↔ RepV G w d v
  | .non, _ => Iff.rfl
  | .bl _, _ => Iff.rfl
  | .int _, _ => Iff.rfl
  | .str _, _ => Iff.rfl
  | .tup ds, v => by
    constructor
    · rintro ⟨a, vs, e, h, r⟩; exact ⟨a, vs, e, h, (reps_un ds vs).mp r⟩
    · rintro ⟨a, vs, e, h, r⟩; exact ⟨a, vs, e, h, (reps_un ds vs).mpr r⟩
  | .lst ds, v => by
    constructor
    · rintro ⟨a, vs, e, f, h, r⟩; exact ⟨a, vs, e, f, h, (reps_un ds vs).mp r⟩
    · rintro ⟨a, vs, e, f, h, r⟩; exact ⟨a, vs, e, f, h, (reps_un ds vs).mpr r⟩
  | .scr ds, v => by
    constructor
    · rintro ⟨a, vs, e, h, r⟩; exact ⟨a, vs, e, h, (reps_un ds vs).mp r⟩
    · rintro ⟨a, vs, e, h, r⟩; exact ⟨a, vs, e, h, (reps_un ds vs).mpr r⟩
  | .dct ks ds, v => by
    constructor
    · rintro ⟨a, vs, e, f, h, l, r⟩; exact ⟨a, vs, e, f, h, l, (reps_un ds vs).mp r⟩
    · rintro ⟨a, vs, e, f, h, l, r⟩; exact ⟨a, vs, e, f, h, l, (reps_un ds vs).mpr r⟩
  | .ins c ds, v => by
    constructor
    · rintro ⟨a, dx, vs, e, f, h, l, r⟩; exact ⟨a, dx, vs, e, f, h, l, (reps_un ds vs).mp r⟩
    · rintro ⟨a, dx, vs, e, f, h, l, r⟩; exact ⟨a, dx, vs, e, f, h, l, (reps_un ds vs).mpr r⟩
  | .ref _, _ => Iff.rfl
  | .ty _, _ => Iff.rfl
  | .cls _, _ => Iff.rfl
theorem reps_un : ∀ (ds : List D) (vs : List V), RepVs G.un w ds vs ↔ RepVs G w ds vs
  | [], _ => Iff.rfl
  | d :: ds, vs => by
    constructor
    · rintro ⟨v, r, e, h, t⟩; exact ⟨v, r, e, (rep_un d v).mp h, (reps_un ds r).mp t⟩
    · rintro ⟨v, r, e, h, t⟩; exact ⟨v, r, e, (rep_un d v).mpr h, (reps_un ds r).mpr t⟩
end
theorem repo_un {a : Addr} {o : Ob} : RepO G.un w a o ↔ RepO G w a o := by
  cases o with
  | lst ds =>
    constructor
    · rintro ⟨vs, h, r⟩; exact ⟨vs, h, (reps_un ds vs).mp r⟩
    · rintro ⟨vs, h, r⟩; exact ⟨vs, h, (reps_un ds vs).mpr r⟩
  | dct ks ds =>
    constructor
    · rintro ⟨vs, h, l, r⟩; exact ⟨vs, h, l, (reps_un ds vs).mp r⟩
    · rintro ⟨vs, h, l, r⟩; exact ⟨vs, h, l, (reps_un ds vs).mpr r⟩
  | ins c ds =>
    constructor
    · rintro ⟨dx, vs, h, l, r⟩; exact ⟨dx, vs, h, l, (reps_un ds vs).mp r⟩
    · rintro ⟨dx, vs, h, l, r⟩; exact ⟨dx, vs, h, l, (reps_un ds vs).mpr r⟩
theorem store_un {S : List Ob} : RepS G.un w S ↔ RepS G w S := by
  constructor
  · rintro ⟨a, b, c, d, e⟩; exact ⟨a, b, c, d, fun n x o h1 h2 => repo_un.mp (e n x o h1 h2)⟩
  · rintro ⟨a, b, c, d, e⟩; exact ⟨a, b, c, d, fun n x o h1 h2 => repo_un.mpr (e n x o h1 h2)⟩
end
def finN : Option (Out × List Ob × List D) → Option (Except Exn (List D) × List Ob)
  | some (.next _, S, out) => some (.ok out, S)
  | some (.err e _, S, _) => some (.error e, S)
  | _ => none
def genFn (m n : Nat) (ms : MG) : List D → M (List D) := fun ds S => if ds.length = m then finN (ms (slots n (ds.map .val)) S []) else none
def FinL (G : Sg) (w : Wd) (Q : List V → Hp → Prop) : Option (Except Exn (List D) × List Ob) → Prop
  | some (.ok l, S) => ∀ w' vs, Ext w w' → RepS G w' S → RepVs G w' l vs → Q vs w'.H
  | _ => False
def spGen (G : Sg) (sem : List D → M (List D)) : SpG := fun vs H Q _ => ∃ w ds S, w.H = H ∧ RepS G w S ∧ RepVs G w ds vs ∧ FinL G w Q (sem ds S)
section
variable {P : Program} {w : World} {K : PySem.W.Frag} {mg : Str → Option Value} {base : Heap} {G : Sg} {k : Nat} {f : Addr} {x qual : Str} {st : Stmt} {fd : FuncData} {N ps : List Str} {ms : MG}
abbrev XG (P : Program) (w : World) (K : PySem.W.Frag) (mg : Str → Option Value) (base : Heap) (N : List Str) (qual : Str) (st : Stmt) (f : Addr) (cdv : Value) (A : Around) (fr : List Env) (s : Shared) (H : Hp) (E : XK) (pn : List (Addr × Obj)) : Cx :=
  gcxOf P w K mg base N qual (defScope st) f cdv A fr s H E pn
def GBody (P : Program) (w : World) (K : PySem.W.Frag) (mg : Str → Option Value) (base : Heap) (G : Sg) (k : Nat) (f : Addr) (N : List Str) (qual : Str) (st : Stmt) (ms : MG) : Prop :=
  ∀ (cdv : Value) (A : Around) (fr : List Env) (s : Shared) (H : Hp) (E : XK) (pn : List (Addr × Obj)), Ctx G (XG P w K mg base N qual st f cdv A fr s H E pn) (WF E) k → PGSs G (XG P w K mg base N qual st f cdv A fr s H E pn) (WF E) (defBody st) ms
theorem ctxG (cK : G.K = K) (SC : GScope N ps (defScope st)) {cdv : Value} {A : Around} {fr : List Env} {s : Shared} {H : Hp} {E : XK} {pn : List (Addr × Obj)} (hr : Rm G.gd (k + 1) (A.deeper (envOfC qual (defScope st) s.heap.objs.size f cdv))) :
    Ctx G (XG P w K mg base N qual st f cdv A fr s H E pn) (WF E) k := ⟨cK, rfl, hr, SC.nd, fun σ => L2.passAt takes_gcx σ, owns_gcx⟩
theorem gen_rule (F : Fun K x qual st f fd) (SC : GScope N ps (defScope st)) (cK : G.K = K) (gf : G.gd = false) (B : GBody P w K mg base G k f N qual st ms) {m n : Nat} (em : ps.length = m) (en : N.length = n) (hmn : m ≤ n) :
    GFn P w K mg base (k + 2) f fd ps (spGen G (genFn m n ms)) := by
  obtain ⟨oc, od, kV, doc, pm, an, cdv, ct, osl, rfl, lk, hcd⟩ := F.ex
  have len : ∀ vs H Q E, spGen G (genFn m n ms) vs H Q E → vs.length = ps.length := by
    rintro vs H Q E ⟨wd, ds, S, eH, rs, rv, q⟩
    unfold genFn at q
    split at q
    · next e => rw [← rv.length, e, em]
    · exact q.elim
  refine gfn_of lk hcd SC len fun A fr s H vs Q E pn hr hsp => ?_
  refine ⟨_, B cdv A fr s H E pn (ctxG cK SC ⟨hr, fun z => by rw [gf] at z; cases z⟩), ?_⟩
  obtain ⟨wd, ds, S, eH, rs, rv, q⟩ := hsp
  unfold genFn at q
  split at q
  · next e =>
    subst em en
    refine ⟨wd, wd, _, S, [], eH, R.enter rs rv (by omega), rfl, ?_⟩
    rcases hm : ms (slots N.length (ds.map .val)) S [] with _ | ⟨_ | _ | _ | _ | _, S1, out⟩
    · rw [hm] at q; exact q
    · rw [hm] at q
      exact fun w' σ' ys _ r' ro => q w' ys r'.ex r'.st ro
    · rw [hm] at q; exact q.elim
    · rw [hm] at q; exact q.elim
    · rw [hm] at q; exact q.elim
    · rw [hm] at q; exact q.elim
  · exact q.elim
end
end Ev
set_option maxRecDepth 100000
set_option maxHeartbeats 2000000
namespace Ev
open PySem PySem.Spec PyProof.Rows L2
abbrev NoX : XK := fun _ _ _ => False
theorem pass_nox {X : Cx} : Passes (L2.CX X.prog X.w) X NoX := by
  intro pins σ H s e s' I c
  obtain ⟨a, B, H', cls, d, _, fl, _, _, _, _, _, hW⟩ := c
  exact hW.elim
theorem stop_nox {K : PySem.W.Frag} : NoStop K NoX := fun _ _ _ z => z.elim
structure GnK (P : Program) (w : World) (K : PySem.W.Frag) (mg : Str → Option Value) (base : Heap) (G : Sg) (k : Nat) (f : Addr) (m : Nat) (ks : List Str) (sem : List D → M (List D)) : Prop where
  run : ∀ (A : Around) (fr : List Env) (s : Shared) (H : Hp) (us ws : List Value) (vs zs : List V) (Q : List V → Hp → Prop),
    Room k A → Env0 P w K mg base A fr s H → Vals vs us → Vals zs ws → vs.length = m → zs.length = ks.length → (∃ wd ds S, wd.H = H ∧ RepS G wd S ∧ RepVs G wd ds (vs ++ zs) ∧ FinL G wd Q (sem ds S)) →
    codeAny (model P w) A (.call (.ref f) ⟨us, ks.zip ws⟩) (fun r s' => match r with | .ok (.ret u) => GMade P w k fr H s [] Q NoX u s' | _ => False) s
section
variable {P : Program} {w : World} {K : PySem.W.Frag} {mg : Str → Option Value} {base : Heap} {G : Sg} {k m : Nat} {f : Addr} {x qual : Str} {st : Stmt} {fd : FuncData} {N ps ks : List Str} {ms : MG} {ix : List Nat}
theorem FinL.un {wd : Wd} {Q : List V → Hp → Prop} {r : Option (Except Exn (List D) × List Ob)} (h : FinL G wd Q r) : FinL G.un wd Q r := by
  rcases r with _ | ⟨_ | l, S⟩
  · exact h
  · exact h
  · exact fun w' vs e s r => h w' vs e (store_un.mp s) ((reps_un _ _).mp r)
theorem gnk_rule (F : Fun K x qual st f fd) (SC : GScope N ps (defScope st)) (hb : KwBinds st x qual ps ks m ix) (cK : G.K = K) (B : GBody P w K mg base G.un k f N qual st ms) {a n : Nat} (ea : ps.length = a) (en : N.length = n) (hmn : a ≤ n) :
    GnK P w K mg base G (k + 2) f m ks (fun ds => genFn a n ms (perm ix ds)) := by
  have g := gen_rule F SC (G := G.un) cK rfl B ea en hmn
  obtain ⟨oc, od, kV, doc, pm, an, cdv, ct, osl, rfl, lk, hcd⟩ := F.ex
  refine ⟨fun A fr s H us ws vs zs Q hr e0 r r2 l1 l2 ⟨wd, ds, S, eH, rs, rv, q⟩ => ?_⟩
  exact g.run A fr s H ⟨us, ks.zip ws⟩ (perm ix (us ++ ws)) _ Q NoX hr e0 (.of_eq (hb _ _ _ _ _ _ us ws (r.length.symm.trans l1) (r2.length.symm.trans l2))) (vals_perm (r.append r2) ix)
    ⟨wd, perm ix ds, S, eH, store_un.mpr rs, (reps_un _ _).mpr (reps_perm rv ix), FinL.un q⟩
end
def pickN (tbl : Nat → Option (List D → M (List D))) (d : D) : M (List D → M (List D)) := M.bind (clsOf d) fun c => match tbl c with
  | some g => M.pure g
  | none => M.stuck
section
variable {G : Sg} {X : Cx} {W : WX} {k n m j : Nat} {mm : Str} {p pos apos : Pos} {e o : Expr} {es : List Expr} {kws : List Keyword} {ks : List Str} {fa fk : List SV → M (List D)} {fo : List SV → M D} {σ : L2.St}
structure GMethT (X : Cx) (G : Sg) (k : Nat) (mm : Str) (m : Nat) (ks : List Str) (tbl : Nat → Option (List D → M (List D))) : Prop where
  at_ : ∀ c g, tbl c = some g → ∃ f, Cls X.K (G.ca c) ∧ Meth X.K (G.ca c) mm f ∧ GnK X.prog X.w X.K X.mg X.base G k f (m + 1) ks g ∧ mm ∉ G.fn c
theorem pickN_fin {α β : Type} {rep : Wd → α → β → Prop} {W' : Value → Option Addr → Hp → Prop} {w : Wd} {Q : β → Hp → Prop} {S : List Ob} {tbl : Nat → Option (List D → M (List D))} {d : D} {kk : (List D → M (List D)) → M α} {v : V} (s : RepS G w S) (rd : RepV G w d v)
    (h : FinG G rep W' w Q (M.bind (pickN tbl d) kk S)) : ∃ c g, tbl c = some g ∧ FinG G rep W' w Q (kk g S) ∧ ∃ a dx vs, v = .ref a ∧ w.H a = some (.ins (G.ca c) dx ((G.fn c).zip vs)) := by
  unfold pickN M.bind at h
  rcases hc : clsOf d S with _ | ⟨x | c, S2⟩
  · rw [hc] at h; exact h.elim
  · exact absurd hc clsOf_noerr
  · obtain ⟨rfl, a, dx, vs, e1, h1⟩ := clsOf_rep s rd hc
    rw [hc] at h
    simp only at h
    rcases ht : tbl c with _ | g
    · rw [ht] at h; exact h.elim
    · rw [ht] at h
      exact ⟨c, g, ht, h, a, dx, vs, e1, h1⟩
theorem finl_of {wd : Wd} {Q : List V → Hp → Prop} {W' : Value → Option Addr → Hp → Prop} {f : M (List D)} {S : List Ob} (h : FinG G (RepVs G) W' wd Q (noErr f S)) : FinL G wd Q (f S) := by
  unfold noErr at h
  rcases hf : f S with _ | ⟨_ | l, S1⟩
  · rw [hf] at h; exact h.elim
  · rw [hf] at h; exact h.elim
  · rw [hf] at h
    exact h
theorem made_ok {pins : List (Addr × Obj)} {H : Hp} {s : Shared} {cont : List V → Hp → Prop} {f : Addr} {a : Args} {E1 : Value → Shared → Prop} (I : Inv X pins σ H s)
    (h : codeAny (model X.prog X.w) X.A (.call (.ref f) a) (fun r s' => match r with | .ok (.ret u) => GMade X.prog X.w k X.stack H s [] cont NoX u s' | _ => False) s) :
    wpAny (model X.prog X.w) X.A (call (.ref f) a.pos a.kw) (fun u s' => ∃ H1 sc ex, Inv X pins σ H1 sc ∧ ExOk X pins ex ∧ GMade X.prog X.w k X.stack H1 sc ex cont NoX u s') E1 s := by
  refine wpAny_call (codeAny_mono h ?_)
  rintro (er | fl) s' hq
  · exact hq.elim
  · cases fl with
    | ret u => exact ⟨H, s, [], I, ExOk.nil, hq⟩
    | next => exact hq.elim
    | brk => exact hq.elim
    | cont => exact hq.elim
theorem gl_meth {tbl : Nat → Option (List D → M (List D))} (T : GMethT X G k mm n [] tbl) (hr : Room k X.A) (ho : PV G X W o fo) (ha : PLn G X W n (e :: es) fa) (hs : (e :: es).all notStar = true) (hb : plainBase o = true) (hl : (e :: es).length < 30) (hp : (apos.endLine == pos.line) = true) :
    PGen X k (.Call (.Attribute o mm apos) (e :: es) [] pos) (teG G (RepVs G) W fun sd => M.bind (fo sd) fun d => M.bind (pickN tbl d) fun g => M.bind (fa sd) fun ds => noErr (g (d :: ds))) NoX := by
  constructor
  intro pins s σ H cont I ⟨w0, w, sd, S, eH, r, q⟩
  refine PySem.W.methodCall_KW (thn (ho.run pins s σ H (fun v H1 => ∃ w1 S1 d c g a dx vs, w1.H = H1 ∧ R G w0 w1 sd S1 σ ∧ RepV G w1 d v ∧ tbl c = some g ∧ v = .ref a ∧ w1.H a = some (.ins (G.ca c) dx ((G.fn c).zip vs)) ∧
      FinG G (RepVs G) (fun c x H => W c x σ H) w1 cont (M.bind (fa sd) (fun ds => noErr (g (d :: ds))) S1)) I ?_) ?_) (meth_tree hb hs hl hp)
  · refine ⟨w0, w, sd, S, eH, r, fin_step q fun w1 S1 d v e1 s1 rv q1 => ?_⟩
    obtain ⟨c', g, ht, q2, a, dx, vs, ev, hv⟩ := pickN_fin s1 rv q1
    exact ⟨w1, S1, d, c', g, a, dx, vs, rfl, r.step e1 s1, rv, ht, ev, hv, q2⟩
  · rintro u s1 ⟨v, H1, I1, rv, w1, S1, d, c', g, a, dx, vs, eH1, r1, rd, ht, ev, hv, q1⟩
    subst eH1 ev
    obtain rfl : u = Value.ref a := rv
    obtain ⟨f, cl, hm, F, nf⟩ := T.at_ c' g ht
    refine getmeth_ok I1 hv cl hm (lookup_zip_none nf) ?_
    have hs2 : notStar e = true ∧ es.all notStar = true := by simpa using hs
    refine PySem.W.callWith_K (first := [.ref a]) (h₀ := X.base) I.ok.mod.kin hm.kp (thn (ha.run pos pins s1 σ w1.H (fun xs H2 => xs.length = n ∧ ∃ wd ds S, wd.H = H2 ∧ RepS G wd S ∧ RepVs G wd ds ((V.ref a :: xs) ++ []) ∧ FinL G wd cont (g ds S)) I1 ?_) ?_) (starEach_cons hs2.1) (starEach_all hs2.2 pos)
    · refine ⟨w0, w1, sd, S1, rfl, r1, fin_step q1 fun w2 S2 ds xs e2 s2 rx q2 => ?_⟩
      exact ⟨rx.2, w2, d :: ds, S2, rfl, s2, by rw [List.append_nil]; exact ⟨_, _, rfl, RepV.mono e2 r1.st.dj _ _ rd, rx.1⟩, finl_of q2⟩
    · rintro us s2 ⟨xs, H2, I2, rx, lx, q2⟩
      exact ⟨I2.kIn, made_ok (a := ⟨.ref a :: us, []⟩) I2 (F.run X.A X.stack s2 H2 (.ref a :: us) [] (.ref a :: xs) [] cont hr I2.env0 (.cons rfl rx) .nil (by rw [List.length_cons, lx]) rfl q2)⟩
theorem gl_methK0 {tbl : Nat → Option (List D → M (List D))} (T : GMethT X G k mm 0 ks tbl) (hr : Room k X.A) (ho : PV G X W o fo) (hk : PKn G X W j kws fk) (hj : j = ks.length) (hb : plainBase o = true) (hl : kws.length + 1 < 30) (hp : (apos.endLine == pos.line) = true)
    (hall : (backToKw pos (keywordEach kws X.env)).all (·.1.isSome) = true) (hks : (backToKw pos (keywordEach kws X.env)).filterMap (·.1) = ks) :
    PGen X k (.Call (.Attribute o mm apos) [] kws pos) (teG G (RepVs G) W fun sd => M.bind (fo sd) fun d => M.bind (pickN tbl d) fun g => M.bind (fk sd) fun ds => noErr (g (d :: ds))) NoX := by
  constructor
  intro pins s σ H cont I ⟨w0, w, sd, S, eH, r, q⟩
  refine PySem.W.methodCall_KW (thn (ho.run pins s σ H (fun v H1 => ∃ w1 S1 d c g a dx vs, w1.H = H1 ∧ R G w0 w1 sd S1 σ ∧ RepV G w1 d v ∧ tbl c = some g ∧ v = .ref a ∧ w1.H a = some (.ins (G.ca c) dx ((G.fn c).zip vs)) ∧
      FinG G (RepVs G) (fun c x H => W c x σ H) w1 cont (M.bind (fk sd) (fun ds => noErr (g (d :: ds))) S1)) I ?_) ?_) (methk_tree hb rfl hall (by simpa using hl) hp)
  · refine ⟨w0, w, sd, S, eH, r, fin_step q fun w1 S1 d v e1 s1 rv q1 => ?_⟩
    obtain ⟨c', g, ht, q2, a, dx, vs, ev, hv⟩ := pickN_fin s1 rv q1
    exact ⟨w1, S1, d, c', g, a, dx, vs, rfl, r.step e1 s1, rv, ht, ev, hv, q2⟩
  · rintro u s1 ⟨v, H1, I1, rv, w1, S1, d, c', g, a, dx, vs, eH1, r1, rd, ht, ev, hv, q1⟩
    subst eH1 ev
    obtain rfl : u = Value.ref a := rv
    obtain ⟨f, cl, hm, F, nf⟩ := T.at_ c' g ht
    refine getmeth_ok I1 hv cl hm (lookup_zip_none nf) ?_
    refine PySem.W.callWith_KW0 (first := [.ref a]) (h₀ := X.base) I.ok.mod.kin hm.kp hall (thn (hk.run pos pins s1 σ w1.H (fun zs H2 => zs.length = ks.length ∧ ∃ wd ds S, wd.H = H2 ∧ RepS G wd S ∧ RepVs G wd ds ([V.ref a] ++ zs) ∧ FinL G wd cont (g ds S)) I1 ?_) ?_) (by rw [kw_names hall]; rfl)
    · refine ⟨w0, w1, sd, S1, rfl, r1, fin_step q1 fun w2 S2 ds xs e2 s2 rx q2 => ?_⟩
      exact ⟨rx.2.trans hj, w2, d :: ds, S2, rfl, s2, ⟨_, _, rfl, RepV.mono e2 r1.st.dj _ _ rd, rx.1⟩, finl_of q2⟩
    · rintro ws s2 ⟨zs, H2, I2, rz, lz, q2⟩
      refine ⟨I2.kIn, ?_⟩
      rw [hks]
      exact made_ok (a := ⟨[.ref a], ks.zip ws⟩) I2 (F.run X.A X.stack s2 H2 [.ref a] ws [.ref a] zs cont hr I2.env0 (.cons rfl .nil) rz rfl lz q2)
theorem v_listN {nm : Str} {f : List SV → M (List D)} (h : PGen X k e (teG G (RepVs G) W f) NoX) (hr : Room (k + 3) X.A) (hg : Gl X nm) (hm : X.mg nm = none) (hv : bootBuiltins nm = some (.type "list")) (hs : notStar e = true) (hnm : nm ≠ "__name__") (hdb : (nm == ("__debug__" : Str)) = false) :
    PV G X W (.Call (.Name nm p) [e] [] pos) (fun sd => M.bind (f sd) fun l => M.pure (.lst l)) := by
  refine PE.imp (pe_listG h pass_nox stop_nox hr hg hm hv hnm hdb (starEach_cons hs)) fun σ H Q q => ?_
  obtain ⟨w0, w, sd, S, e, r, q⟩ := q
  refine ⟨w0, w, sd, S, e, r, fin_step q fun w1 S1 l vs e1 s1 rv q1 p hp => ?_⟩
  exact q1 (w1.frz p (.lst vs)) (.ref p) (Ext.frz hp) (s1.frz hp) ⟨p, vs, rfl, .inr rfl, upd_same, RepVs.mono (Ext.frz hp) s1.dj _ _ rv⟩
end
end Ev
set_option maxRecDepth 100000
set_option maxHeartbeats 2000000
namespace Ev
open PySem L2
@[irreducible] def Wg (f : MG) (sd : List SV) (S : List Ob) (out : List D) (N : List SV → List Ob → List D → Prop) : Prop := match f sd S out with
  | some (.next sd', S', out') => N sd' S' out'
  | _ => False
section
variable {f g : MG} {sd : List SV} {S : List Ob} {out : List D} {N N' : List SV → List Ob → List D → Prop}
theorem wg_seq (h : Wg f sd S out (fun sd' S' out' => Wg g sd' S' out' N)) : Wg (seqG f g) sd S out N := by
  unfold Wg at *
  unfold seqG
  rcases hf : f sd S out with _ | ⟨_ | _ | _ | _ | _, _, _⟩ <;> rw [hf] at h <;> first | exact h.elim | skip
  simpa [Wg] using h
theorem wg_nil (h : N sd S out) : Wg nilG sd S out N := by
  unfold Wg nilG
  exact h
theorem wg_plain {m : MS} (h : Ws m sd S (fun sd' S' => N sd' S' out) (fun _ _ => False) (fun _ _ => False) (fun _ _ => False)) : Wg (plainG m) sd S out N := by
  have h := h.run
  unfold RunS at h
  unfold Wg plainG
  rcases hf : m sd S with _ | ⟨_ | _ | _ | _ | _, _⟩ <;> rw [hf] at h <;> first | exact h.elim | exact h
theorem wg_yield {e : List SV → M D} (l : out.length < lim) (h : Wp (e sd) S fun d S' => N sd S' (out ++ [d])) : Wg (yieldG e) sd S out N := by
  have h := h.run
  unfold Run at h
  unfold Wg yieldG
  rw [if_pos l]
  rcases hf : e sd S with _ | ⟨_ | _, _⟩ <;> rw [hf] at h <;> first | exact h.elim | exact h
theorem wg_loop {t : Tgt} (J : List D → List SV → List Ob → List D → Prop) (step : ∀ d ds sd S out, J (d :: ds) sd S out → ∃ sd1 S1, t d sd S = some (sd1, S1) ∧ Wg f sd1 S1 out (fun sd2 S2 out2 => J ds sd2 S2 out2))
    (fin : ∀ sd S out, J [] sd S out → N sd S out) : ∀ (ds : List D) (sd : List SV) (S : List Ob) (out : List D), J ds sd S out → Wg (loopG t f ds) sd S out N
  | [], sd, S, out, h => wg_nil (fin sd S out h)
  | d :: ds, sd, S, out, h => by
    obtain ⟨sd1, S1, e, hb⟩ := step d ds sd S out h
    have ih := wg_loop J step fin ds
    unfold Wg at hb ⊢
    unfold loopG
    rw [e]
    simp only
    rcases hf : f sd1 S1 out with _ | ⟨_ | _ | _ | _ | _, _, _⟩ <;> rw [hf] at hb <;> first | exact hb.elim | skip
    have := ih _ _ _ hb
    unfold Wg at this
    exact this
theorem wg_for {fi : List SV → M (List D)} {t : Tgt} (J : List D → List SV → List Ob → List D → Prop) (h : Wp (fi sd) S fun ds S' => J ds sd S' out)
    (step : ∀ d ds sd S out, J (d :: ds) sd S out → ∃ sd1 S1, t d sd S = some (sd1, S1) ∧ Wg f sd1 S1 out (fun sd2 S2 out2 => J ds sd2 S2 out2))
    (fin : ∀ sd S out, J [] sd S out → N sd S out) : Wg (forG fi t f) sd S out N := by
  have h := h.run
  unfold Run at h
  unfold Wg forG
  rcases hf : fi sd S with _ | ⟨_ | ds, S1⟩ <;> rw [hf] at h <;> first | exact h.elim | skip
  have := wg_loop J step fin ds sd S1 out h
  unfold Wg at this
  exact this
theorem wp_gen {m n : Nat} {ms : MG} {ds : List D} {P : List D → List Ob → Prop} (e : ds.length = m) (h : Wg ms (slots n (ds.map .val)) S [] fun _ S' out => P out S') : Wp (genFn m n ms ds) S P := by
  refine wp_run.mpr ?_
  unfold Wg at h
  unfold Run genFn
  rw [if_pos e]
  rcases hf : ms (slots n (ds.map .val)) S [] with _ | ⟨_ | _ | _ | _ | _, _, _⟩ <;> rw [hf] at h <;> first | exact h.elim | exact h
end
end Ev
set_option maxRecDepth 100000
set_option maxHeartbeats 2000000
namespace PySem.SeqAt
open AutoSeq1 (wpAny_loadPart')
open MeetsSeq MeetsSeq2 MeetsSeq3
end PySem.SeqAt
namespace PySem.SeqAt
open PyProof.Rows
end PySem.SeqAt
namespace Ev
open PySem PySem.Spec PyProof.Rows L2
section
variable {G : Sg} {X : Cx} {W : WX} {k : Nat}
theorem v_dict0 {pos : Pos} : PV G X W (.Dict [] [] pos) (fun _ => M.pure (.dct [] [])) := by
  refine PE.imp pe_dnewK fun σ H Q q p hp => ?_
  obtain ⟨w0, w, sd, S, e, r, q⟩ := q
  subst e
  exact q (w.frz p (.dK [])) _ (Ext.frz hp) (r.st.frz hp) ⟨p, [], rfl, .inr rfl, upd_same, rfl, rfl⟩
end
end Ev
set_option maxRecDepth 100000
set_option maxHeartbeats 2000000
namespace Ev
open PySem PySem.Spec PyProof.Rows L2
end Ev
namespace Ev
open PySem L2
end Ev
namespace Ev
open PySem PySem.Spec PyProof.Rows L2
end Ev
set_option maxRecDepth 100000
set_option maxHeartbeats 2000000
namespace Ev
open PySem PySem.Spec PyProof.Rows L2
end Ev
set_option maxRecDepth 100000
set_option maxHeartbeats 2000000
namespace Ev
open PySem PySem.Spec PyProof.Rows L2
end Ev
set_option maxRecDepth 100000
set_option maxHeartbeats 2000000
namespace Ev
open PySem PySem.Spec PyProof.Rows L2
end Ev
set_option maxRecDepth 100000
set_option maxHeartbeats 2000000
namespace Ev
open PySem PySem.Spec PyProof.Rows L2
section
variable {G : Sg} {X : Cx} {W : WX} {k : Nat} {σ : L2.St} {pos : Pos}
structure SpT (X : Cx) (G : Sg) (k : Nat) (nm : Str) (tbl : Nat → Option (List D → M D)) : Prop where
  at_ : ∀ c g, tbl c = some g → ∃ f, PySem.W.findIn X.K (.ref (G.ca c)) nm = some (some (.ref f)) ∧ PySem.W.isFn X.K (.ref f) = true ∧ FnX X G k f g
def ownIn (neg : Bool) (tbl : Nat → Option (List D → M D)) (d e : D) : M D := M.bind (pick tbl e) fun g => M.bind (noErr (g [e, d])) fun r => M.bind (toB r) fun b => M.pure (.bl (neg != b))
theorem run_own {pins : List (Addr × Obj)} {H : Hp} {s : Shared} {Q : VK} {E' : Value → Shared → Prop} {f : Addr} {sem : List D → M D} {us : List Value} {vs : List V} (c : Ctx G X W k) (F : FnX X G k f sem) (I : Inv X pins σ H s) (r : Vals vs us)
    (h : spV G sem vs H Q (fun _ _ _ => False)) : wpAny (model X.prog X.w) X.A (call (.ref f) us) (EP X pins σ Q) E' s := by
  have lift : Rm G.gd k X.A := c.rm0
  have body := F.run X.A X.stack s H us vs Q (fun _ _ _ => False) lift I.env0 r h
  refine wpAny_call (codeAny_mono body ?_)
  intro res s' hq
  rcases res with er | fl
  · obtain ⟨_, _, _, _, _, _, _, _, _, _, _, _, z⟩ := hq
    exact z.elim
  · cases fl with
    | ret u => exact I.after hq
    | next => exact hq.elim
    | brk => exact hq.elim
    | cont => exact hq.elim
theorem in_both {op : CmpOp} {neg : Bool} {tbl : Nat → Option (List D → M D)} {pins : List (Addr × Obj)} {s : Shared} {Q : VK} (c : Ctx G X W k) (T : SpT X G k "__contains__" tbl) (hop : (op = .In ∧ neg = false) ∨ (op = .NotIn ∧ neg = true)) {u v : Value} {d d2 : D} {v1 v2 : V} {w2 : Wd} {S2 : List Ob} {Wx : Value → Option Addr → Hp → Prop}
    (I2 : Inv X pins σ w2.H s) (rv : RelV v1 v) (ru : RelV v2 u) (s2' : RepS G w2 S2) (rd : RepV G w2 d v1) (rd2 : RepV G w2 d2 v2) (q2 : FinG G (RepV G) Wx w2 Q (ownIn neg tbl d d2 S2)) :
    wpAny (model X.prog X.w) X.A (compareOp op v u) (EP X pins σ Q) X.xe s := by
  unfold ownIn at q2
  obtain ⟨cc, g, tg, q6, hc1, a1, dx1, fs1, rfl, hb1⟩ := pick_fin s2' rd2 q2
  obtain ⟨f, fi, isf, F⟩ := T.at_ cc g tg
  cases (show u = Value.ref a1 from ru)
  obtain ⟨m1, O1, _⟩ := ins_get I2.hok hb1
  obtain ⟨od1, J1, _⟩ := O1.look
  obtain ⟨fr, hF⟩ := I2.fr
  have want : spV G g [.ref a1, v1] w2.H (fun z H' => ∃ b, z = .bl b ∧ Q (.bl (neg != b)) H') (fun _ _ _ => False) := by
    refine ⟨w2, [d2, d], S2, rfl, s2', ⟨_, _, rfl, rd2, _, _, rfl, rd, rfl⟩, ?_⟩
    unfold M.bind noErr at q6
    rcases hg : g [d2, d] S2 with _ | ⟨_ | r, S3⟩
    · rw [hg] at q6; exact q6.elim
    · rw [hg] at q6; exact q6.elim
    · rw [hg] at q6
      intro w' z e s3 rz
      cases r with
      | bl b =>
        cases (show z = .bl b from rz)
        exact ⟨b, rfl, q6 w' _ e s3 rfl⟩
      | _ => exact q6.elim
  have back : wpAny (model X.prog X.w) X.A (call (.ref f) [.ref a1, v]) (fun r s' => wpAny (model X.prog X.w) X.A (truthy r) (fun b s2 => EP X pins σ Q (.bool (neg != b)) s2) X.xe s') X.xe s := by
    refine wpAny_mono (run_own (us := [.ref a1, v]) (vs := [.ref a1, v1]) c F I2 (.cons rfl (.cons rv .nil)) want) (fun r s' z => ?_) fun _ _ z => z
    obtain ⟨z', H', I3, rz, b, rfl, hQ⟩ := z
    cases (show r = Value.bool b from rz)
    exact wpAny_truthy_bool ⟨.bl (neg != b), H', I3, rfl, hQ⟩
  rcases hop with ⟨rfl, rfl⟩ | ⟨rfl, rfl⟩
  · refine PySem.W.in_K hF I2.ok.mod.kin J1 fi isf (wpAny_mono back (fun r s' z => wpAny_mono z (fun b s2 y => ?_) fun _ _ y => y) fun _ _ z => z)
    simpa using y
  · refine PySem.W.notIn_K hF I2.ok.mod.kin J1 fi isf (wpAny_mono back (fun r s' z => wpAny_mono z (fun b s2 y => ?_) fun _ _ y => y) fun _ _ z => z)
    simpa using y
theorem o_ownIn {tbl : Nat → Option (List D → M D)} (c : Ctx G X W k) (T : SpT X G k "__contains__" tbl) : OpR X (compareOp .In) (rD2 G (ownIn false tbl)) := by
  intro pins s σ H v1 v2 v u Q I rv ru ⟨Wx, w2, S2, d, d2, eH, s2, rd, rd2, q⟩
  subst eH
  exact in_both c T (.inl ⟨rfl, rfl⟩) I rv ru s2 rd rd2 q
end
end Ev
set_option maxRecDepth 100000
set_option maxHeartbeats 1000000
namespace Ev
open PySem PySem.Spec PyProof.Rows L2
section
variable {G : Sg} {X : Cx} {W : WX} {k : Nat} {w0 w : Wd} {sd : List SV} {S : List Ob} {σ : L2.St}
def parO (i j : Nat) (f : List SV → M (List D)) (g : List SV → M D) : MS := exS f fun ds => exS g fun d sd S => some (.next ((sd.set i (.own (.lst ds))).set j (.val d)), S)
theorem s_parO {i j : Nat} {x y : Str} {a b : Expr} {f : List SV → M (List D)} {g : List SV → M D} {px py pt pos : Pos} {kt k2 : Nat} {pt2 : Pos} (c : Ctx G X W k) (hi : X.N[i]? = some x) (hj : X.N[j]? = some y) (hij : i ≠ j)
    (hx : X.env.scope.names.lookup x = some .local) (hy : X.env.scope.names.lookup y = some .local) (ha : PO_ G X W a f) (hb : PV G X W b g) (sa : notStar a = true) (sb : notStar b = true) (hw : swappedStores [.Tuple [.Name x px, .Name y py] kt pt] (.Tuple [a, b] k2 pt2) X.env = pure (some [x, y])) (i0 : i ≠ 0) :
    PSV G X W (.Assign [.Tuple [.Name x px, .Name y py] kt pt] (.Tuple [a, b] k2 pt2) pos) (parO i j f g) := by
  refine PS.imp (ps_par c.calm c.nd hi hj hij hx hy (pa_cons ha (pa_cons hb pa_nil (starEach_cons sb)) (starEach_cons sa)) hw rfl) fun En σ H q => ?_
  obtain ⟨w0, w, sd, S, e, r, q⟩ := q
  refine ⟨w0, w, sd, S, e, r, ?_⟩
  unfold parO exS at q
  rcases hf : f sd S with _ | ⟨_ | ds, S1⟩
  · rw [hf] at q; exact q
  · rw [hf] at q
    exact fun w' cls x e s rx => q w' σ cls x (e.stay r.st.dj) (r.step e s) rx
  · rw [hf] at q
    intro w' p vs e1 s1 h1 h2 h3 h4 h5
    have r1 := r.step e1 s1
    refine ⟨w0, w', sd, S1, rfl, r1, ?_⟩
    simp only at q
    rcases hg : g sd S1 with _ | ⟨_ | d, S2⟩
    · rw [hg] at q; exact q
    · rw [hg] at q
      exact fun w2 cls x e2 s2 rx => q w2 σ cls x ((e1.trans e2).stay r.st.dj) (r1.step e2 s2) rx
    · rw [hg] at q
      intro w2 v e2 s2 rv
      have ro : RepO G w2 p (.lst ds) := ⟨vs, e2.H p _ h4 h1, RepVs.mono e2 s1.dj _ _ h2⟩
      refine ⟨_, _, rfl, q w2 ((σ.set i (some (.ref p))).set j (some v)) ((e1.trans e2).stay r.st.dj) (((r1.step e2 s2).setown ro (fun z => ?_) (fun z => ?_) (r.ex.al _ h5) (fun j o' ho hj => ?_) i0).setv rv j)⟩
      · rcases e2.nF p z with z | z
        · exact h3 z
        · rw [h1] at z; cases z
      · rcases e2.nm p z with z | z
        · exact h4 z
        · rw [h1] at z; cases z
      · obtain ⟨a, ea, hr, _⟩ := r.ow j o' ho
        rw [hj] at ea
        cases ea
        exact hr.there h5
def itemO (i : Nat) (fi : List SV → M D) : Tgt := fun d sd S => match sd[i]? with
  | some (.own (.lst ds)) => match fi sd S with
    | some (.ok (.int j), S2) => match ixN ds.length j with
      | some k => some (sd.set i (.own (.lst (ds.set k d))), S2)
      | none => none
    | _ => none
  | _ => none
theorem g_itemO {i : Nat} {x : Str} {p pos : Pos} {b : Expr} {fi : List SV → M D} (hN : X.N[i]? = some x) (hv : Vis X.env.scope x) (hd : (x == ("__debug__" : Str)) = false) (hcd : (x == ("__classdict__" : Str)) = false) (hb : PV G X W b fi) (hs : notSlice b = true) : PGV G X [] (.Subscript (.Name x p) b pos) (itemO i fi) := by
  refine PG.imp (pg_sub (pe_var (X := X) (pos := p) hN hv hd hcd) hb set_list (sub_tree hs)) fun v σ H Q q => ?_
  obtain ⟨w0, w, sd, S, d, e, r, rd, q⟩ := q
  subst e
  unfold itemO at q
  rcases hi : sd[i]? with _ | _ | d0 | ⟨ds | ⟨ks, ds⟩ | ⟨cc, ds⟩⟩
  · simp only [hi] at q; exact q.elim
  · simp only [hi] at q; exact q.elim
  · simp only [hi] at q; exact q.elim
  · simp only [hi] at q
    obtain ⟨a, ha, _⟩ := r.ow i _ hi
    refine ⟨.ref a, ha, w0, w, sd, S, rfl, r, ?_⟩
    rcases hg : fi sd S with _ | ⟨x | d2, S2⟩
    · rw [hg] at q; exact q
    · rw [hg] at q; exact q.elim
    · rw [hg] at q
      cases d2 with
      | int j =>
        simp only at q
        intro w2 v2 e2 s2 rj
        cases (show v2 = .int j from rj)
        have r2 := r.step e2 s2
        rcases hx : ixN ds.length j with _ | i2
        · simp only [hx] at q; exact q.elim
        · simp only [hx] at q
          obtain ⟨a', ha', ⟨vs, h1, h2⟩, nF, nm, _⟩ := r2.ow i _ hi
          rw [ha] at ha'
          cases ha'
          have rd2 : RepV G w2 d v := RepV.mono e2 r.st.dj _ _ rd
          have st := Stay.wr (o := .lst (vs.set i2 v)) nF
          have hn : RepO G (w2.wr a (.lst (vs.set i2 v))) a (.lst (ds.set i2 d)) := ⟨_, upd_same, RepVs.set i2 (RepVs.stay st _ _ h2) (RepV.stay st _ _ rd2)⟩
          refine ⟨a, vs, j, i2, rfl, rfl, h1, by rw [← h2.length]; exact hx, ?_⟩
          exact q (w2.wr a _) σ ((e2.stay r.st.dj).trans st) (r2.wr hi ha hn) fun _ _ => rfl
      | _ => exact q.elim
  · simp only [hi] at q; exact q.elim
  · simp only [hi] at q; exact q.elim
def ownNe0 (i : Nat) : List SV → M D := fun sd S => match sd[i]? with
  | some (.own (.lst ds)) => match toPs ds with
    | some ps => if SeqAt.shaped (.list ps) = true then some (.ok (.bl (!ds.isEmpty)), S) else none
    | none => none
  | _ => none
theorem b_ownNe0 {i : Nat} {x : Str} {p pos lpos : Pos} (c : Ctx G X W k) (hN : X.N[i]? = some x) (hv : Vis X.env.scope x) (hd : (x == ("__debug__" : Str)) = false) (hcd : (x == ("__classdict__" : Str)) = false) : PB G X W (.Compare (.Name x p) [.NotEq] [.List [] lpos] pos) (fun sd => M.bind (ownNe0 i sd) toB) := by
  refine PT.imp (pt_cmpR (op_neD c.rm.room.units) (pe_var (X := X) (pos := p) hN hv hd hcd) (v_lst (G := G) (W := W) (n := 0) (pos := lpos) l_nil (by decide)) rfl) fun σ H Q q => ?_
  obtain ⟨w0, w, sd, S, e, r, q⟩ := q
  subst e
  unfold M.bind ownNe0 at q
  rcases hi : sd[i]? with _ | _ | d0 | ⟨ds | ⟨ks, ds⟩ | ⟨cc, ds⟩⟩
  · simp only [hi] at q; exact q.elim
  · simp only [hi] at q; exact q.elim
  · simp only [hi] at q; exact q.elim
  · simp only [hi] at q
    rcases hp : toPs ds with _ | ps
    · simp only [hp] at q; exact q.elim
    · simp only [hp] at q
      by_cases hs : SeqAt.shaped (.list ps) = true
      · rw [if_pos hs] at q
        obtain ⟨a, ha, _⟩ := r.ow i _ hi
        refine ⟨.ref a, ha, w0, w, sd, S, rfl, r, ?_⟩
        intro w1 v1 e1 s1 rv
        obtain ⟨a', ha', ⟨vs, h1, h2⟩, _⟩ := (r.step e1 s1).ow i _ hi
        rw [ha] at ha'
        cases ha'
        refine ⟨.list ps, .list [], .lst (.of h1) (toPs_dp c.cK ds vs ps h2 hp), toP_dp c.cK (.lst []) v1 (.list []) rv rfl, hs, by decide +kernel, ?_⟩
        have z : PyData.eqv (.list ps) (.list []) = ds.isEmpty := by
          cases ds with
          | nil => cases hp; rfl
          | cons d ds =>
            unfold toPs at hp
            rcases h3 : toP d with _ | p1
            · rw [h3] at hp; cases hp
            · rcases h4 : toPs ds with _ | p2
              · rw [h3, h4] at hp; cases hp
              · rw [h3, h4] at hp
                cases hp
                rfl
        rw [z]
        exact ⟨_, rfl, q w1 _ e1 s1 rfl⟩
      · rw [if_neg hs] at q; exact q.elim
  · simp only [hi] at q; exact q.elim
  · simp only [hi] at q; exact q.elim
end
section
variable {S : List Ob} {sd : List SV} {N : List SV → List Ob → Prop} {R : D → List Ob → Prop} {B C : List SV → List Ob → Prop} {P : D → List Ob → Prop}
theorem gs_parO {i j : Nat} {f : List SV → M (List D)} {g : List SV → M D} (h : Wp (f sd) S fun ds S1 => Wp (g sd) S1 fun d S2 => N ((sd.set i (.own (.lst ds))).set j (.val d)) S2) : Ws (parO i j f g) sd S N R B C := by
  have h := h.run
  refine ws_run.mpr ?_
  unfold RunS parO exS
  unfold Run at h
  rcases e : f sd S with _ | ⟨_ | ds, S1⟩
  · rw [e] at h; exact h
  · rw [e] at h; exact h
  · rw [e] at h
    have h := Wp.run h
    unfold Run at h
    simp only
    rcases e2 : g sd S1 with _ | ⟨_ | d, S2⟩
    · rw [e2] at h; exact h
    · rw [e2] at h; exact h
    · rw [e2] at h; exact h
theorem go_ownNe0 {i : Nat} {ds : List D} {ps : List PyData} (e : sd[i]? = some (.own (.lst ds))) (h : toPs ds = some ps) (hs : SeqAt.shaped (.list ps) = true) (q : P (.bl (!ds.isEmpty)) S) : Wp (ownNe0 i sd) S P := by
  refine wp_run.mpr ?_
  unfold Run ownNe0
  rw [e]
  simp only [h]
  rw [if_pos hs]
  exact q
end
end Ev
set_option maxRecDepth 100000
set_option maxHeartbeats 1000000
namespace Ev
open PySem PySem.Spec PyProof.Rows L2
end Ev
set_option maxRecDepth 100000
set_option maxHeartbeats 2000000
namespace Ev
open PySem PySem.Spec PyProof.Rows L2
theorem meets_bool_own {prog : Program} {w : World} (x : Addr) : MeetsIn prog w (Builtin.«bool.__new__» ⟨[.type "bool", .ref x], []⟩) (fun A R s => wpAny (model prog w) A.in1 (truthy (.ref x)) (fun b s' => R (.ok (.ret (.bool b))) s') (fun e s' => R (.error e) s') s) :=
  MeetsIn.of_wp fun A R s hs => by
    have f1 := PySem.F.conv_sub_bool
    repeat (any_goals (first | assumption | (with_reducible refine wpAny_mono hs (fun b s' hb => ?_) (fun e s' he => he)) | wp_step))
    exact ⟨_, rfl, hb⟩
theorem call_bool_own {prog : Program} {w : World} {A : Around} {E : Value → Shared → Prop} {s : Shared} {x : Addr} {Q : Value → Shared → Prop} (h : wpAny (model prog w) A.in1.in1 (truthy (.ref x)) (fun b s' => Q (.bool b) s') E s) : wpAny (model prog w) A (call (.type "bool") [.ref x]) Q E s :=
  callType_newIn PySem.F.called_bool PySem.F.newNe_bool (PySem.F.typeCall_bool_1 _) (PySem.F.newCall_bool_1 _) (fun obj => PySem.F.args_object_init_2 obj _) PySem.F.entry_bool_new (meets_bool_own x) (wpAny_mono h (fun b s' hb => ⟨PySem.typeIs_bool _ _, hb⟩) fun _ _ y => y)
section
variable {G : Sg} {X : Cx} {W : WX} {k j : Nat} {σ : L2.St} {pos : Pos} {f : Addr} {sem : List D → M D}
theorem run_truth {A : Around} {pins : List (Addr × Obj)} {H : Hp} {s : Shared} {Q : VK} {E' : Value → Shared → Prop} {us : List Value} {vs : List V} (hr : Rm G.gd j A) (e0 : Env0 X.prog X.w X.K X.mg X.base A X.stack s H) (F : FnX X G j f sem) (I : Inv X pins σ H s) (r : Vals vs us)
    (h : spV G sem vs H (fun z H' => ∃ b, z = .bl b ∧ Q (.bl b) H') (fun _ _ _ => False)) : wpAny (model X.prog X.w) A (call (.ref f) us) (PySem.W.BoolBack fun b s' => EP X pins σ Q (.bool b) s') E' s := by
  have body := F.run A X.stack s H us vs _ (fun _ _ _ => False) hr e0 r h
  refine wpAny_call (codeAny_mono body ?_)
  intro res s' hq
  rcases res with er | fl
  · obtain ⟨_, _, _, _, _, _, _, _, _, _, _, _, z⟩ := hq
    exact z.elim
  · cases fl with
    | ret u =>
      obtain ⟨z, H', I3, rz, b, rfl, hQ⟩ := I.after hq
      cases (show u = Value.bool b from rz)
      exact ⟨.bl b, H', I3, rfl, hQ⟩
    | next => exact hq.elim
    | brk => exact hq.elim
    | cont => exact hq.elim
def ownBool (tbl : Nat → Option (List D → M D)) (d : D) : M D := M.bind (pick tbl d) fun g => M.bind (noErr (g [d])) fun r => M.bind (toB r) fun b => M.pure (.bl b)
theorem c_boolX {tbl : Nat → Option (List D → M D)} (c : Ctx G X W k) (hj : j + 1 ≤ k) (T : SpT X G j "__bool__" tbl) : CallR X (.type "bool") (rDs G (on1 (ownBool tbl))) := by
  intro pins s σ H xs us Q I rx h
  obtain ⟨Wx, w, S, d, v, rfl, st, rfl, r, q⟩ := on1_of h
  unfold ownBool at q
  obtain ⟨cc, g, tg, q6, hc1, a1, dx1, fs1, rfl, hb1⟩ := pick_fin st r q
  obtain ⟨f, fi, isf, F⟩ := T.at_ cc g tg
  obtain ⟨u, rfl, ru⟩ := rx.one
  cases (show u = Value.ref a1 from ru)
  obtain ⟨m1, O1, _⟩ := ins_get I.hok hb1
  obtain ⟨od1, J1, _⟩ := O1.look
  obtain ⟨fr, hF⟩ := I.fr
  have r2 : Rm G.gd j X.A.in1.in1 := ((c.rm.mono (show j + 2 ≤ k + 1 by omega)).in1).in1
  have want : spV G g [.ref a1] w.H (fun z H' => ∃ b, z = .bl b ∧ Q (.bl b) H') (fun _ _ _ => False) := by
    refine ⟨w, [d], S, rfl, st, ⟨_, _, rfl, r, rfl⟩, ?_⟩
    unfold M.bind noErr at q6
    rcases hg : g [d] S with _ | ⟨_ | r, S3⟩
    · rw [hg] at q6; exact q6.elim
    · rw [hg] at q6; exact q6.elim
    · rw [hg] at q6
      intro w' z e s3 rz
      cases r with
      | bl b =>
        cases (show z = .bl b from rz)
        exact ⟨b, rfl, q6 w' _ e s3 rfl⟩
      | _ => exact q6.elim
  exact call_bool_own (PySem.W.truthy_K hF I.ok.mod.kin J1 fi isf (run_truth (us := [.ref a1]) (vs := [.ref a1]) r2 I.env0.in1.in1 F I (.cons rfl .nil) want))
end
end Ev
set_option maxRecDepth 100000
set_option maxHeartbeats 2000000
namespace Ev
open PySem PySem.Spec PyProof.Rows L2
def witerG (f : List SV → M Bool) (body : MG) : Nat → MG
  | 0 => fun _ _ _ => none
  | m + 1 => fun sd S out => match f sd S with
    | none => none
    | some (.error e, S1) => some (.err e sd, S1, out)
    | some (.ok false, S1) => some (.next sd, S1, out)
    | some (.ok true, S1) => match body sd S1 out with
      | some (.next sd2, S2, out2) => witerG f body m sd2 S2 out2
      | some (.cont sd2, S2, out2) => witerG f body m sd2 S2 out2
      | some (.brk sd2, S2, out2) => some (.next sd2, S2, out2)
      | o => o
def whileG (f : List SV → M Bool) (body : MG) : MG := witerG f body bigW
section
variable {G : Sg} {X : Cx} {W : WX} {k : Nat}
theorem sg_while {cond : Expr} {body : List Stmt} {f : List SV → M Bool} {fb : MG} {pos : Pos} (c : Ctx G X W k) (hc : PB G X W cond f) (hb : PGSs G X W body fb) : PGS G X W (.While cond body [] pos) (whileG f fb) := by
  refine gs_imp (gs_while c.po hc hb) fun En ys0 σ H q => ?_
  obtain ⟨w0, w, sd, S, out, e, r, ro, q⟩ := q
  refine ⟨fun m ys σ H => ∃ w sd S out, w.H = H ∧ R G w0 w sd S σ ∧ RepVs G w out ys ∧ FinN G W w0 w En (witerG f fb m sd S out), ⟨bigW, w, sd, S, out, e, r, ro, q⟩, ?_⟩
  rintro m ys σ1 H1 ⟨w1, sd1, S1, out1, rfl, r1, ro1, q1⟩
  cases m with
  | zero => exact q1.elim
  | succ m =>
    unfold witerG at q1
    refine ⟨w0, w1, sd1, S1, rfl, r1, ?_⟩
    rcases hf : f sd1 S1 with _ | ⟨_ | d, S2⟩
    · rw [hf] at q1; exact q1
    · rw [hf] at q1
      exact fun w' cls x ex s rx => q1 w' σ1 cls x (ex.stay r1.st.dj) (r1.step ex s) rx
    · rw [hf] at q1
      intro w2 v e2 s2 rv
      cases (show v = d from rv)
      have r2 := r1.step e2 s2
      have ro2 := RepVs.mono e2 r1.st.dj _ _ ro1
      have q2 := FinN.stay (e2.stay r1.st.dj) q1
      cases d with
      | false => exact q2 w2 σ1 ys (Stay.refl _) r2 ro2
      | true =>
        refine ⟨_, fun ys' σ' H' hN => ⟨m, Nat.lt_succ_self _, hN⟩, w0, w2, sd1, S2, out1, rfl, r2, ro2, ?_⟩
        simp only at q2
        rcases hbq : fb sd1 S2 out1 with _ | ⟨_ | _ | _ | _ | _, S5, out5⟩
        · rw [hbq] at q2; exact q2
        · rw [hbq] at q2
          exact fun w5 σ5 ys5 st5 r5 ro5 => ⟨w5, _, S5, out5, rfl, r5, ro5, FinN.stay st5 q2⟩
        · rw [hbq] at q2; exact q2
        · rw [hbq] at q2
          exact fun w5 σ5 ys5 st5 r5 ro5 => q2 w5 σ5 ys5 st5 r5 ro5
        · rw [hbq] at q2
          exact fun w5 σ5 ys5 st5 r5 ro5 => ⟨w5, _, S5, out5, rfl, r5, ro5, FinN.stay st5 q2⟩
        · rw [hbq] at q2
          exact fun w5 σ5 cl y st5 r5 => q2 w5 σ5 cl y st5 r5
end
end Ev
set_option maxRecDepth 100000
set_option maxHeartbeats 1000000
namespace Ev
open PySem PySem.Spec PyProof.Rows L2
section
variable {G : Sg} {X : Cx} {W : WX} {k : Nat}
def augMS (i : Nat) (f : List SV → M D) : MS := fun sd S => match sd[i]? with
  | some (SV.val (.int a)) => exS f (fun b sd S => match b with
    | .int j => some (.next (sd.set i (.val (.int (a - j)))), S)
    | _ => none) sd S
  | _ => none
theorem s_augM {i : Nat} {x : Str} {e : Expr} {f : List SV → M D} {pos pos' : Pos} (c : Ctx G X W k) (hi : X.N[i]? = some x) (hx : Loc X.env.scope x) (he : PV G X W e f) (hf : X.fn x = true ∨ X.env.scope.names.lookup x = some .local) :
    PSV G X W (.AugAssign (.Name x pos') .Sub e pos) (augMS i f) := by
  refine PS.imp (ps_aug c.nd hi hx he ip_sub hf) fun D σ H q => ?_
  obtain ⟨w0, w, sd, S, e, r, q⟩ := q
  unfold augMS at q
  rcases hs : sd[i]? with _ | _ | d | o
  · rw [hs] at q; exact q.elim
  · rw [hs] at q; exact q.elim
  · rw [hs] at q
    cases d with
    | int a =>
      obtain ⟨v, h1, h2⟩ := r.vl i _ hs
      cases (show v = .int a from h2)
      refine ⟨.int a, h1, w0, w, sd, S, e, r, exS_step q r fun w1 S1 b u e1 r1 rv q1 => ?_⟩
      cases b with
      | int j =>
        cases (show u = .int j from rv)
        exact ⟨a, j, rfl, rfl, q1 w1 _ (Stay.refl w1) (r1.setv (d := .int (a - j)) rfl i)⟩
      | _ => exact q1.elim
    | _ => exact q.elim
  · rw [hs] at q; exact q.elim
end
theorem gs_augM {S : List Ob} {sd : List SV} {N : List SV → List Ob → Prop} {R : D → List Ob → Prop} {B C : List SV → List Ob → Prop} {f : List SV → M D} {i : Nat} {a : Int} (e : sd[i]? = some (.val (.int a)))
    (h : Wp (f sd) S fun d S' => ∃ j, d = .int j ∧ N (sd.set i (.val (.int (a - j)))) S') : Ws (augMS i f) sd S N R B C := by
  refine ws_run.mpr ?_
  unfold RunS augMS
  rw [e]
  refine (runS_ex (k := fun b sd S => match b with
    | .int j => some (.next (sd.set i (.val (.int (a - j)))), S)
    | _ => none)).mpr (h.run.mono fun d S' q => ?_)
  obtain ⟨j, rfl, q⟩ := q
  exact q
end Ev
set_option maxRecDepth 100000
set_option maxHeartbeats 1000000
namespace Ev
open PySem PySem.Spec PyProof.Rows L2
section
variable {G : Sg} {X : Cx} {W : WX} {k : Nat}
theorem base_call {x m : Str} {p pos : Pos} {env : Env} {whole : Sem Value} (h : (x != ("super" : Str)) = true) : attributeBase (.Call (.Name x p) [] [] pos) m env whole = whole := by
  unfold attributeBase
  simp only [h, Bool.true_or, if_true]
theorem v_attrC {x : Str} {p cpos pos : Pos} {m : Str} {tbl : Nat → Option At} {fo : List SV → M D} (c : Ctx G X W k) (T : AttrT X G k m tbl) (ho : PV G X W (.Call (.Name x p) [] [] cpos) fo) (hb : (x != ("super" : Str)) = true) : PV G X W (.Attribute (.Call (.Name x p) [] [] cpos) m pos) (fun sd => M.bind (fo sd) (attr tbl)) := by
  constructor
  intro pins s σ H Q I ⟨w0, w, sd, S, eH, r, q⟩
  refine attr_of (base_call hb) (thn (ho.run pins s σ H (fun v H1 => ∃ w1 S1 d, w1.H = H1 ∧ RepS G w1 S1 ∧ RepV G w1 d v ∧ FinG G (RepV G) (fun c x H => W c x σ H) w1 Q (attr tbl d S1)) I ?_) ?_)
  · exact ⟨w0, w, sd, S, eH, r, fin_step q fun w1 S1 d v e1 s1 rv q1 => ⟨w1, S1, d, rfl, s1, rv, q1⟩⟩
  · rintro u s1 ⟨v, H1, I1, rv, w1, S1, d, eH1, s1', rd, q1⟩
    subst eH1
    unfold attr M.bind at q1
    rcases hc : fldsOf d S1 with _ | ⟨x | ⟨c', ds⟩, S2⟩
    · rw [hc] at q1; exact q1.elim
    · exact absurd hc fldsOf_noerr
    · obtain ⟨rfl, a, dx, vs, ev, hv, hds⟩ := fldsOf_rep s1' rd hc
      subst ev
      obtain rfl : u = Value.ref a := rv
      rw [hc] at q1
      simp only at q1
      rcases ht : tbl c' with _ | ⟨i | g⟩
      · rw [ht] at q1; exact q1.elim
      · rw [ht] at q1
        simp only at q1
        obtain ⟨cl, na, nd, hi⟩ := T.fld c' i ht
        rcases hx : ds[i]? with _ | y
        · rw [hx] at q1; exact q1.elim
        · rw [hx] at q1
          obtain ⟨z, hz, rz⟩ := hds.get hx
          refine getattr_ok I1 hv cl na (lookup_zip_some nd hi hz) fun u2 s2 I2 r2 => ?_
          exact ⟨z, w1.H, I2, r2, fin_pure q1 s1' rz⟩
      · rw [ht] at q1
        obtain ⟨p, f, cl, hp, F⟩ := T.prop c' g ht
        exact run_prop c.rm I1 hv cl hp F ⟨w1, [d], S2, rfl, s1', ⟨_, _, rfl, rd, rfl⟩, noErr_fin q1⟩
end
end Ev
set_option maxRecDepth 100000
set_option maxHeartbeats 1000000
namespace Ev
open PySem PySem.Spec PyProof.Rows L2
section
variable {G : Sg} {X : Cx} {W : WX} {k : Nat}
def ownLen (i : Nat) : List SV → M D := fun sd S => match sd[i]? with
  | some (.own (.lst ds)) => some (.ok (.int (ds.length : Nat)), S)
  | _ => none
theorem v_ownLen {i : Nat} {x : Str} {p p2 pos : Pos} (c : Ctx G X W k) (hg : Gl X "len") (hm : X.mg "len" = none) (hv0 : bootBuiltins "len" = some (.builtin "len")) (hN : X.N[i]? = some x) (hv : Vis X.env.scope x) (hd : (x == ("__debug__" : Str)) = false) (hcd : (x == ("__classdict__" : Str)) = false) : PV G X W (.Call (.Name "len" p) [.Name x p2] [] pos) (ownLen i) := by
  refine PE.imp (pe_callB call_len_seq hg hm hv0 (pa_cons (pe_var (X := X) (pos := p2) hN hv hd hcd) pa_nil) (by decide) (by decide) (starEach_cons rfl) rfl) fun σ H Q q => ?_
  obtain ⟨w0, w, sd, S, e, r, q⟩ := q
  subst e
  unfold ownLen at q
  rcases hi : sd[i]? with _ | _ | d0 | ⟨ds | ⟨ks, ds⟩ | ⟨cc, ds⟩⟩
  · simp only [hi] at q; exact q.elim
  · simp only [hi] at q; exact q.elim
  · simp only [hi] at q; exact q.elim
  · simp only [hi] at q
    obtain ⟨a, ha, ⟨vs, h1, h2⟩, _⟩ := r.ow i _ hi
    refine ⟨.ref a, ha, a, vs, rfl, .inl (.of h1), ?_⟩
    rw [← h2.length]
    exact q w (.int (ds.length : Nat)) (Ext.refl w) r.st rfl
  · simp only [hi] at q; exact q.elim
  · simp only [hi] at q; exact q.elim
end
section
variable {S : List Ob} {sd : List SV} {P : D → List Ob → Prop}
theorem go_ownLen {i : Nat} {ds : List D} (e : sd[i]? = some (.own (.lst ds))) (q : P (.int (ds.length : Nat)) S) : Wp (ownLen i sd) S P := by
  refine wp_run.mpr ?_
  unfold Run ownLen
  rw [e]
  exact q
end
end Ev
set_option maxRecDepth 100000
set_option maxHeartbeats 2000000
namespace PySem.W
open PySem PyProof.Rows SeqAt
open MeetsSeq MeetsSeq2 MeetsSeq3 SeqRoads2
section
variable {prog : Program} {w : World}
def Nones (prog : Program) (w : World) (A0 : Around) (l : Addr) (x : Value) (m : Nat) (J : Nat → Shared → Prop) : Prop :=
  ∀ (i : Nat) (s : Shared), J i s → ∃ items n dd sl, items.size = m ∧ s.heap.get? l = some { cls := .type "list", dict := dd, data := .seq items n, slots := sl } ∧
    ∀ (h : i < items.size) (E : Value → Shared → Prop), wpAny (model prog w) A0.in1 (eqBool items[i] x) (fun b s' => b = false ∧ J (i + 1) s') E s
theorem none_loop (l : Addr) (m : Nat) (x : Value) (J : Nat → Shared → Prop) (A0 : Around) (hl : Nones prog w A0 l x m J) (k : Nat) :
    ∀ i : Nat, m - i = k → MeetsIn prog w (Builtin.«list.__contains__.loop» ⟨[.ref l, x, rawInt i], []⟩)
      (fun A R s => A = A0 ∧ J i s ∧ i ≤ m ∧ ∀ s', J m s' → R (.ok (.ret (.bool false))) s') := by
  induction k with
  | zero =>
    intro i hk A R s h
    obtain ⟨rfl, hj, hi0, h⟩ := h
    obtain ⟨items, n, dd, sl, hm, hls, _⟩ := hl i s hj
    have ei : i = items.size := by omega
    subst hm
    subst ei
    have hz := h s hj
    obtain ⟨hp, g, d, tk, os⟩ := s
    wp_walk using PySem.AutoSeq1.wpAny_loadPart' hls
    have hi : items[((items.size : Nat) : Int).toNat]? = none := by simp
    rw [hi]
    wp_walk
    exact hz
  | succ k ih =>
    intro i hk A R s h
    obtain ⟨rfl, hj, hi0, h⟩ := h
    obtain ⟨items, n, dd, sl, hm, hls, he⟩ := hl i s hj
    have hlt : i < items.size := by omega
    have one := fun E => he hlt E
    obtain ⟨hp, g, d, tk, os⟩ := s
    wp_walk using PySem.AutoSeq1.wpAny_loadPart' hls
    have hi : items[((i : Nat) : Int).toNat]? = some items[i] := by simp [hlt]
    rw [hi]
    refine wpAny_bind (wpAny_mono (one _) (fun b s' z => ?_) fun _ _ e => e)
    obtain ⟨rfl, hj'⟩ := z
    have hc : ((i : Int) + 1) = ((i + 1 : Nat) : Int) := by push_cast; rfl
    obtain ⟨hp', g', d', tk', os'⟩ := s'
    wp_walk
    rw [hc]
    exact ⟨plainId_quiet plain_contains_loop _, codeAny_builtin entry_contains_loop (by
      rw [Around.under_plainId plain_contains_loop _]
      exact ih (i + 1) (by omega) A R _ ⟨rfl, hj', by omega, h⟩)⟩
theorem none_contains (l : Addr) (m : Nat) (x : Value) (J : Nat → Shared → Prop) (A0 : Around) (hl : Nones prog w A0 l x m J) :
    MeetsIn prog w (Builtin.«list.__contains__» ⟨[.ref l, x], []⟩) (fun A R s => A = A0 ∧ J 0 s ∧ ∀ s', J m s' → R (.ok (.ret (.bool false))) s') := by
  intro A R s h
  obtain ⟨rfl, hj, h⟩ := h
  obtain ⟨items, n, dd, sl, hm, hls, _⟩ := hl 0 s hj
  obtain ⟨hp, g, d, tk, os⟩ := s
  wp_walk using PySem.AutoSeq1.wpAny_loadPart' hls
  exact ⟨plainId_quiet plain_contains_loop _, codeAny_builtin entry_contains_loop (by
    rw [Around.under_plainId plain_contains_loop _]
    exact none_loop l m x J A hl _ 0 rfl A R _ ⟨rfl, hj, Nat.zero_le _, h⟩)⟩
variable {A : Around} {E : Value → Shared → Prop} {s : Shared}
theorem none_in {l : Addr} {m : Nat} {x : Value} {Q : Value → Shared → Prop} (J : Nat → Shared → Prop) (hl : Nones prog w A l x m J) (h0 : J 0 s) (h : ∀ s', J m s' → Q (.bool false) s') :
    wpAny (model prog w) A (compareOp .In x (.ref l)) Q E s := by
  obtain ⟨items, n, dd, sl, hm, ho, _⟩ := hl 0 s h0
  show wpAny _ A (do return .bool (← contains (.ref l) x)) Q E s
  refine wpAny_bind (wpAny_contains_slot (T := "list") ⟨_, ho, rfl⟩ F.slot_list_contains (wpAny_mono (call_meetsIn (Q := fun v s' => v = .bool false ∧ J m s') F.slot_list_contains ⟨_, ho, rfl⟩ F.entry_list_contains (F.args_list_contains_2 _ _) (none_contains l m x J A hl) ⟨rfl, h0, fun s' z => ⟨rfl, z⟩⟩) (fun v s' hv => ?_) fun _ _ e => e))
  obtain ⟨rfl, z⟩ := hv
  exact wpAny_truthy_bool (wpAny_pure (h _ z))
variable {K : Frag} {x C : Addr} {ox : Obj} {od : Option Obj} {f : Addr}
theorem evn_eqB {u : Value} {T : String} {Q : Bool → Shared → Prop} {R : Shared → Prop} (hu : A.units < cLine) (X : K.In s.heap) (I : InstAt s.heap x ox C od) (hT : s.TypeIs u T) (hne : (u == Value.ref x) = false) (sub : subIn K (.ref C) (.type T) = some false)
    (hs : findIn K (.ref C) "__eq__" = some (some (.ref f))) (hf : isFn K (.ref f) = true) (hsame : ∀ (s' : Shared) (Q' : Bool → Shared → Prop), R s' → Q' false s' → wpAny (model prog w) A (isSame u (.ref x)) Q' E s')
    (h1 : wpAny (model prog w) A (call (.ref f) [.ref x, u]) (fun v s' => v = .notImplemented ∧ R s') E s)
    (h2 : wpAny (model prog w) A (tryCompare u "__eq__" (.ref x)) (fun r s'' => r = none ∧ s'' = s) E s)
    (h3 : ∀ s', R s' → Q false s') : wpAny (model prog w) A (eqBool u (.ref x)) Q E s := by
  have one : wpAny (model prog w) A (tryCompare (.ref x) "__eq__" u) (fun r s' => r = none ∧ R s') E s := by
    unfold tryCompare
    refine wpAny_bind (ifBound_K X I hs hf (wpAny_mono h1 (fun v s' hv => ?_) fun _ _ e => e))
    obtain ⟨rfl, hr⟩ := hv
    exact wpAny_pure ⟨rfl, hr⟩
  have rc : wpAny (model prog w) A (richCompare .Eq u (.ref x)) (fun v s' => v = .bool false ∧ R s') E s := by
    simp only [richCompare, cmpInfo_Eq, hT.oneThing_none]
    refine wpAny_holding (wpAny_bind (wpAny_cRoomFor hu ?_))
    refine wpAny_bind (wpAny_typeOf hT ?_)
    refine wpAny_bind (I.type.here ?_)
    split
    · refine wpAny_bind ((looks_subIn X sub).here ?_)
      simp only [Bool.false_eq_true, if_false, Bool.not_false, if_true]
      refine wpAny_bind (m := tryCompare u _ (.ref x)) (wpAny_mono h2 (fun r s2 z => ?_) fun _ _ e => e)
      obtain ⟨z1, z3⟩ := z
      subst z1
      subst z3
      refine wpAny_bind (m := tryCompare (.ref x) _ u) (wpAny_mono one (fun r s1 z => ?_) fun _ _ e => e)
      obtain ⟨z1, z2⟩ := z
      subst z1
      exact wpAny_bind (wpAny_rule (wpAny_bind (hsame _ _ z2 (wpAny_pure ⟨rfl, z2⟩))))
    · rename_i q
      exact absurd (by simp) q
  unfold eqBool
  show wpAny _ _ (holding [u, .ref x] (if (u == Value.ref x) = true then _ else _)) Q E s
  rw [hne]
  refine wpAny_holding ?_
  rw [if_neg (by decide)]
  have fin : wpAny (model prog w) A (richCompare .Eq u (.ref x) >>= truthOfDropped) Q E s := wpAny_bind (wpAny_mono rc (fun v s' z => by
    obtain ⟨rfl, z⟩ := z
    exact wpAny_truthy_bool (h3 _ z)) fun _ _ e => e)
  cases u <;> exact fin
end
end PySem.W
namespace PySem.W
open PyProof.Rows L2
section
variable {X : Cx} {pins : List (Addr × Obj)} {σ : L2.St} {H : Hp} {s : Shared} {A : Around} {E : Value → Shared → Prop} {Q : Bool → Shared → Prop} {v : V} {u : Value} {T : String} {l C dx : Addr}
theorem same_not2 (I : Inv X pins σ H s) (k : KindV X.K H v T) (r : L2.RelV v u) (hl : s.heap.get? l = some (instObj C dx)) (q : Q false s) : wpAny (model X.prog X.w) A (isSame u (.ref l)) Q E s := by
  have ref : ∀ {a : Addr} {o : Obj}, s.heap.get? a = some o → o.cls ≠ .ref C → wpAny (model X.prog X.w) A (isSame (.ref a) (.ref l)) Q E s := fun {a o} e hc => by
    have ne : a ≠ l := fun z => by
      rw [z, hl] at e
      cases e
      exact hc rfl
    show wpAny _ A (if (a == l) = true then pure true else _) Q E s
    rw [if_neg (by simpa using ne)]
    refine wpAny_bind (wpAny_load e (wpAny_bind (wpAny_load hl ?_)))
    split
    · rename_i h1 h2
      cases h2
    · exact wpAny_pure q
  rcases k with ⟨rfl, rfl⟩ | ⟨b, rfl, rfl⟩ | ⟨i, rfl, rfl⟩ | ⟨x, rfl, rfl⟩ | ⟨a, xs, rfl, sq, rfl⟩ | ⟨a, xs, rfl, sq, rfl⟩
  · cases r; exact wpAny_pure q
  · cases r; exact wpAny_pure q
  · obtain ⟨t, rfl⟩ := r; exact wpAny_pure q
  · obtain ⟨t, rfl⟩ := r; exact wpAny_pure q
  · cases r
    obtain ⟨its, _, ⟨o, e, c, _⟩, _⟩ := I.tuple sq
    exact ref e (by rw [c]; exact fun z => nomatch z)
  · cases r
    obtain ⟨its, _, ⟨o, n, e, c, _⟩, _⟩ := I.list sq
    exact ref e (by rw [c]; exact fun z => nomatch z)
theorem kind_ne (I : Inv X pins σ H s) (k : KindV X.K H v T) (r : L2.RelV v u) (hl : s.heap.get? l = some (instObj C dx)) : (u == Value.ref l) = false := by
  have ref : ∀ {a : Addr} {o : Obj}, s.heap.get? a = some o → o.cls ≠ .ref C → (Value.ref a == Value.ref l) = false := fun {a o} e hc => by
    rw [beq_eq_false_iff_ne]
    rintro z
    cases z
    rw [hl] at e
    cases e
    exact hc rfl
  rcases k with ⟨rfl, rfl⟩ | ⟨b, rfl, rfl⟩ | ⟨i, rfl, rfl⟩ | ⟨x, rfl, rfl⟩ | ⟨a, xs, rfl, sq, rfl⟩ | ⟨a, xs, rfl, sq, rfl⟩
  · cases r; rw [beq_eq_false_iff_ne]; exact fun z => nomatch z
  · cases r; rw [beq_eq_false_iff_ne]; exact fun z => nomatch z
  · obtain ⟨t, rfl⟩ := r; rw [beq_eq_false_iff_ne]; exact fun z => nomatch z
  · obtain ⟨t, rfl⟩ := r; rw [beq_eq_false_iff_ne]; exact fun z => nomatch z
  · cases r
    obtain ⟨its, _, ⟨o, e, c, _⟩, _⟩ := I.tuple sq
    exact ref e (by rw [c]; exact fun z => nomatch z)
  · cases r
    obtain ⟨its, _, ⟨o, n, e, c, _⟩, _⟩ := I.list sq
    exact ref e (by rw [c]; exact fun z => nomatch z)
end
end PySem.W
namespace Ev
open PySem PySem.Spec PyProof.Rows L2
structure LowT (X : Cx) (G : Sg) (k : Nat) (tbl : Nat → Option (Nat × (List SV → M Bool))) : Prop where
  at_ : ∀ c g, tbl c = some g → ∀ T ∈ ["NoneType", "bool", "int", "str", "tuple", "list"], PySem.W.subIn X.K (.ref (G.ca c)) (.type T) = some false
section
variable {G : Sg} {X : Cx} {W : WX} {k : Nat} {σ : L2.St}
def declAll (n : Nat) (fc : List SV → M Bool) (d : D) : List D → List Ob → Option (List Ob)
  | [], S => some S
  | y :: ys, S => match kindD y, fc (slots n ([d, y].map .val)) S with
    | some _, some (.ok true, S') => declAll n fc d ys S'
    | _, _ => none
def declIn (tbl : Nat → Option (Nat × (List SV → M Bool))) (d e : D) : M D := match d, e with
  | .ins c ds, .lst es => match tbl c with
    | some (n, fc) => fun S => match declAll n fc (.ins c ds) es S with
      | some S' => some (.ok (.bl false), S')
      | none => none
    | none => M.stuck
  | _, _ => M.stuck
theorem declAll_cons {n : Nat} {fc : List SV → M Bool} {d y : D} {ys : List D} {S S' : List Ob} (h : declAll n fc d (y :: ys) S = some S') : ∃ T S1, kindD y = some T ∧ fc (slots n ([d, y].map .val)) S = some (.ok true, S1) ∧ declAll n fc d ys S1 = some S' := by
  unfold declAll at h
  rcases hk : kindD y with _ | T
  · rw [hk] at h; cases h
  · rcases hf : fc (slots n ([d, y].map .val)) S with _ | ⟨_ | b, S1⟩
    · rw [hk, hf] at h; cases h
    · rw [hk, hf] at h; cases h
    · cases b with
      | false => rw [hk, hf] at h; cases h
      | true =>
        rw [hk, hf] at h
        exact ⟨T, S1, rfl, rfl, h⟩
theorem o_declIn {tbl : Nat → Option (Nat × (List SV → M Bool))} (c : Ctx G X W k) (T : DecT X G k tbl) (L : LowT X G k tbl) : OpR X (compareOp .In) (rD2 G (declIn tbl)) := by
  intro pins s σ H v1 v2 v u Q I rv ru ⟨Wx, w2, S2, d, d2, eH, s2, rd, rd2, q⟩
  subst eH
  unfold declIn at q
  cases d with
  | ins c1 ds =>
    cases d2 with
    | lst es =>
      simp only at q
      rcases ht : tbl c1 with _ | ⟨n, fc⟩
      · rw [ht] at q; exact q.elim
      rw [ht] at q
      simp only at q
      rcases hd : declAll n fc (.ins c1 ds) es S2 with _ | S9
      · rw [hd] at q; exact q.elim
      rw [hd] at q
      obtain ⟨a1, dx1, fs1, e1, hF1, hb1, _⟩ := id rd
      subst e1
      cases (show v = Value.ref a1 from rv)
      obtain ⟨al, vs, e2, hf2, hh2, rs⟩ := id rd2
      subst e2
      cases (show u = Value.ref al from ru)
      obtain ⟨f, fi, isf, fn, hm, m1, m2, sb, Dc⟩ := T.at_ c1 (n, fc) ht
      have low := L.at_ c1 (n, fc) ht
      let J : Nat → Shared → Prop := fun i s' => ∃ w' S', Ext w2 w' ∧ RepS G w' S' ∧ Inv X pins σ w'.H s' ∧ declAll n fc (.ins c1 ds) (es.drop i) S' = some S9
      refine PySem.W.none_in (m := es.length) J (fun i s' hj => ?_) ⟨w2, S2, Ext.refl _, s2, I, by rw [List.drop_zero]; exact hd⟩ (fun s' hj => ?_)
      · obtain ⟨w', S', e, s3, I3, hx⟩ := hj
        obtain ⟨b2, vs2, eb, _, hh3, rs3⟩ := RepV.mono e s2.dj _ _ rd2
        cases eb
        obtain ⟨its, hits, ⟨ob, nn, hob, hcl, hdi, hda⟩, _⟩ := I3.list (.of hh3)
        have l1 := rs3.length
        have l2 := hits.length
        obtain ⟨cls, dd, data, sl⟩ := ob
        simp only at hcl hdi hda
        subst hcl hdi hda
        refine ⟨its.toArray, nn, _, sl, ?_, hob, fun hi E => ?_⟩
        · rw [List.size_toArray]
          omega
        rw [List.size_toArray] at hi
        have hie : i < es.length := by omega
        rw [List.drop_eq_getElem_cons hie] at hx
        obtain ⟨T2, S1, hk, hf, hx⟩ := declAll_cons hx
        obtain ⟨aa, dx', fs', ea, hF3, hb3, _⟩ := RepV.mono e s2.dj _ _ rd
        cases ea
        obtain ⟨mA, O1, _⟩ := ins_get I3.hok hb3
        obtain ⟨od1, J1, _⟩ := O1.look
        have rvi : ∃ vi, vs2[i]? = some vi ∧ RepV G w' es[i] vi := rs3.get (List.getElem?_eq_getElem hie)
        obtain ⟨vi, hvi, rvi⟩ := rvi
        have rui : L2.RelV vi its[i] := by
          obtain ⟨u', h1, h2⟩ := hits.get hvi
          rw [List.getElem?_eq_getElem hi] at h1
          cases h1
          exact h2
        have kv := kindD_rep (X := X) c.cK rvi hk
        have tT : T2 ∈ ["NoneType", "bool", "int", "str", "tuple", "list"] := by
          cases hes : es[i] <;> rw [hes] at hk <;> first | (cases hk; decide) | (exact absurd hk (fun z => nomatch z))
        let Rr : Shared → Prop := fun s'' => ∃ w3, Ext w' w3 ∧ RepS G w3 S1 ∧ Inv X pins σ w3.H s''
        have runs : wpAny (model X.prog X.w) X.A.in1 (call (.ref f) [.ref a1, its[i]]) (fun v s'' => v = .notImplemented ∧ Rr s'') E s' := by
          have body := Dc X.A.in1 X.stack s' w' [.ref a1, its[i]] [.ref a1, vi] [.ins c1 ds, es[i]] S' S1 (fun H' => ∃ w3, w3.H = H' ∧ Ext w' w3 ∧ RepS G w3 S1) c.rm.in1 I3.env0.in1 (.cons rfl (.cons rui .nil)) s3 ⟨_, _, rfl, RepV.mono e s2.dj _ _ rd, _, _, rfl, rvi, rfl⟩ rfl hf (fun w3 e3 s4 => ⟨w3, rfl, e3, s4⟩)
          refine wpAny_call (codeAny_mono body ?_)
          rintro r s'' ⟨rfl, z⟩
          obtain ⟨v', H', I4, _, _, w3, rfl, e3, s4⟩ := I3.after z
          exact ⟨rfl, w3, e3, s4, I4⟩
        refine PySem.W.evn_eqB (R := Rr) (c.rm.in1).room.units0 I3.kIn J1 (kv.type I3 rui) (PySem.W.kind_ne I3 kv rui O1.obj) (low T2 tT) fi isf (fun s'' Q' hr hq => ?_) runs (PySem.W.dcl_of I3 kv rui O1.obj m1 m2 (.inl rfl) ⟨rfl, rfl⟩) fun s'' hr => ?_
        · obtain ⟨w3, e3, s4, I4⟩ := hr
          obtain ⟨a4, dx4, fs4, ea4, _, hb4, _⟩ := RepV.mono (e.trans e3) s2.dj _ _ rd
          cases ea4
          obtain ⟨mA4, O4, _⟩ := ins_get I4.hok hb4
          exact PySem.W.same_not2 I4 (kindD_rep (X := X) c.cK (RepV.mono e3 s3.dj _ _ rvi) hk) rui O4.obj hq
        · obtain ⟨w3, e3, s4, I4⟩ := hr
          exact ⟨rfl, w3, S1, e.trans e3, s4, I4, hx⟩
      · obtain ⟨w', S', e, s3, I3, hx⟩ := hj
        rw [List.drop_eq_nil_of_le (Nat.le_refl _)] at hx
        cases hx
        exact ⟨.bl false, w'.H, I3, rfl, q w' _ e s3 rfl⟩
    | _ => exact q.elim
  | _ => cases d2 <;> exact q.elim
def inL (tbl : Nat → Option (Nat × (List SV → M Bool))) (d e : D) : M D := if isObj d = true then declIn tbl d e else dIn false d e
theorem o_inL {tbl : Nat → Option (Nat × (List SV → M Bool))} (c : Ctx G X W k) (T : DecT X G k tbl) (L : LowT X G k tbl) : OpR X (compareOp .In) (rD2 G (inL tbl)) := by
  refine OpR.imp ((o_declIn c T L).or (o_in c.cK c.rm)) fun v u H Q q => ?_
  obtain ⟨Wx, w2, S2, d, d2, eH, s2, rd, rd2, q⟩ := q
  unfold inL at q
  split at q
  · exact .inl ⟨Wx, w2, S2, d, d2, eH, s2, rd, rd2, q⟩
  · exact .inr ⟨Wx, w2, S2, d, d2, eH, s2, rd, rd2, q⟩
end
end Ev
set_option maxRecDepth 100000
set_option maxHeartbeats 4000000
local macro_rules | `(tactic| leaf_len) => `(tactic| first | exact Or.inl rfl | exact Or.inr (Or.inl rfl) | exact Or.inr (Or.inr rfl))
local macro_rules | `(tactic| mem_news) => `(tactic| first | exact Or.inl rfl | exact Or.inr rfl)
namespace K06
open PySem PySem.Spec PyProof.Rows L2 Ev
def top (i : Nat) : Stmt := PySem.Challenge.pw_rungladders_k06_sets_of_numbers_made.main.body.getD i (.Pass ⟨0, 0, 0, 0⟩)
def flds : Nat → List Str := fun c => match c with | 3 => ["row"] | _ => []
abbrev GG (b : Bool) (K : PySem.W.Frag) (ad : Nat → Addr) : Sg := { K := K, ca := fun c => ad (1000 + c), fn := flds, xc := fun _ => .none, xf := fun _ => Str.empty, gd := b }
abbrev st_Numbers_smallest : Stmt := inClass (top 17) 2
theorem sc_Numbers_smallest : FnScope ["self"] ["self"] (defScope st_Numbers_smallest) := ⟨rfl, rfl, rfl, by decide +kernel, rfl, by decide +kernel, by decide +kernel⟩
abbrev st_is_integer : Stmt := top 6
theorem sc_is_integer : FnScope ["value"] ["value"] (defScope st_is_integer) := ⟨rfl, rfl, rfl, by decide +kernel, rfl, by decide +kernel, by decide +kernel⟩
abbrev st_is_stretch : Stmt := top 10
theorem sc_is_stretch : FnScope ["value", "begin"] ["value", "begin"] (defScope st_is_stretch) := ⟨rfl, rfl, rfl, by decide +kernel, rfl, by decide +kernel, by decide +kernel⟩
abbrev st_check_stretches : Stmt := top 11
theorem sc_check_stretches : FnScope ["stretches", "begin", "index", "stretch"] ["stretches"] (defScope st_check_stretches) := ⟨rfl, rfl, rfl, by decide +kernel, rfl, by decide +kernel, by decide +kernel⟩
abbrev st_NumbersX_initX : Stmt := inClass (top 17) 0
theorem sc_NumbersX_initX : FnScope ["self", "stretches", "first", "last"] ["self", "stretches"] (defScope st_NumbersX_initX) := ⟨rfl, rfl, rfl, by decide +kernel, rfl, by decide +kernel, by decide +kernel⟩
abbrev st_stretch_text : Stmt := top 16
theorem sc_stretch_text : FnScope ["stretch", "first", "last"] ["stretch"] (defScope st_stretch_text) := ⟨rfl, rfl, rfl, by decide +kernel, rfl, by decide +kernel, by decide +kernel⟩
abbrev st_NumbersX_strX : Stmt := inClass (top 17) 12
theorem sc_NumbersX_strX : FnScope ["self", "stretch"] ["self"] (defScope st_NumbersX_strX) := ⟨rfl, rfl, rfl, by decide +kernel, rfl, by decide +kernel, by decide +kernel⟩
abbrev st_has : Stmt := top 13
theorem sc_has : FnScope ["edges", "number", "edge"] ["edges", "number"] (defScope st_has) := ⟨rfl, rfl, rfl, by decide +kernel, rfl, by decide +kernel, by decide +kernel⟩
abbrev st_edges_of : Stmt := top 12
theorem sc_edges_of : FnScope ["stretches", "found", "first", "last"] ["stretches"] (defScope st_edges_of) := ⟨rfl, rfl, rfl, by decide +kernel, rfl, by decide +kernel, by decide +kernel⟩
abbrev st_NumbersX_containsX : Stmt := inClass (top 17) 5
theorem sc_NumbersX_containsX : FnScope ["self", "number"] ["self", "number"] (defScope st_NumbersX_containsX) := ⟨rfl, rfl, rfl, by decide +kernel, rfl, by decide +kernel, by decide +kernel⟩
abbrev st__law_sip : Stmt := top 20
theorem sc__law_sip : FnScope ["_law_cup_here", "_law_many", "_law_part"] ["_law_cup_here", "_law_many"] (defScope st__law_sip) := ⟨rfl, rfl, rfl, by decide +kernel, rfl, by decide +kernel, by decide +kernel⟩
abbrev st__law_pick : Stmt := top 21
theorem sc__law_pick : FnScope ["_law_cup_here", "_law_things"] ["_law_cup_here", "_law_things"] (defScope st__law_pick) := ⟨rfl, rfl, rfl, by decide +kernel, rfl, by decide +kernel, by decide +kernel⟩
abbrev st__law_cuts : Stmt := top 22
theorem sc__law_cuts : FnScope ["_law_cup_here", "_law_found", "_law_place", "_law_turn", "_law_last"] ["_law_cup_here"] (defScope st__law_cuts) := ⟨rfl, rfl, rfl, by decide +kernel, rfl, by decide +kernel, by decide +kernel⟩
abbrev st__law_set : Stmt := top 26
theorem sc__law_set : FnScope ["_law_s"] ["_law_s"] (defScope st__law_set) := ⟨rfl, rfl, rfl, by decide +kernel, rfl, by decide +kernel, by decide +kernel⟩
abbrev st_NumbersX_reprX : Stmt := inClass (top 17) 13
theorem sc_NumbersX_reprX : FnScope ["self"] ["self"] (defScope st_NumbersX_reprX) := ⟨rfl, rfl, rfl, by decide +kernel, rfl, by decide +kernel, by decide +kernel⟩
abbrev st_NumbersX_boolX : Stmt := inClass (top 17) 6
theorem sc_NumbersX_boolX : FnScope ["self"] ["self"] (defScope st_NumbersX_boolX) := ⟨rfl, rfl, rfl, by decide +kernel, rfl, by decide +kernel, by decide +kernel⟩
abbrev st_Numbers_endless : Stmt := inClass (top 17) 3
theorem sc_Numbers_endless : FnScope ["self"] ["self"] (defScope st_Numbers_endless) := ⟨rfl, rfl, rfl, by decide +kernel, rfl, by decide +kernel, by decide +kernel⟩
abbrev st_Numbers_stretches : Stmt := inClass (top 17) 1
theorem sc_Numbers_stretches : FnScope ["self"] ["self"] (defScope st_Numbers_stretches) := ⟨rfl, rfl, rfl, by decide +kernel, rfl, by decide +kernel, by decide +kernel⟩
abbrev st__law_cut_words : Stmt := top 24
theorem sc__law_cut_words : FnScope ["_law_cuts_here", "_law_found", "_law_first_here", "_law_last"] ["_law_cuts_here"] (defScope st__law_cut_words) := ⟨rfl, rfl, rfl, by decide +kernel, rfl, by decide +kernel, by decide +kernel⟩
abbrev st__law_edges : Stmt := top 25
theorem sc__law_edges : FnScope ["_law_cuts_here", "_law_found", "_law_first_here", "_law_last", "_law_end", "_law_step"] ["_law_cuts_here"] (defScope st__law_edges) := ⟨rfl, rfl, rfl, by decide +kernel, rfl, by decide +kernel, by decide +kernel⟩
abbrev st__law_holds : Stmt := top 23
theorem sc__law_holds : FnScope ["_law_cuts_here", "_law_place", "_law_first_here", "_law_last"] ["_law_cuts_here", "_law_place"] (defScope st__law_holds) := ⟨rfl, rfl, rfl, by decide +kernel, rfl, by decide +kernel, by decide +kernel⟩
abbrev st__law_first : Stmt := top 27
theorem sc__law_first : FnScope ["_law_cuts_here", "_law_many", "_law_found", "_law_first_here", "_law_last", "_law_place"] ["_law_cuts_here", "_law_many"] (defScope st__law_first) := ⟨rfl, rfl, rfl, by decide +kernel, rfl, by decide +kernel, by decide +kernel⟩
abbrev st_is_between : Stmt := top 7
theorem sc_is_between : FnScope ["value", "low", "high"] ["value", "low", "high"] (defScope st_is_between) := ⟨rfl, rfl, rfl, by decide +kernel, rfl, by decide +kernel, by decide +kernel⟩
abbrev st_check_count : Stmt := top 8
theorem sc_check_count : FnScope ["value"] ["value"] (defScope st_check_count) := ⟨rfl, rfl, rfl, by decide +kernel, rfl, by decide +kernel, by decide +kernel⟩
abbrev st_Numbers_ascending : Stmt := inClass (top 17) 4
theorem sc_Numbers_ascending : GScope ["self", "count", "left", "first", "last", "number"] ["self", "count"] (defScope st_Numbers_ascending) := ⟨rfl, rfl, rfl, by decide +kernel, rfl, by decide +kernel, by decide +kernel⟩
abbrev st_NumbersX_eqX : Stmt := inClass (top 17) 11
theorem sc_NumbersX_eqX : FnScope ["self", "other"] ["self", "other"] (defScope st_NumbersX_eqX) := ⟨rfl, rfl, rfl, by decide +kernel, rfl, by decide +kernel, by decide +kernel⟩
abbrev st__law_right : Stmt := top 28
theorem sc__law_right : FnScope ["_law_cup_here", "_law_turn", "_law_cuts_here", "_law_mine", "_law_told", "_law_due", "_law_words", "_law_odd", "_law_many", "_law_mate", "_law_place", "_law_thing"] ["_law_cup_here"] (defScope st__law_right) := ⟨rfl, rfl, rfl, by decide +kernel, rfl, by decide +kernel, by decide +kernel⟩
abbrev st__law_cup : Stmt := top 19
theorem sc__law_cup : FnScope ["_law_script", "_law_spot", "_law_cell", "_law_one"] ["_law_script", "_law_spot"] (defScope st__law_cup) := ⟨rfl, rfl, rfl, by decide +kernel, rfl, by decide +kernel, by decide +kernel⟩
abbrev st_law : Stmt := top 29
theorem sc_law : FnScope ["_law_script", "_law_told", "_law_spot"] ["_law_script"] (defScope st_law) := ⟨rfl, rfl, rfl, by decide +kernel, rfl, by decide +kernel, by decide +kernel⟩
structure Facts (P : Program) (w : World) (K : PySem.W.Frag) (mg : Str → Option Value) (base : Heap) (ad : Nat → Addr) : Prop where
  f_Numbers_smallest : ∃ fd, Fun K "smallest" "Numbers.smallest" st_Numbers_smallest (ad 0) fd
  f_is_integer : ∃ fd, Fun K "is_integer" "is_integer" st_is_integer (ad 1) fd
  g_is_integer : mg "is_integer" = some (.ref (ad 1))
  f_is_stretch : ∃ fd, Fun K "is_stretch" "is_stretch" st_is_stretch (ad 2) fd
  g_is_stretch : mg "is_stretch" = some (.ref (ad 2))
  f_check_stretches : ∃ fd, Fun K "check_stretches" "check_stretches" st_check_stretches (ad 3) fd
  g_check_stretches : mg "check_stretches" = some (.ref (ad 3))
  f_NumbersX_initX : ∃ fd, Fun K "__init__" "Numbers.__init__" st_NumbersX_initX (ad 4) fd
  f_stretch_text : ∃ fd, Fun K "stretch_text" "stretch_text" st_stretch_text (ad 5) fd
  g_stretch_text : mg "stretch_text" = some (.ref (ad 5))
  f_NumbersX_strX : ∃ fd, Fun K "__str__" "Numbers.__str__" st_NumbersX_strX (ad 6) fd
  f_has : ∃ fd, Fun K "has" "has" st_has (ad 7) fd
  g_has : mg "has" = some (.ref (ad 7))
  f_edges_of : ∃ fd, Fun K "edges_of" "edges_of" st_edges_of (ad 8) fd
  g_edges_of : mg "edges_of" = some (.ref (ad 8))
  f_NumbersX_containsX : ∃ fd, Fun K "__contains__" "Numbers.__contains__" st_NumbersX_containsX (ad 9) fd
  f__law_sip : ∃ fd, Fun K "_law_sip" "_law_sip" st__law_sip (ad 10) fd
  g__law_sip : mg "_law_sip" = some (.ref (ad 10))
  f__law_pick : ∃ fd, Fun K "_law_pick" "_law_pick" st__law_pick (ad 11) fd
  g__law_pick : mg "_law_pick" = some (.ref (ad 11))
  f__law_cuts : ∃ fd, Fun K "_law_cuts" "_law_cuts" st__law_cuts (ad 12) fd
  g__law_cuts : mg "_law_cuts" = some (.ref (ad 12))
  f__law_set : ∃ fd, Fun K "_law_set" "_law_set" st__law_set (ad 13) fd
  g__law_set : mg "_law_set" = some (.ref (ad 13))
  f_NumbersX_reprX : ∃ fd, Fun K "__repr__" "Numbers.__repr__" st_NumbersX_reprX (ad 14) fd
  f_NumbersX_boolX : ∃ fd, Fun K "__bool__" "Numbers.__bool__" st_NumbersX_boolX (ad 15) fd
  f_Numbers_endless : ∃ fd, Fun K "endless" "Numbers.endless" st_Numbers_endless (ad 16) fd
  f_Numbers_stretches : ∃ fd, Fun K "stretches" "Numbers.stretches" st_Numbers_stretches (ad 17) fd
  f__law_cut_words : ∃ fd, Fun K "_law_cut_words" "_law_cut_words" st__law_cut_words (ad 18) fd
  g__law_cut_words : mg "_law_cut_words" = some (.ref (ad 18))
  f__law_edges : ∃ fd, Fun K "_law_edges" "_law_edges" st__law_edges (ad 19) fd
  g__law_edges : mg "_law_edges" = some (.ref (ad 19))
  f__law_holds : ∃ fd, Fun K "_law_holds" "_law_holds" st__law_holds (ad 20) fd
  g__law_holds : mg "_law_holds" = some (.ref (ad 20))
  f__law_first : ∃ fd, Fun K "_law_first" "_law_first" st__law_first (ad 21) fd
  g__law_first : mg "_law_first" = some (.ref (ad 21))
  f_is_between : ∃ fd, Fun K "is_between" "is_between" st_is_between (ad 22) fd
  g_is_between : mg "is_between" = some (.ref (ad 22))
  f_check_count : ∃ fd, Fun K "check_count" "check_count" st_check_count (ad 23) fd
  g_check_count : mg "check_count" = some (.ref (ad 23))
  f_Numbers_ascending : ∃ fd, Fun K "ascending" "Numbers.ascending" st_Numbers_ascending (ad 24) fd
  f_NumbersX_eqX : ∃ fd, Fun K "__eq__" "Numbers.__eq__" st_NumbersX_eqX (ad 25) fd
  f__law_right : ∃ fd, Fun K "_law_right" "_law_right" st__law_right (ad 26) fd
  g__law_right : mg "_law_right" = some (.ref (ad 26))
  f__law_cup : ∃ fd, Fun K "_law_cup" "_law_cup" st__law_cup (ad 27) fd
  g__law_cup : mg "_law_cup" = some (.ref (ad 27))
  f_law : ∃ fd, Fun K "law" "law" st_law (ad 28) fd
  g_law : mg "law" = some (.ref (ad 28))
  k_Numbers : mg "Numbers" = some (.ref (ad 1003))
  m_Numbers : Mk K (ad 1003) (ad 4)
  cl_Numbers : Cls K (ad 1003)
  na_Numbers_row : NoAttr K (ad 1003) "row"
  p_Numbers_Numbers_smallest : ∃ q, PropOf K (ad 1003) "smallest" q (ad 0)
  x_Numbers_NumbersX_strX : PySem.W.findIn K (.ref (ad 1003)) "__str__" = some (some (.ref (ad 6))) ∧ PySem.W.isFn K (.ref (ad 6)) = true ∧ PySem.W.findIn K (.ref (ad 1003)) "__format__" = some (some (.builtin "object.__format__")) ∧ PySem.W.mroIn K (ad 1003) (.type "object") = some true
  q_Numbers_NumbersX_containsX : PySem.W.findIn K (.ref (ad 1003)) "__contains__" = some (some (.ref (ad 9))) ∧ PySem.W.isFn K (.ref (ad 9)) = true
  x_Numbers_NumbersX_reprX : PySem.W.findIn K (.ref (ad 1003)) "__repr__" = some (some (.ref (ad 14))) ∧ PySem.W.isFn K (.ref (ad 14)) = true ∧ PySem.W.findIn K (.ref (ad 1003)) "__format__" = some (some (.builtin "object.__format__")) ∧ PySem.W.mroIn K (ad 1003) (.type "object") = some true
  q_Numbers_NumbersX_boolX : PySem.W.findIn K (.ref (ad 1003)) "__bool__" = some (some (.ref (ad 15))) ∧ PySem.W.isFn K (.ref (ad 15)) = true
  p_Numbers_Numbers_endless : ∃ q, PropOf K (ad 1003) "endless" q (ad 16)
  p_Numbers_Numbers_stretches : ∃ q, PropOf K (ad 1003) "stretches" q (ad 17)
  t_Numbers_Numbers_ascending : Meth K (ad 1003) "ascending" (ad 24)
  e_Numbers_NumbersX_eqX : PySem.W.findIn K (.ref (ad 1003)) "__eq__" = some (some (.ref (ad 25))) ∧ PySem.W.isFn K (.ref (ad 25)) = true ∧ PySem.W.findIn K (.ref (ad 1003)) "__ne__" = some (some (.builtin "object.__ne__")) ∧ PySem.W.mroIn K (ad 1003) (.type "object") = some true
  d_Numbers_NumbersX_eqX : PySem.W.mroIn K (ad 1003) (.type "tuple") = some false ∧ PySem.W.mroIn K (ad 1003) (.type "list") = some false ∧ ∀ T ∈ ["NoneType", "bool", "int", "str", "tuple", "list"], PySem.W.subIn K (.type T) (.ref (ad 1003)) = some false
  lw_Numbers_NumbersX_eqX : ∀ T ∈ ["NoneType", "bool", "int", "str", "tuple", "list"], PySem.W.subIn K (.ref (ad 1003)) (.type T) = some false
  z_NotImplemented : mg "NotImplemented" = none
  z_abs : mg "abs" = none
  z_all : mg "all" = none
  z_any : mg "any" = none
  z_bool : mg "bool" = none
  z_divmod : mg "divmod" = none
  z_enumerate : mg "enumerate" = none
  z_int : mg "int" = none
  z_isinstance : mg "isinstance" = none
  z_len : mg "len" = none
  z_list : mg "list" = none
  z_max : mg "max" = none
  z_min : mg "min" = none
  z_range : mg "range" = none
  z_repr : mg "repr" = none
  z_str : mg "str" = none
  z_tuple : mg "tuple" = none
  c_MOST_SECTIONS : ∀ b : Bool, GlobD mg (GG b K ad) "MOST_SECTIONS" (.int 100)
  isa : ∀ (b : Bool) (X : Cx), X.K = K → ClsT X (GG b K ad) (fun c => decide (c ∈ ([3] : List Nat))) (fun a b => if a ∈ ([3] : List Nat) ∧ b ∈ ([3] : List Nat) then some (decide ((a, b) ∈ ([(3, 3)] : List (Nat × Nat)))) else none)
variable {P : Program} {w : World} {K : PySem.W.Frag} {mg : Str → Option Value} {base : Heap} {ad : Nat → Addr} {b : Bool}
def Same (X : Cx) (P : Program) (w : World) (K : PySem.W.Frag) (mg : Str → Option Value) (base : Heap) : Prop := X.prog = P ∧ X.w = w ∧ X.K = K ∧ X.mg = mg ∧ X.base = base
theorem T_fld_row (T : Facts P w K mg base ad) {X : Cx} (h : Same X P w K mg base) : FldT X (GG b K ad) "row" (tab [(3, 0)]) := by
  obtain ⟨rfl, rfl, rfl, rfl, rfl⟩ := h
  exact ⟨(tab_cons ⟨T.cl_Numbers, T.na_Numbers_row, (show (flds 3).Nodup by decide +kernel), rfl, (show (flds 3).length < 1000 by decide +kernel)⟩ tab_nil)⟩
theorem T_attr_row_3 (T : Facts P w K mg base ad) {X : Cx} (h : Same X P w K mg base) {k : Nat} (hk : 0 ≤ k) : AttrT X (GG b K ad) k "row" (tab [(3, .fld 0)]) := by
  obtain ⟨rfl, rfl, rfl, rfl, rfl⟩ := h
  exact AttrT.of (tab_cons ⟨T.cl_Numbers, T.na_Numbers_row, (show (flds 3).Nodup by decide +kernel), rfl⟩ tab_nil)
def pk_Numbers_smallest : Σ' ms : MS, ∀ (P : Program) (w : World) (K : PySem.W.Frag) (mg : Str → Option Value) (base : Heap) (ad : Nat → Addr) (b : Bool), Facts P w K mg base ad → Body P w K mg base (GG b K ad) 0 (ad 0) ["self"] "Numbers.smallest" st_Numbers_smallest ms :=
  ⟨_, fun P w K mg base ad b T cdv A fr s H E c => ss_cons (s_ret (v_ite (b_cmp (o_gt) (v_callB (c_len c.cK) (by rfl) T.z_len (by decide +kernel) (l_cons (v_attr c (T_attr_row_3 T ⟨rfl, rfl, rfl, rfl, rfl⟩ (by decide)) (v_var (i := 0) rfl (by leaf_len) (by decide) (by decide)) rfl) l_nil rfl) rfl (by decide) (by decide)) v_int rfl) (v_ix c.cK (v_ix c.cK (v_attr c (T_attr_row_3 T ⟨rfl, rfl, rfl, rfl, rfl⟩ (by decide)) (v_var (i := 0) rfl (by leaf_len) (by decide) (by decide)) rfl) v_int rfl) v_int rfl) v_none)) ss_nil⟩
def sem_Numbers_smallest : List D → M D := runFn 1 1 pk_Numbers_smallest.1
theorem ok_Numbers_smallest (T : Facts P w K mg base ad) : FnA P w K mg base (GG b K ad) 2 (ad 0) sem_Numbers_smallest := by
  obtain ⟨fd, F⟩ := T.f_Numbers_smallest
  exact fna_rule F sc_Numbers_smallest (F.binds fun _ _ _ _ _ _ us hl => match us, hl with | [_], _ => rfl) rfl (pk_Numbers_smallest.2 P w K mg base ad b T) rfl rfl (by decide)
theorem T_attr_smallest_3 (T : Facts P w K mg base ad) {X : Cx} (h : Same X P w K mg base) {k : Nat} (hk : 2 ≤ k) : AttrT X (GG b K ad) k "smallest" (tab [(3, .prop sem_Numbers_smallest)]) := by
  obtain ⟨rfl, rfl, rfl, rfl, rfl⟩ := h
  exact AttrT.of (tab_cons (let ⟨q, hq⟩ := T.p_Numbers_Numbers_smallest; ⟨q, _, T.cl_Numbers, hq, (ok_Numbers_smallest T).mono (Nat.le_trans (by decide) hk)⟩) tab_nil)
def pk_is_integer : Σ' ms : MS, ∀ (P : Program) (w : World) (K : PySem.W.Frag) (mg : Str → Option Value) (base : Heap) (ad : Nat → Addr) (b : Bool), Facts P w K mg base ad → Body P w K mg base (GG b K ad) 0 (ad 1) ["value"] "is_integer" st_is_integer ms :=
  ⟨_, fun P w K mg base ad b T cdv A fr s H E c => ss_cons (s_ret (v_and (v_callB (c_isa c.cK (T.isa _ _ rfl)) (by rfl) T.z_isinstance (by decide +kernel) (l_cons (v_var (i := 0) rfl (by leaf_len) (by decide) (by decide)) (l_cons (v_ty (t := .int) (by rfl) T.z_int (by decide +kernel) (by decide) (by decide)) l_nil rfl) rfl) rfl (by decide) (by decide)) (v_one (v_not (v_callB (c_isa c.cK (T.isa _ _ rfl)) (by rfl) T.z_isinstance (by decide +kernel) (l_cons (v_var (i := 0) rfl (by leaf_len) (by decide) (by decide)) (l_cons (v_ty (t := .bool) (by rfl) T.z_bool (by decide +kernel) (by decide) (by decide)) l_nil rfl) rfl) rfl (by decide) (by decide)))))) ss_nil⟩
def sem_is_integer : List D → M D := runFn 1 1 pk_is_integer.1
theorem ok_is_integer (T : Facts P w K mg base ad) : FnA P w K mg base (GG b K ad) 2 (ad 1) sem_is_integer := by
  obtain ⟨fd, F⟩ := T.f_is_integer
  exact fna_rule F sc_is_integer (F.binds fun _ _ _ _ _ _ us hl => match us, hl with | [_], _ => rfl) rfl (pk_is_integer.2 P w K mg base ad b T) rfl rfl (by decide)
def pk_is_stretch : Σ' ms : MS, ∀ (P : Program) (w : World) (K : PySem.W.Frag) (mg : Str → Option Value) (base : Heap) (ad : Nat → Addr) (b : Bool), Facts P w K mg base ad → Body P w K mg base (GG b K ad) 2 (ad 2) ["value", "begin"] "is_stretch" st_is_stretch ms :=
  ⟨_, fun P w K mg base ad b T cdv A fr s H E c => ss_cons (s_if (b_of (w_or (b_not (b_val (v_callB (c_isa c.cK (T.isa _ _ rfl)) (by rfl) T.z_isinstance (by decide +kernel) (l_cons (v_var (i := 0) rfl (by leaf_len) (by decide) (by decide)) (l_cons (v_ty (t := .tuple) (by rfl) T.z_tuple (by decide +kernel) (by decide) (by decide)) l_nil rfl) rfl) rfl (by decide) (by decide)) (fun _ => rfl))) (w_or (b_cmp (o_ne c.cK c.rm) (v_callB (c_len c.cK) (by rfl) T.z_len (by decide +kernel) (l_cons (v_var (i := 0) rfl (by leaf_len) (by decide) (by decide)) l_nil rfl) rfl (by decide) (by decide)) v_int rfl) (w_or (b_not (b_val (v_calls (FnA.call c ((ok_is_integer T).mono (by decide))) (by rfl) T.g_is_integer (l_cons (v_ix c.cK (v_var (i := 0) rfl (by leaf_len) (by decide) (by decide)) v_int rfl) l_nil rfl) rfl (by decide)) (fun _ => rfl))) (w_or1 (b_cmp (o_lt) (v_ix c.cK (v_var (i := 0) rfl (by leaf_len) (by decide) (by decide)) v_int rfl) (v_var (i := 1) rfl (by leaf_len) (by decide) (by decide)) rfl)))))) (ss_cons (s_ret v_bool) ss_nil) (ss_nil)) (ss_cons (s_ret (v_or (v_cmp (o_is) (v_ix c.cK (v_var (i := 0) rfl (by leaf_len) (by decide) (by decide)) v_int rfl) v_none rfl) (v_one (v_and (v_calls (FnA.call c ((ok_is_integer T).mono (by decide))) (by rfl) T.g_is_integer (l_cons (v_ix c.cK (v_var (i := 0) rfl (by leaf_len) (by decide) (by decide)) v_int rfl) l_nil rfl) rfl (by decide)) (v_one (v_cmp (o_ge) (v_ix c.cK (v_var (i := 0) rfl (by leaf_len) (by decide) (by decide)) v_int rfl) (v_ix c.cK (v_var (i := 0) rfl (by leaf_len) (by decide) (by decide)) v_int rfl) rfl)))))) ss_nil)⟩
def sem_is_stretch : List D → M D := runFn 2 2 pk_is_stretch.1
theorem ok_is_stretch (T : Facts P w K mg base ad) : FnA P w K mg base (GG b K ad) 4 (ad 2) sem_is_stretch := by
  obtain ⟨fd, F⟩ := T.f_is_stretch
  exact fna_rule F sc_is_stretch (F.binds fun _ _ _ _ _ _ us hl => match us, hl with | [_, _], _ => rfl) rfl (pk_is_stretch.2 P w K mg base ad b T) rfl rfl (by decide)
def pk_check_stretches : Σ' ms : MS, ∀ (P : Program) (w : World) (K : PySem.W.Frag) (mg : Str → Option Value) (base : Heap) (ad : Nat → Addr) (b : Bool), Facts P w K mg base ad → Body P w K mg base (GG b K ad) 4 (ad 3) ["stretches", "begin", "index", "stretch"] "check_stretches" st_check_stretches ms :=
  ⟨_, fun P w K mg base ad b T cdv A fr s H E c => ss_cons (s_set (i := 1) c rfl (by mem_news) v_int rfl (.inl rfl)) (ss_cons (s_for c (i_enum c (by rfl) T.z_enumerate (v_var (i := 0) rfl (by leaf_len) (by decide) (by decide)) rfl) (g_tup c.cK c.calm (gs_cons (g_name (i := 2) c.nd rfl (by mem_news) (.inl rfl)) (gs_cons (g_name (i := 3) c.nd rfl (by mem_news) (.inl rfl)) gs_nil rfl) rfl) rfl rfl) (ss_cons (s_if (b_of (w_or (b_cmp (o_is) (v_var (i := 1) rfl (by leaf_len) (by decide) (by decide)) v_none rfl) (w_or1 (b_not (b_val (v_calls (FnA.call c ((ok_is_stretch T).mono (by decide))) (by rfl) T.g_is_stretch (l_cons (v_var (i := 3) rfl (by leaf_len) (by decide) (by decide)) (l_cons (v_var (i := 1) rfl (by leaf_len) (by decide) (by decide)) l_nil rfl) rfl) rfl (by decide)) (fun _ => rfl)))))) (ss_never) (ss_nil)) (ss_cons (s_set (i := 1) c rfl (by mem_news) (v_ite (b_cmp (o_is) (v_ix c.cK (v_var (i := 3) rfl (by leaf_len) (by decide) (by decide)) v_int rfl) v_none rfl) v_none (v_bin (o_add c.cK) (v_ix c.cK (v_var (i := 3) rfl (by leaf_len) (by decide) (by decide)) v_int rfl) v_int)) rfl (.inl rfl)) (ss_nil))) rfl) (ss_nil))⟩
def sem_check_stretches : List D → M D := runFn 1 4 pk_check_stretches.1
theorem ok_check_stretches (T : Facts P w K mg base ad) : FnA P w K mg base (GG b K ad) 6 (ad 3) sem_check_stretches := by
  obtain ⟨fd, F⟩ := T.f_check_stretches
  exact fna_rule F sc_check_stretches (F.binds fun _ _ _ _ _ _ us hl => match us, hl with | [_], _ => rfl) rfl (pk_check_stretches.2 P w K mg base ad b T) rfl rfl (by decide)
def pk_NumbersX_initX : Σ' ms : MS, ∀ (P : Program) (w : World) (K : PySem.W.Frag) (mg : Str → Option Value) (base : Heap) (ad : Nat → Addr) (b : Bool), Facts P w K mg base ad → Body P w K mg base (GG b K ad) 6 (ad 4) ["self", "stretches", "first", "last"] "Numbers.__init__" st_NumbersX_initX ms :=
  ⟨_, fun P w K mg base ad b T cdv A fr s H E c => ss_cons (s_expr (v_calls (FnA.call c ((ok_check_stretches T).mono (by decide))) (by rfl) T.g_check_stretches (l_cons (v_var (i := 1) rfl (by leaf_len) (by decide) (by decide)) l_nil rfl) rfl (by decide)) rfl) (ss_cons (s_setF (i := 0) (T_fld_row T ⟨rfl, rfl, rfl, rfl, rfl⟩) rfl (by leaf_len) (by decide) (by decide) (v_callTy (c_tuple c.cK) (by rfl) T.z_tuple (by decide +kernel) (l_cons (v_lc c (own := [("first", 2), ("last", 3)]) (i_seq c (v_var (i := 1) rfl (by leaf_len) (by decide) (by decide))) (blkOk_by (N := ["self", "stretches", "first", "last"]) (sc := defScope st_NumbersX_initX) (by decide +kernel)) (fun s H C cl fp => blkP c fun c => (p_tup c.cK c.calm (ps_consP (p_name (i := 2) c.nd rfl (by mem_news) (.inr rfl)) (ps_consP (p_name (i := 3) c.nd rfl (by mem_news) (.inr rfl)) ps_nilP rfl) rfl) rfl rfl)) (fun s H C cl fp => blkT c fun c => t_nil) (fun s H C cl fp => blkV c fun c => (v_tup (l_cons (v_var (i := 2) rfl (by leaf_len) (by decide) (by decide)) (l_cons (v_var (i := 3) rfl (by leaf_len) (by decide) (by decide)) l_nil rfl) rfl) (by decide))) rfl (by decide)) l_nil rfl) rfl (by decide) (by decide)) rfl) (ss_nil))⟩
def sem_NumbersX_initX : List D → M D := mkStar 3 1 4 pk_NumbersX_initX.1
theorem mk_Numbers (T : Facts P w K mg base ad) : ClA P w K mg base (GG b K ad) 8 3 sem_NumbersX_initX := by
  obtain ⟨fd, F⟩ := T.f_NumbersX_initX
  exact cla_star (ps := ["self"]) (pv := "stretches") F sc_NumbersX_initX rfl (pk_NumbersX_initX.2 P w K mg base ad b T) (fun _ _ _ _ _ _ => StX.bind_star1 (B := fun l => bindArgs _ ⟨l, []⟩) (fun _ => rfl) (fun _ _ _ => rfl)) T.m_Numbers rfl rfl (by decide) (by decide)
def pk_stretch_text : Σ' ms : MS, ∀ (P : Program) (w : World) (K : PySem.W.Frag) (mg : Str → Option Value) (base : Heap) (ad : Nat → Addr) (b : Bool), Facts P w K mg base ad → Body P w K mg base (GG b K ad) 0 (ad 5) ["stretch", "first", "last"] "stretch_text" st_stretch_text ms :=
  ⟨_, fun P w K mg base ad b T cdv A fr s H E c => ss_cons (s_asg (v_var (i := 0) rfl (by leaf_len) (by decide) (by decide)) (g_tup c.cK c.calm (gs_cons (g_name (i := 1) c.nd rfl (by mem_news) (.inl rfl)) (gs_cons (g_name (i := 2) c.nd rfl (by mem_news) (.inl rfl)) gs_nil rfl) rfl) rfl rfl) rfl rfl rfl) (ss_cons (s_if (b_cmp (o_is) (v_var (i := 2) rfl (by leaf_len) (by decide) (by decide)) v_none rfl) (ss_cons (s_ret (v_joined (.cons v_str (.cons (v_fmt (v_var (i := 1) rfl (by leaf_len) (by decide) (by decide))) .nil)))) ss_nil) (ss_nil)) (ss_cons (s_ret (v_ite (b_cmp (o_eq c.cK c.rm) (v_var (i := 1) rfl (by leaf_len) (by decide) (by decide)) (v_var (i := 2) rfl (by leaf_len) (by decide) (by decide)) rfl) (v_joined1 (v_fmt (v_var (i := 1) rfl (by leaf_len) (by decide) (by decide)))) (v_joined (.cons (v_fmt (v_var (i := 1) rfl (by leaf_len) (by decide) (by decide))) (.cons v_str (.cons (v_fmt (v_var (i := 2) rfl (by leaf_len) (by decide) (by decide))) .nil)))))) ss_nil))⟩
def sem_stretch_text : List D → M D := runFn 1 3 pk_stretch_text.1
theorem ok_stretch_text (T : Facts P w K mg base ad) : FnA P w K mg base (GG b K ad) 2 (ad 5) sem_stretch_text := by
  obtain ⟨fd, F⟩ := T.f_stretch_text
  exact fna_rule F sc_stretch_text (F.binds fun _ _ _ _ _ _ us hl => match us, hl with | [_], _ => rfl) rfl (pk_stretch_text.2 P w K mg base ad b T) rfl rfl (by decide)
def pk_NumbersX_strX : Σ' ms : MS, ∀ (P : Program) (w : World) (K : PySem.W.Frag) (mg : Str → Option Value) (base : Heap) (ad : Nat → Addr) (b : Bool), Facts P w K mg base ad → Body P w K mg base (GG b K ad) 2 (ad 6) ["self", "stretch"] "Numbers.__str__" st_NumbersX_strX ms :=
  ⟨_, fun P w K mg base ad b T cdv A fr s H E c => ss_cons (s_if (b_cmp (o_eq c.cK c.rm) (v_callB (c_len c.cK) (by rfl) T.z_len (by decide +kernel) (l_cons (v_attr c (T_attr_row_3 T ⟨rfl, rfl, rfl, rfl, rfl⟩ (by decide)) (v_var (i := 0) rfl (by leaf_len) (by decide) (by decide)) rfl) l_nil rfl) rfl (by decide) (by decide)) v_int rfl) (ss_cons (s_ret v_str) ss_nil) (ss_nil)) (ss_cons (s_ret (v_join c.cK v_str (v_lc c (own := [("stretch", 1)]) (i_seq c (v_attr c (T_attr_row_3 T ⟨rfl, rfl, rfl, rfl, rfl⟩ (by decide)) (v_var (i := 0) rfl (by leaf_len) (by decide) (by decide)) rfl)) (blkOk_by (N := ["self", "stretch"]) (sc := defScope st_NumbersX_strX) (by decide +kernel)) (fun s H C cl fp => blkP c fun c => (p_name (i := 1) c.nd rfl (by mem_news) (.inr rfl))) (fun s H C cl fp => blkT c fun c => t_nil) (fun s H C cl fp => blkV c fun c => (v_calls (FnA.call c ((ok_stretch_text T).mono (by decide))) (by rfl) T.g_stretch_text (l_cons (v_var (i := 1) rfl (by leaf_len) (by decide) (by decide)) l_nil rfl) rfl (by decide))) rfl (by decide)) rfl rfl rfl)) ss_nil)⟩
def sem_NumbersX_strX : List D → M D := runFn 1 2 pk_NumbersX_strX.1
theorem ok_NumbersX_strX (T : Facts P w K mg base ad) : FnA P w K mg base (GG b K ad) 4 (ad 6) sem_NumbersX_strX := by
  obtain ⟨fd, F⟩ := T.f_NumbersX_strX
  exact fna_rule F sc_NumbersX_strX (F.binds fun _ _ _ _ _ _ us hl => match us, hl with | [_], _ => rfl) rfl (pk_NumbersX_strX.2 P w K mg base ad b T) rfl rfl (by decide)
theorem T_str_3 (T : Facts P w K mg base ad) {X : Cx} (h : Same X P w K mg base) {k : Nat} (hk : 4 ≤ k) : TxT X (GG b K ad) k "__str__" (tab [(3, sem_NumbersX_strX)]) := by
  obtain ⟨rfl, rfl, rfl, rfl, rfl⟩ := h
  exact ⟨(tab_cons ⟨_, T.x_Numbers_NumbersX_strX.1, T.x_Numbers_NumbersX_strX.2.1, T.x_Numbers_NumbersX_strX.2.2.1, T.x_Numbers_NumbersX_strX.2.2.2, (ok_NumbersX_strX T).mono (Nat.le_trans (by decide) hk)⟩ tab_nil)⟩
def pk_has : Σ' ms : MS, ∀ (P : Program) (w : World) (K : PySem.W.Frag) (mg : Str → Option Value) (base : Heap) (ad : Nat → Addr) (b : Bool), Facts P w K mg base ad → Body P w K mg base (GG b K ad) 0 (ad 7) ["edges", "number", "edge"] "has" st_has ms :=
  ⟨_, fun P w K mg base ad b T cdv A fr s H E c => ss_cons (s_ret (v_cmp (o_eq c.cK c.rm) (v_bin (o_mod) (v_callB (c_len c.cK) (by rfl) T.z_len (by decide +kernel) (l_cons (v_lc c (own := [("edge", 2)]) (i_seq c (v_var (i := 0) rfl (by leaf_len) (by decide) (by decide))) (blkOk_by (N := ["edges", "number", "edge"]) (sc := defScope st_has) (by decide +kernel)) (fun s H C cl fp => blkP c fun c => (p_name (i := 2) c.nd rfl (by mem_news) (.inr rfl))) (fun s H C cl fp => blkT c fun c => (t_one (b_cmp (o_le) (v_var (i := 2) rfl (by leaf_len) (by decide) (by decide)) (v_var (i := 1) rfl (by leaf_len) (by decide) (by decide)) rfl))) (fun s H C cl fp => blkV c fun c => (v_var (i := 2) rfl (by leaf_len) (by decide) (by decide))) rfl (by decide)) l_nil rfl) rfl (by decide) (by decide)) v_int) v_int rfl)) ss_nil⟩
def sem_has : List D → M D := runFn 2 3 pk_has.1
theorem ok_has (T : Facts P w K mg base ad) : FnA P w K mg base (GG b K ad) 2 (ad 7) sem_has := by
  obtain ⟨fd, F⟩ := T.f_has
  exact fna_rule F sc_has (F.binds fun _ _ _ _ _ _ us hl => match us, hl with | [_, _], _ => rfl) rfl (pk_has.2 P w K mg base ad b T) rfl rfl (by decide)
def pk_edges_of : Σ' ms : MS, ∀ (P : Program) (w : World) (K : PySem.W.Frag) (mg : Str → Option Value) (base : Heap) (ad : Nat → Addr) (b : Bool), Facts P w K mg base ad → Body P w K mg base (GG b K ad) 0 (ad 8) ["stretches", "found", "first", "last"] "edges_of" st_edges_of ms :=
  ⟨_, fun P w K mg base ad b T cdv A fr s H E c => ss_cons (s_own (i := 1) c rfl (Or.inl rfl) (o_lst l_nil (by decide)) rfl (.inl rfl) (by decide)) (ss_cons (s_for c (i_seq c (v_var (i := 0) rfl (by leaf_len) (by decide) (by decide))) (g_tup c.cK c.calm (gs_cons (g_name (i := 2) c.nd rfl (by mem_news) (.inl rfl)) (gs_cons (g_name (i := 3) c.nd rfl (by mem_news) (.inl rfl)) gs_nil rfl) rfl) rfl rfl) (ss_cons (s_app (i := 1) rfl (by leaf_len) (by decide) (by decide) (v_var (i := 2) rfl (by leaf_len) (by decide) (by decide)) rfl rfl) (ss_cons (s_if (b_cmp (o_isnot) (v_var (i := 3) rfl (by leaf_len) (by decide) (by decide)) v_none rfl) (ss_cons (s_app (i := 1) rfl (by leaf_len) (by decide) (by decide) (v_bin (o_add c.cK) (v_var (i := 3) rfl (by leaf_len) (by decide) (by decide)) v_int) rfl rfl) (ss_nil)) (ss_nil)) (ss_nil))) rfl) (ss_frz (i := 1) (ss_cons (s_ret (v_var (i := 1) rfl (by leaf_len) (by decide) (by decide))) ss_nil)))⟩
def sem_edges_of : List D → M D := runFn 1 4 pk_edges_of.1
theorem ok_edges_of (T : Facts P w K mg base ad) : FnA P w K mg base (GG b K ad) 2 (ad 8) sem_edges_of := by
  obtain ⟨fd, F⟩ := T.f_edges_of
  exact fna_rule F sc_edges_of (F.binds fun _ _ _ _ _ _ us hl => match us, hl with | [_], _ => rfl) rfl (pk_edges_of.2 P w K mg base ad b T) rfl rfl (by decide)
def pk_NumbersX_containsX : Σ' ms : MS, ∀ (P : Program) (w : World) (K : PySem.W.Frag) (mg : Str → Option Value) (base : Heap) (ad : Nat → Addr) (b : Bool), Facts P w K mg base ad → Body P w K mg base (GG b K ad) 2 (ad 9) ["self", "number"] "Numbers.__contains__" st_NumbersX_containsX ms :=
  ⟨_, fun P w K mg base ad b T cdv A fr s H E c => ss_cons (s_ret (v_and (v_calls (FnA.call c ((ok_is_integer T).mono (by decide))) (by rfl) T.g_is_integer (l_cons (v_var (i := 1) rfl (by leaf_len) (by decide) (by decide)) l_nil rfl) rfl (by decide)) (v_one (v_calls (FnA.call c ((ok_has T).mono (by decide))) (by rfl) T.g_has (l_cons (v_calls (FnA.call c ((ok_edges_of T).mono (by decide))) (by rfl) T.g_edges_of (l_cons (v_attr c (T_attr_row_3 T ⟨rfl, rfl, rfl, rfl, rfl⟩ (by decide)) (v_var (i := 0) rfl (by leaf_len) (by decide) (by decide)) rfl) l_nil rfl) rfl (by decide)) (l_cons (v_var (i := 1) rfl (by leaf_len) (by decide) (by decide)) l_nil rfl) rfl) rfl (by decide))))) ss_nil⟩
def sem_NumbersX_containsX : List D → M D := runFn 2 2 pk_NumbersX_containsX.1
theorem ok_NumbersX_containsX (T : Facts P w K mg base ad) : FnA P w K mg base (GG b K ad) 4 (ad 9) sem_NumbersX_containsX := by
  obtain ⟨fd, F⟩ := T.f_NumbersX_containsX
  exact fna_rule F sc_NumbersX_containsX (F.binds fun _ _ _ _ _ _ us hl => match us, hl with | [_, _], _ => rfl) rfl (pk_NumbersX_containsX.2 P w K mg base ad b T) rfl rfl (by decide)
theorem T_spX_containsX_3 (T : Facts P w K mg base ad) {X : Cx} (h : Same X P w K mg base) {k : Nat} (hk : 4 ≤ k) : SpT X (GG b K ad) k "__contains__" (tab [(3, sem_NumbersX_containsX)]) := by
  obtain ⟨rfl, rfl, rfl, rfl, rfl⟩ := h
  exact ⟨(tab_cons ⟨_, T.q_Numbers_NumbersX_containsX.1, T.q_Numbers_NumbersX_containsX.2, (ok_NumbersX_containsX T).mono (Nat.le_trans (by decide) hk)⟩ tab_nil)⟩
def pk__law_sip : Σ' ms : MS, ∀ (P : Program) (w : World) (K : PySem.W.Frag) (mg : Str → Option Value) (base : Heap) (ad : Nat → Addr) (b : Bool), Facts P w K mg base ad → Body P w K mg base (GG b K ad) 0 (ad 10) ["_law_cup_here", "_law_many", "_law_part"] "_law_sip" st__law_sip ms :=
  ⟨_, fun P w K mg base ad b T cdv A fr s H E c => ss_cons (s_asg (v_bin (o_mod) (v_callTy (c_int) (by rfl) T.z_int (by decide +kernel) (l_cons (v_bin (o_add c.cK) (v_bin (o_mul c.cK) (v_ix c.cK (v_var (i := 0) rfl (by leaf_len) (by decide) (by decide)) v_int rfl) v_int) v_int) l_nil rfl) rfl (by decide) (by decide)) v_int) (g_item (W := WF E) (v_var (i := 0) rfl (by leaf_len) (by decide) (by decide)) v_int rfl) rfl rfl rfl) (ss_cons (s_if (b_cmp (o_gt) (v_ix c.cK (v_var (i := 0) rfl (by leaf_len) (by decide) (by decide)) v_int rfl) v_int rfl) (ss_cons (s_asg (v_callB (c_divmod) (by rfl) T.z_divmod (by decide +kernel) (l_cons (v_ix c.cK (v_var (i := 0) rfl (by leaf_len) (by decide) (by decide)) v_int rfl) (l_cons (v_var (i := 1) rfl (by leaf_len) (by decide) (by decide)) l_nil rfl) rfl) rfl (by decide) (by decide)) (g_tup c.cK c.calm (gs_cons (g_item (W := WF E) (v_var (i := 0) rfl (by leaf_len) (by decide) (by decide)) v_int rfl) (gs_cons (g_name (i := 2) c.nd rfl (by mem_news) (.inl rfl)) gs_nil rfl) rfl) rfl rfl) rfl rfl rfl) (ss_cons (s_ret (v_var (i := 2) rfl (by leaf_len) (by decide) (by decide))) ss_nil)) (ss_nil)) (ss_cons (s_ret (v_bin (o_mod) (v_callTy (c_int) (by rfl) T.z_int (by decide +kernel) (l_cons (v_bin (o_fdiv) (v_ix c.cK (v_var (i := 0) rfl (by leaf_len) (by decide) (by decide)) v_int rfl) v_int) l_nil rfl) rfl (by decide) (by decide)) (v_var (i := 1) rfl (by leaf_len) (by decide) (by decide)))) ss_nil))⟩
def sem__law_sip : List D → M D := runFn 2 3 pk__law_sip.1
theorem ok__law_sip (T : Facts P w K mg base ad) : FnA P w K mg base (GG b K ad) 2 (ad 10) sem__law_sip := by
  obtain ⟨fd, F⟩ := T.f__law_sip
  exact fna_rule F sc__law_sip (F.binds fun _ _ _ _ _ _ us hl => match us, hl with | [_, _], _ => rfl) rfl (pk__law_sip.2 P w K mg base ad b T) rfl rfl (by decide)
def pk__law_pick : Σ' ms : MS, ∀ (P : Program) (w : World) (K : PySem.W.Frag) (mg : Str → Option Value) (base : Heap) (ad : Nat → Addr) (b : Bool), Facts P w K mg base ad → Body P w K mg base (GG b K ad) 2 (ad 11) ["_law_cup_here", "_law_things"] "_law_pick" st__law_pick ms :=
  ⟨_, fun P w K mg base ad b T cdv A fr s H E c => ss_cons (s_ret (v_ix c.cK (v_var (i := 1) rfl (by leaf_len) (by decide) (by decide)) (v_calls (FnA.call c ((ok__law_sip T).mono (by decide))) (by rfl) T.g__law_sip (l_cons (v_var (i := 0) rfl (by leaf_len) (by decide) (by decide)) (l_cons (v_callB (c_len c.cK) (by rfl) T.z_len (by decide +kernel) (l_cons (v_var (i := 1) rfl (by leaf_len) (by decide) (by decide)) l_nil rfl) rfl (by decide) (by decide)) l_nil rfl) rfl) rfl (by decide)) rfl)) ss_nil⟩
def sem__law_pick : List D → M D := runFn 2 2 pk__law_pick.1
theorem ok__law_pick (T : Facts P w K mg base ad) : FnA P w K mg base (GG b K ad) 4 (ad 11) sem__law_pick := by
  obtain ⟨fd, F⟩ := T.f__law_pick
  exact fna_rule F sc__law_pick (F.binds fun _ _ _ _ _ _ us hl => match us, hl with | [_, _], _ => rfl) rfl (pk__law_pick.2 P w K mg base ad b T) rfl rfl (by decide)
def pk__law_cuts : Σ' ms : MS, ∀ (P : Program) (w : World) (K : PySem.W.Frag) (mg : Str → Option Value) (base : Heap) (ad : Nat → Addr) (b : Bool), Facts P w K mg base ad → Body P w K mg base (GG b K ad) 4 (ad 12) ["_law_cup_here", "_law_found", "_law_place", "_law_turn", "_law_last"] "_law_cuts" st__law_cuts ms :=
  ⟨_, fun P w K mg base ad b T cdv A fr s H E c => ss_cons (s_parO (i := 1) (j := 2) c rfl rfl (by decide) rfl rfl (o_lst l_nil (by decide)) (v_calls (FnA.call c ((ok__law_sip T).mono (by decide))) (by rfl) T.g__law_sip (l_cons (v_var (i := 0) rfl (by leaf_len) (by decide) (by decide)) (l_cons v_int l_nil rfl) rfl) rfl (by decide)) rfl rfl rfl (by decide)) (ss_cons (s_for c (i_rng1 (by rfl) T.z_range (l_cons (v_calls (FnA.call c ((ok__law_sip T).mono (by decide))) (by rfl) T.g__law_sip (l_cons (v_var (i := 0) rfl (by leaf_len) (by decide) (by decide)) (l_cons v_int l_nil rfl) rfl) rfl (by decide)) l_nil rfl) rfl) (g_name (i := 3) c.nd rfl (by mem_news) (.inl rfl)) (ss_cons (s_set (i := 4) c rfl (by mem_news) (v_bin (o_add c.cK) (v_var (i := 2) rfl (by leaf_len) (by decide) (by decide)) (v_calls (FnA.call c ((ok__law_pick T).mono (by decide))) (by rfl) T.g__law_pick (l_cons (v_var (i := 0) rfl (by leaf_len) (by decide) (by decide)) (l_cons (v_lst (l_cons v_int (l_cons v_int (l_cons v_int (l_cons v_int (l_cons v_int (l_cons (v_bin (o_pow) v_int v_int) l_nil rfl) rfl) rfl) rfl) rfl) rfl) (by decide)) l_nil rfl) rfl) rfl (by decide))) rfl (.inl rfl)) (ss_cons (s_app (i := 1) rfl (by leaf_len) (by decide) (by decide) (v_tup (l_cons (v_var (i := 2) rfl (by leaf_len) (by decide) (by decide)) (l_cons (v_var (i := 4) rfl (by leaf_len) (by decide) (by decide)) l_nil rfl) rfl) (by decide)) rfl rfl) (ss_cons (s_set (i := 2) c rfl (by mem_news) (v_bin (o_add c.cK) (v_bin (o_add c.cK) (v_var (i := 4) rfl (by leaf_len) (by decide) (by decide)) v_int) (v_calls (FnA.call c ((ok__law_pick T).mono (by decide))) (by rfl) T.g__law_pick (l_cons (v_var (i := 0) rfl (by leaf_len) (by decide) (by decide)) (l_cons (v_lst (l_cons v_int (l_cons v_int (l_cons v_int (l_cons (v_bin (o_pow) v_int v_int) l_nil rfl) rfl) rfl) rfl) (by decide)) l_nil rfl) rfl) rfl (by decide))) rfl (.inl rfl)) (ss_nil)))) rfl) (ss_cons (s_if (b_of (w_and (b_ownNe0 (i := 1) c rfl (by leaf_len) (by decide) (by decide)) (w_and1 (b_cmp (o_eq c.cK c.rm) (v_calls (FnA.call c ((ok__law_sip T).mono (by decide))) (by rfl) T.g__law_sip (l_cons (v_var (i := 0) rfl (by leaf_len) (by decide) (by decide)) (l_cons v_int l_nil rfl) rfl) rfl (by decide)) v_int rfl)))) (ss_cons (s_asg (v_tup (l_cons (v_ix c.cK (v_ownIx (i := 1) rfl (by leaf_len) (by decide) (by decide) (v_neg v_int) rfl) v_int rfl) (l_cons v_none l_nil rfl) rfl) (by decide)) (g_itemO (W := WF E) (i := 1) rfl (by leaf_len) (by decide) (by decide) (v_neg v_int) rfl) rfl rfl rfl) (ss_nil)) (ss_nil)) (ss_frz (i := 1) (ss_cons (s_ret (v_var (i := 1) rfl (by leaf_len) (by decide) (by decide))) ss_nil))))⟩
def sem__law_cuts : List D → M D := runFn 1 5 pk__law_cuts.1
theorem ok__law_cuts (T : Facts P w K mg base ad) : FnA P w K mg base (GG b K ad) 6 (ad 12) sem__law_cuts := by
  obtain ⟨fd, F⟩ := T.f__law_cuts
  exact fna_rule F sc__law_cuts (F.binds fun _ _ _ _ _ _ us hl => match us, hl with | [_], _ => rfl) rfl (pk__law_cuts.2 P w K mg base ad b T) rfl rfl (by decide)
def pk__law_set : Σ' ms : MS, ∀ (P : Program) (w : World) (K : PySem.W.Frag) (mg : Str → Option Value) (base : Heap) (ad : Nat → Addr) (b : Bool), Facts P w K mg base ad → Body P w K mg base (GG b K ad) 8 (ad 13) ["_law_s"] "_law_set" st__law_set ms :=
  ⟨_, fun P w K mg base ad b T cdv A fr s H E c => ss_cons (s_if (b_cmp (o_lt) (v_callB (c_len c.cK) (by rfl) T.z_len (by decide +kernel) (l_cons (v_var (i := 0) rfl (by leaf_len) (by decide) (by decide)) l_nil rfl) rfl (by decide) (by decide)) v_int rfl) (ss_cons (s_ret (v_ite (b_cmp (o_eq c.cK c.rm) (v_callB (c_len c.cK) (by rfl) T.z_len (by decide +kernel) (l_cons (v_var (i := 0) rfl (by leaf_len) (by decide) (by decide)) l_nil rfl) rfl (by decide) (by decide)) v_int rfl) (v_calls0 (ClA.call c ((mk_Numbers T).mono (by decide))) (by rfl) T.k_Numbers (by decide)) (v_ite (b_cmp (o_eq c.cK c.rm) (v_callB (c_len c.cK) (by rfl) T.z_len (by decide +kernel) (l_cons (v_var (i := 0) rfl (by leaf_len) (by decide) (by decide)) l_nil rfl) rfl (by decide) (by decide)) v_int rfl) (v_calls (ClA.call c ((mk_Numbers T).mono (by decide))) (by rfl) T.k_Numbers (l_cons (v_ix c.cK (v_var (i := 0) rfl (by leaf_len) (by decide) (by decide)) v_int rfl) l_nil rfl) rfl (by decide)) (v_calls (ClA.call c ((mk_Numbers T).mono (by decide))) (by rfl) T.k_Numbers (l_cons (v_ix c.cK (v_var (i := 0) rfl (by leaf_len) (by decide) (by decide)) v_int rfl) (l_cons (v_ix c.cK (v_var (i := 0) rfl (by leaf_len) (by decide) (by decide)) v_int rfl) l_nil rfl) rfl) rfl (by decide))))) ss_nil) (ss_nil)) (ss_cons (s_if (b_cmp (o_eq c.cK c.rm) (v_callB (c_len c.cK) (by rfl) T.z_len (by decide +kernel) (l_cons (v_var (i := 0) rfl (by leaf_len) (by decide) (by decide)) l_nil rfl) rfl (by decide) (by decide)) v_int rfl) (ss_cons (s_ret (v_calls (ClA.call c ((mk_Numbers T).mono (by decide))) (by rfl) T.k_Numbers (l_cons (v_ix c.cK (v_var (i := 0) rfl (by leaf_len) (by decide) (by decide)) v_int rfl) (l_cons (v_ix c.cK (v_var (i := 0) rfl (by leaf_len) (by decide) (by decide)) v_int rfl) (l_cons (v_ix c.cK (v_var (i := 0) rfl (by leaf_len) (by decide) (by decide)) v_int rfl) l_nil rfl) rfl) rfl) rfl (by decide))) ss_nil) (ss_nil)) (ss_cons (s_if (b_cmp (o_eq c.cK c.rm) (v_callB (c_len c.cK) (by rfl) T.z_len (by decide +kernel) (l_cons (v_var (i := 0) rfl (by leaf_len) (by decide) (by decide)) l_nil rfl) rfl (by decide) (by decide)) v_int rfl) (ss_cons (s_ret (v_calls (ClA.call c ((mk_Numbers T).mono (by decide))) (by rfl) T.k_Numbers (l_cons (v_ix c.cK (v_var (i := 0) rfl (by leaf_len) (by decide) (by decide)) v_int rfl) (l_cons (v_ix c.cK (v_var (i := 0) rfl (by leaf_len) (by decide) (by decide)) v_int rfl) (l_cons (v_ix c.cK (v_var (i := 0) rfl (by leaf_len) (by decide) (by decide)) v_int rfl) (l_cons (v_ix c.cK (v_var (i := 0) rfl (by leaf_len) (by decide) (by decide)) v_int rfl) l_nil rfl) rfl) rfl) rfl) rfl (by decide))) ss_nil) (ss_nil)) (ss_cons (s_if (b_cmp (o_eq c.cK c.rm) (v_callB (c_len c.cK) (by rfl) T.z_len (by decide +kernel) (l_cons (v_var (i := 0) rfl (by leaf_len) (by decide) (by decide)) l_nil rfl) rfl (by decide) (by decide)) v_int rfl) (ss_cons (s_ret (v_calls (ClA.call c ((mk_Numbers T).mono (by decide))) (by rfl) T.k_Numbers (l_cons (v_ix c.cK (v_var (i := 0) rfl (by leaf_len) (by decide) (by decide)) v_int rfl) (l_cons (v_ix c.cK (v_var (i := 0) rfl (by leaf_len) (by decide) (by decide)) v_int rfl) (l_cons (v_ix c.cK (v_var (i := 0) rfl (by leaf_len) (by decide) (by decide)) v_int rfl) (l_cons (v_ix c.cK (v_var (i := 0) rfl (by leaf_len) (by decide) (by decide)) v_int rfl) (l_cons (v_ix c.cK (v_var (i := 0) rfl (by leaf_len) (by decide) (by decide)) v_int rfl) l_nil rfl) rfl) rfl) rfl) rfl) rfl (by decide))) ss_nil) (ss_nil)) (ss_cons (s_ret (v_calls (ClA.call c ((mk_Numbers T).mono (by decide))) (by rfl) T.k_Numbers (l_cons (v_ix c.cK (v_var (i := 0) rfl (by leaf_len) (by decide) (by decide)) v_int rfl) (l_cons (v_ix c.cK (v_var (i := 0) rfl (by leaf_len) (by decide) (by decide)) v_int rfl) (l_cons (v_ix c.cK (v_var (i := 0) rfl (by leaf_len) (by decide) (by decide)) v_int rfl) (l_cons (v_ix c.cK (v_var (i := 0) rfl (by leaf_len) (by decide) (by decide)) v_int rfl) (l_cons (v_ix c.cK (v_var (i := 0) rfl (by leaf_len) (by decide) (by decide)) v_int rfl) (l_cons (v_ix c.cK (v_var (i := 0) rfl (by leaf_len) (by decide) (by decide)) v_int rfl) l_nil rfl) rfl) rfl) rfl) rfl) rfl) rfl (by decide))) ss_nil))))⟩
def sem__law_set : List D → M D := runFn 1 1 pk__law_set.1
theorem ok__law_set (T : Facts P w K mg base ad) : FnA P w K mg base (GG b K ad) 10 (ad 13) sem__law_set := by
  obtain ⟨fd, F⟩ := T.f__law_set
  exact fna_rule F sc__law_set (F.binds fun _ _ _ _ _ _ us hl => match us, hl with | [_], _ => rfl) rfl (pk__law_set.2 P w K mg base ad b T) rfl rfl (by decide)
def pk_NumbersX_reprX : Σ' ms : MS, ∀ (P : Program) (w : World) (K : PySem.W.Frag) (mg : Str → Option Value) (base : Heap) (ad : Nat → Addr) (b : Bool), Facts P w K mg base ad → Body P w K mg base (GG b K ad) 4 (ad 14) ["self"] "Numbers.__repr__" st_NumbersX_reprX ms :=
  ⟨_, fun P w K mg base ad b T cdv A fr s H E c => ss_cons (s_ret (v_joined (.cons v_str (.cons (v_fmtX c (T_str_3 T ⟨rfl, rfl, rfl, rfl, rfl⟩ (by decide)) (v_var (i := 0) rfl (by leaf_len) (by decide) (by decide))) (.cons v_str .nil))))) ss_nil⟩
def sem_NumbersX_reprX : List D → M D := runFn 1 1 pk_NumbersX_reprX.1
theorem ok_NumbersX_reprX (T : Facts P w K mg base ad) : FnA P w K mg base (GG b K ad) 6 (ad 14) sem_NumbersX_reprX := by
  obtain ⟨fd, F⟩ := T.f_NumbersX_reprX
  exact fna_rule F sc_NumbersX_reprX (F.binds fun _ _ _ _ _ _ us hl => match us, hl with | [_], _ => rfl) rfl (pk_NumbersX_reprX.2 P w K mg base ad b T) rfl rfl (by decide)
theorem T_repr_3 (T : Facts P w K mg base ad) {X : Cx} (h : Same X P w K mg base) {k : Nat} (hk : 6 ≤ k) : TxT X (GG b K ad) k "__repr__" (tab [(3, sem_NumbersX_reprX)]) := by
  obtain ⟨rfl, rfl, rfl, rfl, rfl⟩ := h
  exact ⟨(tab_cons ⟨_, T.x_Numbers_NumbersX_reprX.1, T.x_Numbers_NumbersX_reprX.2.1, T.x_Numbers_NumbersX_reprX.2.2.1, T.x_Numbers_NumbersX_reprX.2.2.2, (ok_NumbersX_reprX T).mono (Nat.le_trans (by decide) hk)⟩ tab_nil)⟩
def pk_NumbersX_boolX : Σ' ms : MS, ∀ (P : Program) (w : World) (K : PySem.W.Frag) (mg : Str → Option Value) (base : Heap) (ad : Nat → Addr) (b : Bool), Facts P w K mg base ad → Body P w K mg base (GG b K ad) 0 (ad 15) ["self"] "Numbers.__bool__" st_NumbersX_boolX ms :=
  ⟨_, fun P w K mg base ad b T cdv A fr s H E c => ss_cons (s_ret (v_cmp (o_gt) (v_callB (c_len c.cK) (by rfl) T.z_len (by decide +kernel) (l_cons (v_attr c (T_attr_row_3 T ⟨rfl, rfl, rfl, rfl, rfl⟩ (by decide)) (v_var (i := 0) rfl (by leaf_len) (by decide) (by decide)) rfl) l_nil rfl) rfl (by decide) (by decide)) v_int rfl)) ss_nil⟩
def sem_NumbersX_boolX : List D → M D := runFn 1 1 pk_NumbersX_boolX.1
theorem ok_NumbersX_boolX (T : Facts P w K mg base ad) : FnA P w K mg base (GG b K ad) 2 (ad 15) sem_NumbersX_boolX := by
  obtain ⟨fd, F⟩ := T.f_NumbersX_boolX
  exact fna_rule F sc_NumbersX_boolX (F.binds fun _ _ _ _ _ _ us hl => match us, hl with | [_], _ => rfl) rfl (pk_NumbersX_boolX.2 P w K mg base ad b T) rfl rfl (by decide)
theorem T_spX_boolX_3 (T : Facts P w K mg base ad) {X : Cx} (h : Same X P w K mg base) {k : Nat} (hk : 2 ≤ k) : SpT X (GG b K ad) k "__bool__" (tab [(3, sem_NumbersX_boolX)]) := by
  obtain ⟨rfl, rfl, rfl, rfl, rfl⟩ := h
  exact ⟨(tab_cons ⟨_, T.q_Numbers_NumbersX_boolX.1, T.q_Numbers_NumbersX_boolX.2, (ok_NumbersX_boolX T).mono (Nat.le_trans (by decide) hk)⟩ tab_nil)⟩
def pk_Numbers_endless : Σ' ms : MS, ∀ (P : Program) (w : World) (K : PySem.W.Frag) (mg : Str → Option Value) (base : Heap) (ad : Nat → Addr) (b : Bool), Facts P w K mg base ad → Body P w K mg base (GG b K ad) 0 (ad 16) ["self"] "Numbers.endless" st_Numbers_endless ms :=
  ⟨_, fun P w K mg base ad b T cdv A fr s H E c => ss_cons (s_ret (v_and (v_cmp (o_gt) (v_callB (c_len c.cK) (by rfl) T.z_len (by decide +kernel) (l_cons (v_attr c (T_attr_row_3 T ⟨rfl, rfl, rfl, rfl, rfl⟩ (by decide)) (v_var (i := 0) rfl (by leaf_len) (by decide) (by decide)) rfl) l_nil rfl) rfl (by decide) (by decide)) v_int rfl) (v_one (v_cmp (o_is) (v_ix c.cK (v_ix c.cK (v_attr c (T_attr_row_3 T ⟨rfl, rfl, rfl, rfl, rfl⟩ (by decide)) (v_var (i := 0) rfl (by leaf_len) (by decide) (by decide)) rfl) (v_neg v_int) rfl) v_int rfl) v_none rfl)))) ss_nil⟩
def sem_Numbers_endless : List D → M D := runFn 1 1 pk_Numbers_endless.1
theorem ok_Numbers_endless (T : Facts P w K mg base ad) : FnA P w K mg base (GG b K ad) 2 (ad 16) sem_Numbers_endless := by
  obtain ⟨fd, F⟩ := T.f_Numbers_endless
  exact fna_rule F sc_Numbers_endless (F.binds fun _ _ _ _ _ _ us hl => match us, hl with | [_], _ => rfl) rfl (pk_Numbers_endless.2 P w K mg base ad b T) rfl rfl (by decide)
theorem T_attr_endless_3 (T : Facts P w K mg base ad) {X : Cx} (h : Same X P w K mg base) {k : Nat} (hk : 2 ≤ k) : AttrT X (GG b K ad) k "endless" (tab [(3, .prop sem_Numbers_endless)]) := by
  obtain ⟨rfl, rfl, rfl, rfl, rfl⟩ := h
  exact AttrT.of (tab_cons (let ⟨q, hq⟩ := T.p_Numbers_Numbers_endless; ⟨q, _, T.cl_Numbers, hq, (ok_Numbers_endless T).mono (Nat.le_trans (by decide) hk)⟩) tab_nil)
def pk_Numbers_stretches : Σ' ms : MS, ∀ (P : Program) (w : World) (K : PySem.W.Frag) (mg : Str → Option Value) (base : Heap) (ad : Nat → Addr) (b : Bool), Facts P w K mg base ad → Body P w K mg base (GG b K ad) 0 (ad 17) ["self"] "Numbers.stretches" st_Numbers_stretches ms :=
  ⟨_, fun P w K mg base ad b T cdv A fr s H E c => ss_cons (s_ret (v_attr c (T_attr_row_3 T ⟨rfl, rfl, rfl, rfl, rfl⟩ (by decide)) (v_var (i := 0) rfl (by leaf_len) (by decide) (by decide)) rfl)) ss_nil⟩
def sem_Numbers_stretches : List D → M D := runFn 1 1 pk_Numbers_stretches.1
theorem ok_Numbers_stretches (T : Facts P w K mg base ad) : FnA P w K mg base (GG b K ad) 2 (ad 17) sem_Numbers_stretches := by
  obtain ⟨fd, F⟩ := T.f_Numbers_stretches
  exact fna_rule F sc_Numbers_stretches (F.binds fun _ _ _ _ _ _ us hl => match us, hl with | [_], _ => rfl) rfl (pk_Numbers_stretches.2 P w K mg base ad b T) rfl rfl (by decide)
theorem T_attr_stretches_3 (T : Facts P w K mg base ad) {X : Cx} (h : Same X P w K mg base) {k : Nat} (hk : 2 ≤ k) : AttrT X (GG b K ad) k "stretches" (tab [(3, .prop sem_Numbers_stretches)]) := by
  obtain ⟨rfl, rfl, rfl, rfl, rfl⟩ := h
  exact AttrT.of (tab_cons (let ⟨q, hq⟩ := T.p_Numbers_Numbers_stretches; ⟨q, _, T.cl_Numbers, hq, (ok_Numbers_stretches T).mono (Nat.le_trans (by decide) hk)⟩) tab_nil)
def pk__law_cut_words : Σ' ms : MS, ∀ (P : Program) (w : World) (K : PySem.W.Frag) (mg : Str → Option Value) (base : Heap) (ad : Nat → Addr) (b : Bool), Facts P w K mg base ad → Body P w K mg base (GG b K ad) 0 (ad 18) ["_law_cuts_here", "_law_found", "_law_first_here", "_law_last"] "_law_cut_words" st__law_cut_words ms :=
  ⟨_, fun P w K mg base ad b T cdv A fr s H E c => ss_cons (s_own (i := 1) c rfl (Or.inl rfl) (o_lst l_nil (by decide)) rfl (.inl rfl) (by decide)) (ss_cons (s_for c (i_seq c (v_var (i := 0) rfl (by leaf_len) (by decide) (by decide))) (g_tup c.cK c.calm (gs_cons (g_name (i := 2) c.nd rfl (by mem_news) (.inl rfl)) (gs_cons (g_name (i := 3) c.nd rfl (by mem_news) (.inl rfl)) gs_nil rfl) rfl) rfl rfl) (ss_cons (s_if (b_cmp (o_is) (v_var (i := 3) rfl (by leaf_len) (by decide) (by decide)) v_none rfl) (ss_cons (s_app (i := 1) rfl (by leaf_len) (by decide) (by decide) (v_bin (o_add c.cK) v_str (v_callTy (c_str) (by rfl) T.z_str (by decide +kernel) (l_cons (v_var (i := 2) rfl (by leaf_len) (by decide) (by decide)) l_nil rfl) rfl (by decide) (by decide))) rfl rfl) (ss_nil)) (ss_cons (s_app (i := 1) rfl (by leaf_len) (by decide) (by decide) (v_ite (b_cmp (o_eq c.cK c.rm) (v_var (i := 2) rfl (by leaf_len) (by decide) (by decide)) (v_var (i := 3) rfl (by leaf_len) (by decide) (by decide)) rfl) (v_callTy (c_str) (by rfl) T.z_str (by decide +kernel) (l_cons (v_var (i := 2) rfl (by leaf_len) (by decide) (by decide)) l_nil rfl) rfl (by decide) (by decide)) (v_bin (o_add c.cK) (v_bin (o_add c.cK) (v_callTy (c_str) (by rfl) T.z_str (by decide +kernel) (l_cons (v_var (i := 2) rfl (by leaf_len) (by decide) (by decide)) l_nil rfl) rfl (by decide) (by decide)) v_str) (v_callTy (c_str) (by rfl) T.z_str (by decide +kernel) (l_cons (v_var (i := 3) rfl (by leaf_len) (by decide) (by decide)) l_nil rfl) rfl (by decide) (by decide)))) rfl rfl) (ss_nil))) (ss_nil)) rfl) (ss_frz (i := 1) (ss_cons (s_ret (v_ite (b_cmp (o_ne c.cK c.rm) (v_var (i := 1) rfl (by leaf_len) (by decide) (by decide)) (v_lst l_nil (by decide)) rfl) (v_join c.cK v_str (v_var (i := 1) rfl (by leaf_len) (by decide) (by decide)) rfl rfl rfl) v_str)) ss_nil)))⟩
def sem__law_cut_words : List D → M D := runFn 1 4 pk__law_cut_words.1
theorem ok__law_cut_words (T : Facts P w K mg base ad) : FnA P w K mg base (GG b K ad) 2 (ad 18) sem__law_cut_words := by
  obtain ⟨fd, F⟩ := T.f__law_cut_words
  exact fna_rule F sc__law_cut_words (F.binds fun _ _ _ _ _ _ us hl => match us, hl with | [_], _ => rfl) rfl (pk__law_cut_words.2 P w K mg base ad b T) rfl rfl (by decide)
def pk__law_edges : Σ' ms : MS, ∀ (P : Program) (w : World) (K : PySem.W.Frag) (mg : Str → Option Value) (base : Heap) (ad : Nat → Addr) (b : Bool), Facts P w K mg base ad → Body P w K mg base (GG b K ad) 0 (ad 19) ["_law_cuts_here", "_law_found", "_law_first_here", "_law_last", "_law_end", "_law_step"] "_law_edges" st__law_edges ms :=
  ⟨_, fun P w K mg base ad b T cdv A fr s H E c => ss_cons (s_set (i := 1) c rfl (by mem_news) (v_lst (l_cons v_int (l_cons v_int l_nil rfl) rfl) (by decide)) rfl (.inl rfl)) (ss_cons (s_for c (i_seq c (v_var (i := 0) rfl (by leaf_len) (by decide) (by decide))) (g_tup c.cK c.calm (gs_cons (g_name (i := 2) c.nd rfl (by mem_news) (.inl rfl)) (gs_cons (g_name (i := 3) c.nd rfl (by mem_news) (.inl rfl)) gs_nil rfl) rfl) rfl rfl) (ss_cons (s_for c (i_seq c (v_ite (b_cmp (o_is) (v_var (i := 3) rfl (by leaf_len) (by decide) (by decide)) v_none rfl) (v_lst (l_cons (v_var (i := 2) rfl (by leaf_len) (by decide) (by decide)) l_nil rfl) (by decide)) (v_lst (l_cons (v_var (i := 2) rfl (by leaf_len) (by decide) (by decide)) (l_cons (v_var (i := 3) rfl (by leaf_len) (by decide) (by decide)) l_nil rfl) rfl) (by decide)))) (g_name (i := 4) c.nd rfl (by mem_news) (.inl rfl)) (ss_cons (s_set (i := 1) c rfl (by mem_news) (v_bin (o_add c.cK) (v_var (i := 1) rfl (by leaf_len) (by decide) (by decide)) (v_lc c (own := [("_law_step", 5)]) (i_seq c (v_lst (l_cons (v_neg v_int) (l_cons (v_neg v_int) (l_cons v_int (l_cons v_int (l_cons v_int l_nil rfl) rfl) rfl) rfl) rfl) (by decide))) (blkOk_by (N := ["_law_cuts_here", "_law_found", "_law_first_here", "_law_last", "_law_end", "_law_step"]) (sc := defScope st__law_edges) (by decide +kernel)) (fun s H C cl fp => blkP c fun c => (p_name (i := 5) c.nd rfl (by mem_news) (.inr rfl))) (fun s H C cl fp => blkT c fun c => (t_one (b_cmp (o_ge) (v_bin (o_add c.cK) (v_var (i := 4) rfl (by leaf_len) (by decide) (by decide)) (v_var (i := 5) rfl (by leaf_len) (by decide) (by decide))) v_int rfl))) (fun s H C cl fp => blkV c fun c => (v_bin (o_add c.cK) (v_var (i := 4) rfl (by leaf_len) (by decide) (by decide)) (v_var (i := 5) rfl (by leaf_len) (by decide) (by decide)))) rfl (by decide))) rfl (.inl rfl)) (ss_nil)) rfl) (ss_nil)) rfl) (ss_cons (s_ret (v_var (i := 1) rfl (by leaf_len) (by decide) (by decide))) ss_nil))⟩
def sem__law_edges : List D → M D := runFn 1 6 pk__law_edges.1
theorem ok__law_edges (T : Facts P w K mg base ad) : FnA P w K mg base (GG b K ad) 2 (ad 19) sem__law_edges := by
  obtain ⟨fd, F⟩ := T.f__law_edges
  exact fna_rule F sc__law_edges (F.binds fun _ _ _ _ _ _ us hl => match us, hl with | [_], _ => rfl) rfl (pk__law_edges.2 P w K mg base ad b T) rfl rfl (by decide)
def pk__law_holds : Σ' ms : MS, ∀ (P : Program) (w : World) (K : PySem.W.Frag) (mg : Str → Option Value) (base : Heap) (ad : Nat → Addr) (b : Bool), Facts P w K mg base ad → Body P w K mg base (GG b K ad) 0 (ad 20) ["_law_cuts_here", "_law_place", "_law_first_here", "_law_last"] "_law_holds" st__law_holds ms :=
  ⟨_, fun P w K mg base ad b T cdv A fr s H E c => ss_cons (s_ret (v_callB (c_any c.calm) (by rfl) T.z_any (by decide +kernel) (l_cons (v_lc c (own := [("_law_first_here", 2), ("_law_last", 3)]) (i_seq c (v_var (i := 0) rfl (by leaf_len) (by decide) (by decide))) (blkOk_by (N := ["_law_cuts_here", "_law_place", "_law_first_here", "_law_last"]) (sc := defScope st__law_holds) (by decide +kernel)) (fun s H C cl fp => blkP c fun c => (p_tup c.cK c.calm (ps_consP (p_name (i := 2) c.nd rfl (by mem_news) (.inr rfl)) (ps_consP (p_name (i := 3) c.nd rfl (by mem_news) (.inr rfl)) ps_nilP rfl) rfl) rfl rfl)) (fun s H C cl fp => blkT c fun c => t_nil) (fun s H C cl fp => blkV c fun c => (v_and (v_cmp (o_le) (v_var (i := 2) rfl (by leaf_len) (by decide) (by decide)) (v_var (i := 1) rfl (by leaf_len) (by decide) (by decide)) rfl) (v_one (v_or (v_cmp (o_is) (v_var (i := 3) rfl (by leaf_len) (by decide) (by decide)) v_none rfl) (v_one (v_cmp (o_le) (v_var (i := 1) rfl (by leaf_len) (by decide) (by decide)) (v_var (i := 3) rfl (by leaf_len) (by decide) (by decide)) rfl)))))) rfl (by decide)) l_nil rfl) rfl (by decide) (by decide))) ss_nil⟩
def sem__law_holds : List D → M D := runFn 2 4 pk__law_holds.1
theorem ok__law_holds (T : Facts P w K mg base ad) : FnA P w K mg base (GG b K ad) 2 (ad 20) sem__law_holds := by
  obtain ⟨fd, F⟩ := T.f__law_holds
  exact fna_rule F sc__law_holds (F.binds fun _ _ _ _ _ _ us hl => match us, hl with | [_, _], _ => rfl) rfl (pk__law_holds.2 P w K mg base ad b T) rfl rfl (by decide)
def pk__law_first : Σ' ms : MS, ∀ (P : Program) (w : World) (K : PySem.W.Frag) (mg : Str → Option Value) (base : Heap) (ad : Nat → Addr) (b : Bool), Facts P w K mg base ad → Body P w K mg base (GG b K ad) 0 (ad 21) ["_law_cuts_here", "_law_many", "_law_found", "_law_first_here", "_law_last", "_law_place"] "_law_first" st__law_first ms :=
  ⟨_, fun P w K mg base ad b T cdv A fr s H E c => ss_cons (s_own (i := 2) c rfl (Or.inl rfl) (o_lst l_nil (by decide)) rfl (.inl rfl) (by decide)) (ss_cons (s_for c (i_seq c (v_var (i := 0) rfl (by leaf_len) (by decide) (by decide))) (g_tup c.cK c.calm (gs_cons (g_name (i := 3) c.nd rfl (by mem_news) (.inl rfl)) (gs_cons (g_name (i := 4) c.nd rfl (by mem_news) (.inl rfl)) gs_nil rfl) rfl) rfl rfl) (ss_cons (s_set (i := 5) c rfl (by mem_news) (v_var (i := 3) rfl (by leaf_len) (by decide) (by decide)) rfl (.inl rfl)) (ss_cons (s_while c (b_of (w_and (b_cmp (o_lt) (v_ownLen (i := 2) c (by rfl) T.z_len (by decide +kernel) rfl (by leaf_len) (by decide) (by decide)) (v_var (i := 1) rfl (by leaf_len) (by decide) (by decide)) rfl) (w_and1 (b_of (w_or (b_cmp (o_is) (v_var (i := 4) rfl (by leaf_len) (by decide) (by decide)) v_none rfl) (w_or1 (b_cmp (o_le) (v_var (i := 5) rfl (by leaf_len) (by decide) (by decide)) (v_var (i := 4) rfl (by leaf_len) (by decide) (by decide)) rfl))))))) (ss_cons (s_app (i := 2) rfl (by leaf_len) (by decide) (by decide) (v_var (i := 5) rfl (by leaf_len) (by decide) (by decide)) rfl rfl) (ss_cons (s_set (i := 5) c rfl (by mem_news) (v_bin (o_add c.cK) (v_var (i := 5) rfl (by leaf_len) (by decide) (by decide)) v_int) rfl (.inl rfl)) (ss_nil)))) (ss_nil))) rfl) (ss_frz (i := 2) (ss_cons (s_ret (v_var (i := 2) rfl (by leaf_len) (by decide) (by decide))) ss_nil)))⟩
def sem__law_first : List D → M D := runFn 2 6 pk__law_first.1
theorem ok__law_first (T : Facts P w K mg base ad) : FnA P w K mg base (GG b K ad) 2 (ad 21) sem__law_first := by
  obtain ⟨fd, F⟩ := T.f__law_first
  exact fna_rule F sc__law_first (F.binds fun _ _ _ _ _ _ us hl => match us, hl with | [_, _], _ => rfl) rfl (pk__law_first.2 P w K mg base ad b T) rfl rfl (by decide)
def pk_is_between : Σ' ms : MS, ∀ (P : Program) (w : World) (K : PySem.W.Frag) (mg : Str → Option Value) (base : Heap) (ad : Nat → Addr) (b : Bool), Facts P w K mg base ad → Body P w K mg base (GG b K ad) 2 (ad 22) ["value", "low", "high"] "is_between" st_is_between ms :=
  ⟨_, fun P w K mg base ad b T cdv A fr s H E c => ss_cons (s_ret (v_and (v_calls (FnA.call c ((ok_is_integer T).mono (by decide))) (by rfl) T.g_is_integer (l_cons (v_var (i := 0) rfl (by leaf_len) (by decide) (by decide)) l_nil rfl) rfl (by decide)) (v_one (v_chain' (o_le) (o_le) (v_var (i := 1) rfl (by leaf_len) (by decide) (by decide)) (v_var (i := 0) rfl (by leaf_len) (by decide) (by decide)) (v_var (i := 2) rfl (by leaf_len) (by decide) (by decide)) rfl)))) ss_nil⟩
def sem_is_between : List D → M D := runFn 3 3 pk_is_between.1
theorem ok_is_between (T : Facts P w K mg base ad) : FnA P w K mg base (GG b K ad) 4 (ad 22) sem_is_between := by
  obtain ⟨fd, F⟩ := T.f_is_between
  exact fna_rule F sc_is_between (F.binds fun _ _ _ _ _ _ us hl => match us, hl with | [_, _, _], _ => rfl) rfl (pk_is_between.2 P w K mg base ad b T) rfl rfl (by decide)
def pk_check_count : Σ' ms : MS, ∀ (P : Program) (w : World) (K : PySem.W.Frag) (mg : Str → Option Value) (base : Heap) (ad : Nat → Addr) (b : Bool), Facts P w K mg base ad → Body P w K mg base (GG b K ad) 4 (ad 23) ["value"] "check_count" st_check_count ms :=
  ⟨_, fun P w K mg base ad b T cdv A fr s H E c => ss_cons (s_if (b_not (b_val (v_calls (FnA.call c ((ok_is_between T).mono (by decide))) (by rfl) T.g_is_between (l_cons (v_var (i := 0) rfl (by leaf_len) (by decide) (by decide)) (l_cons v_int (l_cons (v_glob (by rfl) (T.c_MOST_SECTIONS _) (by decide)) l_nil rfl) rfl) rfl) rfl (by decide)) (fun _ => rfl))) (ss_never) (ss_nil)) (ss_nil)⟩
def sem_check_count : List D → M D := runFn 1 1 pk_check_count.1
theorem ok_check_count (T : Facts P w K mg base ad) : FnA P w K mg base (GG b K ad) 6 (ad 23) sem_check_count := by
  obtain ⟨fd, F⟩ := T.f_check_count
  exact fna_rule F sc_check_count (F.binds fun _ _ _ _ _ _ us hl => match us, hl with | [_], _ => rfl) rfl (pk_check_count.2 P w K mg base ad b T) rfl rfl (by decide)
def pk_Numbers_ascending : Σ' ms : MG, ∀ (P : Program) (w : World) (K : PySem.W.Frag) (mg : Str → Option Value) (base : Heap) (ad : Nat → Addr), Facts P w K mg base ad → GBody P w K mg base (GG false K ad) 6 (ad 24) ["self", "count", "left", "first", "last", "number"] "Numbers.ascending" st_Numbers_ascending ms :=
  ⟨_, fun P w K mg base ad T cdv A fr s H E pn c => sg_cons (sg_plain (s_expr (v_calls (FnA.call c ((ok_check_count T).mono (by decide))) (by rfl) T.g_check_count (l_cons (v_var (i := 1) rfl (by leaf_len) (by decide) (by decide)) l_nil rfl) rfl (by decide)) rfl)) (sg_cons (sg_plain (s_set (i := 2) c rfl (by mem_news) (v_var (i := 1) rfl (by leaf_len) (by decide) (by decide)) rfl (.inl rfl))) (sg_cons (sg_for c (i_seq c (v_attr c (T_attr_row_3 T ⟨rfl, rfl, rfl, rfl, rfl⟩ (by decide)) (v_var (i := 0) rfl (by leaf_len) (by decide) (by decide)) rfl)) (g_tup c.cK c.calm (gs_cons (g_name (i := 3) c.nd rfl (by mem_news) (.inl rfl)) (gs_cons (g_name (i := 4) c.nd rfl (by mem_news) (.inl rfl)) gs_nil rfl) rfl) rfl rfl) (sg_cons (sg_plain (s_set (i := 5) c rfl (by mem_news) (v_var (i := 3) rfl (by leaf_len) (by decide) (by decide)) rfl (.inl rfl))) (sg_cons (sg_while c (b_of (w_and (b_cmp (o_gt) (v_var (i := 2) rfl (by leaf_len) (by decide) (by decide)) v_int rfl) (w_and1 (b_of (w_or (b_cmp (o_is) (v_var (i := 4) rfl (by leaf_len) (by decide) (by decide)) v_none rfl) (w_or1 (b_cmp (o_le) (v_var (i := 5) rfl (by leaf_len) (by decide) (by decide)) (v_var (i := 4) rfl (by leaf_len) (by decide) (by decide)) rfl))))))) (sg_cons (sg_yield (v_var (i := 5) rfl (by leaf_len) (by decide) (by decide)) rfl rfl) (sg_cons (sg_plain (s_aug (i := 5) c rfl (by mem_news) v_int (.inl rfl))) (sg_cons (sg_plain (s_augM (i := 2) c rfl (by mem_news) v_int (.inl rfl))) (sg_nil))))) (sg_nil))) rfl) (sg_nil)))⟩
def sem_Numbers_ascending : List D → M (List D) := genFn 2 6 pk_Numbers_ascending.1
theorem okn_Numbers_ascending_1_count (T : Facts P w K mg base ad) : GnK P w K mg base (GG true K ad) 8 (ad 24) 1 ["count"] (fun ds => sem_Numbers_ascending (perm [0, 1] ds)) := by
  obtain ⟨fd, F⟩ := T.f_Numbers_ascending
  exact gnk_rule (G := GG true K ad) (ix := [0, 1]) F sc_Numbers_ascending (fun _ _ _ _ _ _ us ws h1 h2 => match us, ws, h1, h2 with | [_], [_], _, _ => rfl) rfl (pk_Numbers_ascending.2 P w K mg base ad T) rfl rfl (by decide)
theorem okn_Numbers_ascending_2_ (T : Facts P w K mg base ad) : GnK P w K mg base (GG true K ad) 8 (ad 24) 2 [] (fun ds => sem_Numbers_ascending (perm [0, 1] ds)) := by
  obtain ⟨fd, F⟩ := T.f_Numbers_ascending
  exact gnk_rule (G := GG true K ad) (ix := [0, 1]) F sc_Numbers_ascending (fun _ _ _ _ _ _ us ws h1 h2 => match us, ws, h1, h2 with | [_, _], [], _, _ => rfl) rfl (pk_Numbers_ascending.2 P w K mg base ad T) rfl rfl (by decide)
theorem T_gmeth_ascending_3_count0 (T : Facts P w K mg base ad) {X : Cx} (h : Same X P w K mg base) : GMethT X (GG true K ad) 8 "ascending" 0 ["count"] (tab [(3, fun ds => sem_Numbers_ascending (perm [0, 1] ds))]) := by
  obtain ⟨rfl, rfl, rfl, rfl, rfl⟩ := h
  exact ⟨(tab_cons ⟨_, T.cl_Numbers, T.t_Numbers_Numbers_ascending, okn_Numbers_ascending_1_count T, (show ("ascending" : Str) ∉ flds 3 by decide +kernel)⟩ tab_nil)⟩
theorem T_gmeth_ascending_3_1 (T : Facts P w K mg base ad) {X : Cx} (h : Same X P w K mg base) : GMethT X (GG true K ad) 8 "ascending" 1 [] (tab [(3, fun ds => sem_Numbers_ascending (perm [0, 1] ds))]) := by
  obtain ⟨rfl, rfl, rfl, rfl, rfl⟩ := h
  exact ⟨(tab_cons ⟨_, T.cl_Numbers, T.t_Numbers_Numbers_ascending, okn_Numbers_ascending_2_ T, (show ("ascending" : Str) ∉ flds 3 by decide +kernel)⟩ tab_nil)⟩
def pk_NumbersX_eqX : Σ' ms : MS, ∀ (P : Program) (w : World) (K : PySem.W.Frag) (mg : Str → Option Value) (base : Heap) (ad : Nat → Addr) (b : Bool), Facts P w K mg base ad → Body P w K mg base (GG b K ad) 0 (ad 25) ["self", "other"] "Numbers.__eq__" st_NumbersX_eqX ms :=
  ⟨_, fun P w K mg base ad b T cdv A fr s H E c => ss_cons (s_if (b_not (b_val (v_callB (c_isa c.cK (T.isa _ _ rfl)) (by rfl) T.z_isinstance (by decide +kernel) (l_cons (v_var (i := 1) rfl (by leaf_len) (by decide) (by decide)) (l_cons (v_glob (by rfl) (glob_cls (c := 3) T.k_Numbers) (by decide)) l_nil rfl) rfl) rfl (by decide) (by decide)) (fun _ => rfl))) (ss_cons (s_never) ss_nil) (ss_nil)) (ss_cons (s_ret (v_cmp (o_eq c.cK c.rm) (v_attr c (T_attr_row_3 T ⟨rfl, rfl, rfl, rfl, rfl⟩ (by decide)) (v_var (i := 0) rfl (by leaf_len) (by decide) (by decide)) rfl) (v_attr c (T_attr_row_3 T ⟨rfl, rfl, rfl, rfl, rfl⟩ (by decide)) (v_var (i := 1) rfl (by leaf_len) (by decide) (by decide)) rfl) rfl)) ss_nil)⟩
def sem_NumbersX_eqX : List D → M D := runFn 2 2 pk_NumbersX_eqX.1
theorem ok_NumbersX_eqX (T : Facts P w K mg base ad) : FnA P w K mg base (GG b K ad) 2 (ad 25) sem_NumbersX_eqX := by
  obtain ⟨fd, F⟩ := T.f_NumbersX_eqX
  exact fna_rule F sc_NumbersX_eqX (F.binds fun _ _ _ _ _ _ us hl => match us, hl with | [_, _], _ => rfl) rfl (pk_NumbersX_eqX.2 P w K mg base ad b T) rfl rfl (by decide)
def pkd_NumbersX_eqX : Σ' fc : List SV → M Bool, ∀ (P : Program) (w : World) (K : PySem.W.Frag) (mg : Str → Option Value) (base : Heap) (ad : Nat → Addr) (b : Bool), Facts P w K mg base ad → ∀ (cdv : Value) (A : Around) (fr : List Env) (s : Shared) (H : Hp) (E : XK), Ctx (GG b K ad) (XF P w K mg base ["self", "other"] "Numbers.__eq__" st_NumbersX_eqX (ad 25) cdv A fr s H E) (WF E) 0 → Gl (XF P w K mg base ["self", "other"] "Numbers.__eq__" st_NumbersX_eqX (ad 25) cdv A fr s H E) "NotImplemented" ∧ PB (GG b K ad) (XF P w K mg base ["self", "other"] "Numbers.__eq__" st_NumbersX_eqX (ad 25) cdv A fr s H E) (WF E) (ifC (defBody st_NumbersX_eqX)) fc :=
  ⟨_, fun P w K mg base ad b T cdv A fr s H E c => ⟨by rfl, (b_not (b_val (v_callB (c_isa c.cK (T.isa _ _ rfl)) (by rfl) T.z_isinstance (by decide +kernel) (l_cons (v_var (i := 1) rfl (by leaf_len) (by decide) (by decide)) (l_cons (v_glob (by rfl) (glob_cls (c := 3) T.k_Numbers) (by decide)) l_nil rfl) rfl) rfl (by decide) (by decide)) (fun _ => rfl)))⟩⟩
theorem okd_NumbersX_eqX (T : Facts P w K mg base ad) : DecS P w K mg base (GG b K ad) 2 2 2 (ad 25) pkd_NumbersX_eqX.1 := by
  obtain ⟨fd, F⟩ := T.f_NumbersX_eqX
  exact dec_rule F sc_NumbersX_eqX (F.binds fun _ _ _ _ _ _ us hl => match us, hl with | [_, _], _ => rfl) rfl rfl T.z_NotImplemented rfl rfl (by decide) (pkd_NumbersX_eqX.2 P w K mg base ad b T)
theorem T_eq_3 (T : Facts P w K mg base ad) {X : Cx} (h : Same X P w K mg base) {k : Nat} (hk : 2 ≤ k) : EqT X (GG b K ad) k (tab [(3, sem_NumbersX_eqX)]) := by
  obtain ⟨rfl, rfl, rfl, rfl, rfl⟩ := h
  exact ⟨(tab_cons ⟨_, T.e_Numbers_NumbersX_eqX.1, T.e_Numbers_NumbersX_eqX.2.1, T.e_Numbers_NumbersX_eqX.2.2.1, T.e_Numbers_NumbersX_eqX.2.2.2, (ok_NumbersX_eqX T).mono (Nat.le_trans (by decide) hk)⟩ tab_nil)⟩
theorem T_dec_3 (T : Facts P w K mg base ad) {X : Cx} (h : Same X P w K mg base) {k : Nat} (hk : 2 ≤ k) : DecT X (GG b K ad) k (tab [(3, (2, pkd_NumbersX_eqX.1))]) := by
  obtain ⟨rfl, rfl, rfl, rfl, rfl⟩ := h
  exact ⟨(tab_cons ⟨_, T.e_Numbers_NumbersX_eqX.1, T.e_Numbers_NumbersX_eqX.2.1, T.e_Numbers_NumbersX_eqX.2.2.1, T.e_Numbers_NumbersX_eqX.2.2.2, T.d_Numbers_NumbersX_eqX.1, T.d_Numbers_NumbersX_eqX.2.1, T.d_Numbers_NumbersX_eqX.2.2, (okd_NumbersX_eqX T).mono (Nat.le_trans (by decide) hk)⟩ tab_nil)⟩
theorem T_low_3 (T : Facts P w K mg base ad) {X : Cx} (h : Same X P w K mg base) {k : Nat} (hk : 2 ≤ k) : LowT X (GG b K ad) k (tab [(3, (2, pkd_NumbersX_eqX.1))]) := by
  obtain ⟨rfl, rfl, rfl, rfl, rfl⟩ := h
  exact ⟨(tab_cons T.lw_Numbers_NumbersX_eqX tab_nil)⟩
def pk__law_right : Σ' ms : MS, ∀ (P : Program) (w : World) (K : PySem.W.Frag) (mg : Str → Option Value) (base : Heap) (ad : Nat → Addr), Facts P w K mg base ad → Body P w K mg base (GG true K ad) 10 (ad 26) ["_law_cup_here", "_law_turn", "_law_cuts_here", "_law_mine", "_law_told", "_law_due", "_law_words", "_law_odd", "_law_many", "_law_mate", "_law_place", "_law_thing"] "_law_right" st__law_right ms :=
  ⟨_, fun P w K mg base ad T cdv A fr s H E c => ss_cons (s_for c (i_rng1 (by rfl) T.z_range (l_cons v_int l_nil rfl) rfl) (g_name (i := 1) c.nd rfl (by mem_news) (.inl rfl)) (ss_cons (s_set (i := 2) c rfl (by mem_news) (v_calls (FnA.call c ((ok__law_cuts T).mono (by decide))) (by rfl) T.g__law_cuts (l_cons (v_var (i := 0) rfl (by leaf_len) (by decide) (by decide)) l_nil rfl) rfl (by decide)) rfl (.inl rfl)) (ss_cons (s_set (i := 3) c rfl (by mem_news) (v_calls (FnA.call c ((ok__law_set T).mono (by decide))) (by rfl) T.g__law_set (l_cons (v_var (i := 2) rfl (by leaf_len) (by decide) (by decide)) l_nil rfl) rfl (by decide)) rfl (.inl rfl)) (ss_cons (s_set (i := 4) c rfl (by mem_news) (v_lst (l_cons (v_attr c (T_attr_stretches_3 T ⟨rfl, rfl, rfl, rfl, rfl⟩ (by decide)) (v_var (i := 3) rfl (by leaf_len) (by decide) (by decide)) rfl) (l_cons (v_attr c (T_attr_smallest_3 T ⟨rfl, rfl, rfl, rfl, rfl⟩ (by decide)) (v_var (i := 3) rfl (by leaf_len) (by decide) (by decide)) rfl) (l_cons (v_attr c (T_attr_endless_3 T ⟨rfl, rfl, rfl, rfl, rfl⟩ (by decide)) (v_var (i := 3) rfl (by leaf_len) (by decide) (by decide)) rfl) (l_cons (v_callTy (c_boolX (j := 2) c (by decide) (T_spX_boolX_3 T ⟨rfl, rfl, rfl, rfl, rfl⟩ (by decide))) (by rfl) T.z_bool (by decide +kernel) (l_cons (v_var (i := 3) rfl (by leaf_len) (by decide) (by decide)) l_nil rfl) rfl (by decide) (by decide)) (l_cons (v_callTy (c_strX (j := 4) c (by decide) (T_str_3 T ⟨rfl, rfl, rfl, rfl, rfl⟩ (by decide))) (by rfl) T.z_str (by decide +kernel) (l_cons (v_var (i := 3) rfl (by leaf_len) (by decide) (by decide)) l_nil rfl) rfl (by decide) (by decide)) (l_cons (v_callB (c_reprX c (T_repr_3 T ⟨rfl, rfl, rfl, rfl, rfl⟩ (by decide))) (by rfl) T.z_repr (by decide +kernel) (l_cons (v_var (i := 3) rfl (by leaf_len) (by decide) (by decide)) l_nil rfl) rfl (by decide) (by decide)) l_nil rfl) rfl) rfl) rfl) rfl) rfl) (by decide)) rfl (.inl rfl)) (ss_cons (s_set (i := 5) c rfl (by mem_news) (v_lst (l_cons (v_callTy (c_tuple c.cK) (by rfl) T.z_tuple (by decide +kernel) (l_cons (v_var (i := 2) rfl (by leaf_len) (by decide) (by decide)) l_nil rfl) rfl (by decide) (by decide)) (l_cons (v_ite (b_cmp (o_ne c.cK c.rm) (v_var (i := 2) rfl (by leaf_len) (by decide) (by decide)) (v_lst l_nil (by decide)) rfl) (v_ix c.cK (v_ix c.cK (v_var (i := 2) rfl (by leaf_len) (by decide) (by decide)) v_int rfl) v_int rfl) v_none) (l_cons (v_and (v_cmp (o_ne c.cK c.rm) (v_var (i := 2) rfl (by leaf_len) (by decide) (by decide)) (v_lst l_nil (by decide)) rfl) (v_one (v_cmp (o_is) (v_ix c.cK (v_ix c.cK (v_var (i := 2) rfl (by leaf_len) (by decide) (by decide)) (v_neg v_int) rfl) v_int rfl) v_none rfl))) (l_cons (v_cmp (o_ne c.cK c.rm) (v_var (i := 2) rfl (by leaf_len) (by decide) (by decide)) (v_lst l_nil (by decide)) rfl) l_nil rfl) rfl) rfl) rfl) (by decide)) rfl (.inl rfl)) (ss_cons (s_set (i := 6) c rfl (by mem_news) (v_calls (FnA.call c ((ok__law_cut_words T).mono (by decide))) (by rfl) T.g__law_cut_words (l_cons (v_var (i := 2) rfl (by leaf_len) (by decide) (by decide)) l_nil rfl) rfl (by decide)) rfl (.inl rfl)) (ss_cons (s_if (b_cmp (o_ne c.cK c.rm) (v_callB (c_repr c.cK c.rm) (by rfl) T.z_repr (by decide +kernel) (l_cons (v_var (i := 4) rfl (by leaf_len) (by decide) (by decide)) l_nil rfl) rfl (by decide) (by decide)) (v_callB (c_repr c.cK c.rm) (by rfl) T.z_repr (by decide +kernel) (l_cons (v_bin (o_add c.cK) (v_var (i := 5) rfl (by leaf_len) (by decide) (by decide)) (v_lst (l_cons (v_var (i := 6) rfl (by leaf_len) (by decide) (by decide)) (l_cons (v_bin (o_add c.cK) (v_bin (o_add c.cK) v_str (v_var (i := 6) rfl (by leaf_len) (by decide) (by decide))) v_str) l_nil rfl) rfl) (by decide))) l_nil rfl) rfl (by decide) (by decide)) rfl) (ss_cons (s_ret v_bool) ss_nil) (ss_nil)) (ss_cons (s_if (b_cmp (o_ne c.cK c.rm) (v_lc c (own := [("_law_place", 10)]) (i_seq c (v_calls (FnA.call c ((ok__law_edges T).mono (by decide))) (by rfl) T.g__law_edges (l_cons (v_var (i := 2) rfl (by leaf_len) (by decide) (by decide)) l_nil rfl) rfl (by decide))) (blkOk_by (N := ["_law_cup_here", "_law_turn", "_law_cuts_here", "_law_mine", "_law_told", "_law_due", "_law_words", "_law_odd", "_law_many", "_law_mate", "_law_place", "_law_thing"]) (sc := defScope st__law_right) (by decide +kernel)) (fun s H C cl fp => blkP c fun c => (p_name (i := 10) c.nd rfl (by mem_news) (.inr rfl))) (fun s H C cl fp => blkT c fun c => (t_one (b_cmp (o_ne c.cK c.rm) (v_cmp (o_ownIn c (T_spX_containsX_3 T ⟨rfl, rfl, rfl, rfl, rfl⟩ (by decide))) (v_var (i := 10) rfl (by leaf_len) (by decide) (by decide)) (v_var (i := 3) rfl (by leaf_len) (by decide) (by decide)) rfl) (v_calls (FnA.call c ((ok__law_holds T).mono (by decide))) (by rfl) T.g__law_holds (l_cons (v_var (i := 2) rfl (by leaf_len) (by decide) (by decide)) (l_cons (v_var (i := 10) rfl (by leaf_len) (by decide) (by decide)) l_nil rfl) rfl) rfl (by decide)) rfl))) (fun s H C cl fp => blkV c fun c => (v_var (i := 10) rfl (by leaf_len) (by decide) (by decide))) rfl (by decide)) (v_lst l_nil (by decide)) rfl) (ss_cons (s_ret v_bool) ss_nil) (ss_nil)) (ss_cons (s_set (i := 7) c rfl (by mem_news) (v_lst (l_cons (v_neg v_int) (l_cons (v_neg (v_bin (o_pow) v_int v_int)) (l_cons v_none (l_cons v_bool (l_cons v_bool (l_cons v_str (l_cons (v_tup (l_cons v_int l_nil rfl) (by decide)) (l_cons (v_lst l_nil (by decide)) (l_cons v_dict0 (l_cons (v_tup (l_cons v_int (l_cons v_int l_nil rfl) rfl) (by decide)) l_nil rfl) rfl) rfl) rfl) rfl) rfl) rfl) rfl) rfl) rfl) (by decide)) rfl (.inl rfl)) (ss_cons (s_if (b_cmp (o_ne c.cK c.rm) (v_lc c (own := [("_law_thing", 11)]) (i_seq c (v_var (i := 7) rfl (by leaf_len) (by decide) (by decide))) (blkOk_by (N := ["_law_cup_here", "_law_turn", "_law_cuts_here", "_law_mine", "_law_told", "_law_due", "_law_words", "_law_odd", "_law_many", "_law_mate", "_law_place", "_law_thing"]) (sc := defScope st__law_right) (by decide +kernel)) (fun s H C cl fp => blkP c fun c => (p_name (i := 11) c.nd rfl (by mem_news) (.inr rfl))) (fun s H C cl fp => blkT c fun c => (t_one (b_cmp (o_ownIn c (T_spX_containsX_3 T ⟨rfl, rfl, rfl, rfl, rfl⟩ (by decide))) (v_var (i := 11) rfl (by leaf_len) (by decide) (by decide)) (v_var (i := 3) rfl (by leaf_len) (by decide) (by decide)) rfl))) (fun s H C cl fp => blkV c fun c => (v_var (i := 11) rfl (by leaf_len) (by decide) (by decide))) rfl (by decide)) (v_lst l_nil (by decide)) rfl) (ss_cons (s_ret v_bool) ss_nil) (ss_nil)) (ss_cons (s_for c (i_seq c (v_lst (l_cons v_int (l_cons v_int (l_cons (v_calls (FnA.call c ((ok__law_sip T).mono (by decide))) (by rfl) T.g__law_sip (l_cons (v_var (i := 0) rfl (by leaf_len) (by decide) (by decide)) (l_cons v_int l_nil rfl) rfl) rfl (by decide)) (l_cons v_int l_nil rfl) rfl) rfl) rfl) (by decide))) (g_name (i := 8) c.nd rfl (by mem_news) (.inl rfl)) (ss_cons (s_set (i := 5) c rfl (by mem_news) (v_calls (FnA.call c ((ok__law_first T).mono (by decide))) (by rfl) T.g__law_first (l_cons (v_var (i := 2) rfl (by leaf_len) (by decide) (by decide)) (l_cons (v_var (i := 8) rfl (by leaf_len) (by decide) (by decide)) l_nil rfl) rfl) rfl (by decide)) rfl (.inl rfl)) (ss_cons (s_if (b_of (w_or (b_cmp (o_ne c.cK c.rm) (v_listN (gl_meth (T_gmeth_ascending_3_1 T ⟨rfl, rfl, rfl, rfl, rfl⟩) (c.rm.room.mono (by decide)) (v_var (i := 3) rfl (by leaf_len) (by decide) (by decide)) (l_cons (v_var (i := 8) rfl (by leaf_len) (by decide) (by decide)) l_nil rfl) rfl rfl (by decide) rfl) (c.rm.room.mono (by decide)) (by rfl) T.z_list (by decide +kernel) rfl (by decide) (by decide)) (v_var (i := 5) rfl (by leaf_len) (by decide) (by decide)) rfl) (w_or1 (b_cmp (o_ne c.cK c.rm) (v_listN (gl_methK0 (T_gmeth_ascending_3_count0 T ⟨rfl, rfl, rfl, rfl, rfl⟩) (c.rm.room.mono (by decide)) (v_var (i := 3) rfl (by leaf_len) (by decide) (by decide)) (k_cons (v_var (i := 8) rfl (by leaf_len) (by decide) (by decide)) k_nil) rfl rfl (by decide) rfl rfl rfl) (c.rm.room.mono (by decide)) (by rfl) T.z_list (by decide +kernel) rfl (by decide) (by decide)) (v_var (i := 5) rfl (by leaf_len) (by decide) (by decide)) rfl)))) (ss_cons (s_ret v_bool) ss_nil) (ss_nil)) (ss_nil))) rfl) (ss_cons (s_set (i := 9) c rfl (by mem_news) (v_calls (FnA.call c ((ok__law_set T).mono (by decide))) (by rfl) T.g__law_set (l_cons (v_calls (FnA.call c ((ok__law_cuts T).mono (by decide))) (by rfl) T.g__law_cuts (l_cons (v_var (i := 0) rfl (by leaf_len) (by decide) (by decide)) l_nil rfl) rfl (by decide)) l_nil rfl) rfl (by decide)) rfl (.inl rfl)) (ss_cons (s_if (b_of (w_or (b_not (b_cmp (o_eqX c (T_eq_3 T ⟨rfl, rfl, rfl, rfl, rfl⟩ (by decide))) (v_var (i := 3) rfl (by leaf_len) (by decide) (by decide)) (v_calls (FnA.call c ((ok__law_set T).mono (by decide))) (by rfl) T.g__law_set (l_cons (v_var (i := 2) rfl (by leaf_len) (by decide) (by decide)) l_nil rfl) rfl (by decide)) rfl)) (w_or1 (b_cmp (o_neX c (T_eq_3 T ⟨rfl, rfl, rfl, rfl, rfl⟩ (by decide))) (v_var (i := 3) rfl (by leaf_len) (by decide) (by decide)) (v_calls (FnA.call c ((ok__law_set T).mono (by decide))) (by rfl) T.g__law_set (l_cons (v_var (i := 2) rfl (by leaf_len) (by decide) (by decide)) l_nil rfl) rfl (by decide)) rfl)))) (ss_cons (s_ret v_bool) ss_nil) (ss_nil)) (ss_cons (s_if (b_cmp (o_ne c.cK c.rm) (v_cmp (o_eqX c (T_eq_3 T ⟨rfl, rfl, rfl, rfl, rfl⟩ (by decide))) (v_var (i := 3) rfl (by leaf_len) (by decide) (by decide)) (v_var (i := 9) rfl (by leaf_len) (by decide) (by decide)) rfl) (v_cmp (o_eq c.cK c.rm) (v_attr c (T_attr_stretches_3 T ⟨rfl, rfl, rfl, rfl, rfl⟩ (by decide)) (v_var (i := 3) rfl (by leaf_len) (by decide) (by decide)) rfl) (v_attr c (T_attr_stretches_3 T ⟨rfl, rfl, rfl, rfl, rfl⟩ (by decide)) (v_var (i := 9) rfl (by leaf_len) (by decide) (by decide)) rfl) rfl) rfl) (ss_cons (s_ret v_bool) ss_nil) (ss_nil)) (ss_cons (s_if (b_of (w_or (b_cmp (o_eqXN c (T_eq_3 T ⟨rfl, rfl, rfl, rfl, rfl⟩ (by decide)) (T_dec_3 T ⟨rfl, rfl, rfl, rfl, rfl⟩ (by decide))) (v_var (i := 3) rfl (by leaf_len) (by decide) (by decide)) (v_callTy (c_tuple c.cK) (by rfl) T.z_tuple (by decide +kernel) (l_cons (v_var (i := 2) rfl (by leaf_len) (by decide) (by decide)) l_nil rfl) rfl (by decide) (by decide)) rfl) (w_or (b_not (b_cmp (o_neXN c (T_eq_3 T ⟨rfl, rfl, rfl, rfl, rfl⟩ (by decide)) (T_dec_3 T ⟨rfl, rfl, rfl, rfl, rfl⟩ (by decide))) (v_var (i := 3) rfl (by leaf_len) (by decide) (by decide)) (v_var (i := 6) rfl (by leaf_len) (by decide) (by decide)) rfl)) (w_or1 (b_cmp (o_inL c (T_dec_3 T ⟨rfl, rfl, rfl, rfl, rfl⟩ (by decide)) (T_low_3 T ⟨rfl, rfl, rfl, rfl, rfl⟩ (by decide))) (v_var (i := 3) rfl (by leaf_len) (by decide) (by decide)) (v_lst (l_cons v_none (l_cons v_int l_nil rfl) rfl) (by decide)) rfl))))) (ss_cons (s_ret v_bool) ss_nil) (ss_nil)) (ss_nil))))))))))))))) rfl) (ss_cons (s_ret v_bool) ss_nil)⟩
def sem__law_right : List D → M D := runFn 1 12 pk__law_right.1
theorem ok__law_right (T : Facts P w K mg base ad) : FnA P w K mg base (GG true K ad) 12 (ad 26) sem__law_right := by
  obtain ⟨fd, F⟩ := T.f__law_right
  exact fna_rule F sc__law_right (F.binds fun _ _ _ _ _ _ us hl => match us, hl with | [_], _ => rfl) rfl (pk__law_right.2 P w K mg base ad T) rfl rfl (by decide)
def pk__law_cup : Σ' ms : MS, ∀ (P : Program) (w : World) (K : PySem.W.Frag) (mg : Str → Option Value) (base : Heap) (ad : Nat → Addr) (b : Bool), Facts P w K mg base ad → Body P w K mg base (GG b K ad) 0 (ad 27) ["_law_script", "_law_spot", "_law_cell", "_law_one"] "_law_cup" st__law_cup ms :=
  ⟨_, fun P w K mg base ad b T cdv A fr s H E c => ss_cons (s_set (i := 2) c rfl (by mem_news) (v_ite (b_cmp (o_lt) (v_var (i := 1) rfl (by leaf_len) (by decide) (by decide)) (v_callB (c_len c.cK) (by rfl) T.z_len (by decide +kernel) (l_cons (v_var (i := 0) rfl (by leaf_len) (by decide) (by decide)) l_nil rfl) rfl (by decide) (by decide)) rfl) (v_ix c.cK (v_var (i := 0) rfl (by leaf_len) (by decide) (by decide)) (v_var (i := 1) rfl (by leaf_len) (by decide) (by decide)) rfl) (v_bin (o_add c.cK) (v_bin (o_mul c.cK) v_int (v_var (i := 1) rfl (by leaf_len) (by decide) (by decide))) v_int)) rfl (.inl rfl)) (ss_cons (s_for c (i_seq c (v_ite (b_cmp (o_ge) (v_var (i := 1) rfl (by leaf_len) (by decide) (by decide)) (v_callB (c_len c.cK) (by rfl) T.z_len (by decide +kernel) (l_cons (v_var (i := 0) rfl (by leaf_len) (by decide) (by decide)) l_nil rfl) rfl (by decide) (by decide)) rfl) (v_slice c.cK (v_var (i := 0) rfl (by leaf_len) (by decide) (by decide)) q_none (q_some v_int)) (v_lst l_nil (by decide)))) (g_name (i := 3) c.nd rfl (by mem_news) (.inl rfl)) (ss_cons (s_set (i := 2) c rfl (by mem_news) (v_bin (o_mod) (v_callTy (c_int) (by rfl) T.z_int (by decide +kernel) (l_cons (v_bin (o_add c.cK) (v_bin (o_mul c.cK) (v_var (i := 2) rfl (by leaf_len) (by decide) (by decide)) v_int) (v_var (i := 3) rfl (by leaf_len) (by decide) (by decide))) l_nil rfl) rfl (by decide) (by decide)) v_int) rfl (.inl rfl)) (ss_nil)) rfl) (ss_cons (s_ret (v_shr (o_lst (l_cons (v_bin (o_mod) (v_callTy (c_int) (by rfl) T.z_int (by decide +kernel) (l_cons (v_bin (o_add c.cK) (v_bin (o_add c.cK) (v_bin (o_mul c.cK) (v_var (i := 2) rfl (by leaf_len) (by decide) (by decide)) v_int) (v_bin (o_mul c.cK) v_int (v_var (i := 1) rfl (by leaf_len) (by decide) (by decide)))) v_int) l_nil rfl) rfl (by decide) (by decide)) v_int) (l_cons (v_ite (b_of (w_or (b_cmp (o_lt) (v_var (i := 2) rfl (by leaf_len) (by decide) (by decide)) v_int rfl) (w_or1 (b_cmp (o_ge) (v_var (i := 2) rfl (by leaf_len) (by decide) (by decide)) (v_bin (o_pow) v_int v_int) rfl)))) (v_callB (c_abs) (by rfl) T.z_abs (by decide +kernel) (l_cons (v_var (i := 2) rfl (by leaf_len) (by decide) (by decide)) l_nil rfl) rfl (by decide) (by decide)) v_int) l_nil rfl) rfl) (by decide)))) ss_nil))⟩
def sem__law_cup : List D → M D := runFn 2 4 pk__law_cup.1
theorem ok__law_cup (T : Facts P w K mg base ad) : FnA P w K mg base (GG b K ad) 2 (ad 27) sem__law_cup := by
  obtain ⟨fd, F⟩ := T.f__law_cup
  exact fna_rule F sc__law_cup (F.binds fun _ _ _ _ _ _ us hl => match us, hl with | [_, _], _ => rfl) rfl (pk__law_cup.2 P w K mg base ad b T) rfl rfl (by decide)
def pk_law : Σ' ms : MS, ∀ (P : Program) (w : World) (K : PySem.W.Frag) (mg : Str → Option Value) (base : Heap) (ad : Nat → Addr), Facts P w K mg base ad → Body P w K mg base (GG true K ad) 12 (ad 28) ["_law_script", "_law_told", "_law_spot"] "law" st_law ms :=
  ⟨_, fun P w K mg base ad T cdv A fr s H E c => ss_cons (s_own (i := 1) c rfl (Or.inl rfl) (o_lst (l_cons (v_callTy (c_strX (j := 4) c (by decide) (T_str_3 T ⟨rfl, rfl, rfl, rfl, rfl⟩ (by decide))) (by rfl) T.z_str (by decide +kernel) (l_cons (v_calls0 (ClA.call c ((mk_Numbers T).mono (by decide))) (by rfl) T.k_Numbers (by decide)) l_nil rfl) rfl (by decide) (by decide)) (l_cons (v_callTy (c_strX (j := 4) c (by decide) (T_str_3 T ⟨rfl, rfl, rfl, rfl, rfl⟩ (by decide))) (by rfl) T.z_str (by decide +kernel) (l_cons (v_calls (ClA.call c ((mk_Numbers T).mono (by decide))) (by rfl) T.k_Numbers (l_cons (v_tup (l_cons v_int (l_cons v_int l_nil rfl) rfl) (by decide)) l_nil rfl) rfl (by decide)) l_nil rfl) rfl (by decide) (by decide)) (l_cons (v_callTy (c_strX (j := 4) c (by decide) (T_str_3 T ⟨rfl, rfl, rfl, rfl, rfl⟩ (by decide))) (by rfl) T.z_str (by decide +kernel) (l_cons (v_calls (ClA.call c ((mk_Numbers T).mono (by decide))) (by rfl) T.k_Numbers (l_cons (v_tup (l_cons v_int (l_cons v_int l_nil rfl) rfl) (by decide)) (l_cons (v_tup (l_cons v_int (l_cons v_none l_nil rfl) rfl) (by decide)) l_nil rfl) rfl) rfl (by decide)) l_nil rfl) rfl (by decide) (by decide)) (l_cons (v_attrC c (T_attr_smallest_3 T ⟨rfl, rfl, rfl, rfl, rfl⟩ (by decide)) (v_calls0 (ClA.call c ((mk_Numbers T).mono (by decide))) (by rfl) T.k_Numbers (by decide)) (by decide +kernel)) l_nil rfl) rfl) rfl) rfl) (by decide)) rfl (.inl rfl) (by decide)) (ss_cons (s_app (i := 1) rfl (by leaf_len) (by decide) (by decide) (v_cmp (o_ownIn c (T_spX_containsX_3 T ⟨rfl, rfl, rfl, rfl, rfl⟩ (by decide))) v_int (v_calls (ClA.call c ((mk_Numbers T).mono (by decide))) (by rfl) T.k_Numbers (l_cons (v_tup (l_cons v_int (l_cons v_none l_nil rfl) rfl) (by decide)) l_nil rfl) rfl (by decide)) rfl) rfl rfl) (ss_frz (i := 1) (ss_cons (s_if (b_cmp (o_ne c.cK c.rm) (v_callB (c_repr c.cK c.rm) (by rfl) T.z_repr (by decide +kernel) (l_cons (v_var (i := 1) rfl (by leaf_len) (by decide) (by decide)) l_nil rfl) rfl (by decide) (by decide)) (v_callB (c_repr c.cK c.rm) (by rfl) T.z_repr (by decide +kernel) (l_cons (v_lst (l_cons v_str (l_cons v_str (l_cons v_str (l_cons v_none (l_cons v_bool l_nil rfl) rfl) rfl) rfl) rfl) (by decide)) l_nil rfl) rfl (by decide) (by decide)) rfl) (ss_cons (s_ret v_bool) ss_nil) (ss_nil)) (ss_cons (s_ret (v_callB (c_all c.calm) (by rfl) T.z_all (by decide +kernel) (l_cons (v_lc c (own := [("_law_spot", 2)]) (i_rng1 (by rfl) T.z_range (l_cons (v_callB (c_max c.calm) (by rfl) T.z_max (by decide +kernel) (l_cons v_int (l_cons (v_callB (c_min c.calm) (by rfl) T.z_min (by decide +kernel) (l_cons (v_callB (c_len c.cK) (by rfl) T.z_len (by decide +kernel) (l_cons (v_var (i := 0) rfl (by leaf_len) (by decide) (by decide)) l_nil rfl) rfl (by decide) (by decide)) (l_cons v_int l_nil rfl) rfl) rfl (by decide) (by decide)) l_nil rfl) rfl) rfl (by decide) (by decide)) l_nil rfl) rfl) (blkOk_by (N := ["_law_script", "_law_told", "_law_spot"]) (sc := defScope st_law) (by decide +kernel)) (fun s H C cl fp => blkP c fun c => (p_name (i := 2) c.nd rfl (by mem_news) (.inr rfl))) (fun s H C cl fp => blkT c fun c => t_nil) (fun s H C cl fp => blkV c fun c => (v_calls (FnA.call c ((ok__law_right T).mono (by decide))) (by rfl) T.g__law_right (l_cons (v_calls (FnA.call c ((ok__law_cup T).mono (by decide))) (by rfl) T.g__law_cup (l_cons (v_var (i := 0) rfl (by leaf_len) (by decide) (by decide)) (l_cons (v_var (i := 2) rfl (by leaf_len) (by decide) (by decide)) l_nil rfl) rfl) rfl (by decide)) l_nil rfl) rfl (by decide))) rfl (by decide)) l_nil rfl) rfl (by decide) (by decide))) ss_nil))))⟩
def sem_law : List D → M D := runFn 1 3 pk_law.1
theorem ok_law (T : Facts P w K mg base ad) : FnA P w K mg base (GG true K ad) 14 (ad 28) sem_law := by
  obtain ⟨fd, F⟩ := T.f_law
  exact fna_rule F sc_law (F.binds fun _ _ _ _ _ _ us hl => match us, hl with | [_], _ => rfl) rfl (pk_law.2 P w K mg base ad T) rfl rfl (by decide)
end K06
set_option maxRecDepth 100000
set_option maxHeartbeats 1000000
set_option exponentiation.threshold 4000
namespace K06
open PySem Ev
theorem runS_expr {α : Type} {g : List SV → M α} {sd : List SV} {S : List Ob} {N : List SV → List Ob → Prop} {R : D → List Ob → Prop} {B C : List SV → List Ob → Prop} : RunS (exS g fun _ => nextS) sd S N R B C ↔ Ev.Run (g sd) S fun _ S' => N sd S' := by
  rw [runS_ex]
  exact Iff.rfl
def Sm (k : Nat) (x : Int) : Prop := 0 ≤ x ∧ x < 2 ^ k
theorem Sm.mono {j k : Nat} {x : Int} (h : Sm j x) (l : j ≤ k) : Sm k x := ⟨h.1, Int.lt_of_lt_of_le h.2 (by exact_mod_cast Nat.pow_le_pow_right (by decide) l)⟩
theorem Sm.nat {k : Nat} {x : Int} (h : Sm k x) : x.natAbs < 2 ^ k := by
  have a := h.1
  have b := h.2
  have e : ((x.natAbs : Nat) : Int) = x := by omega
  have c : ((x.natAbs : Nat) : Int) < ((2 ^ k : Nat) : Int) := by
    rw [e]
    simpa using b
  exact_mod_cast c
theorem mulS {j k : Nat} {x y : Int} (h : Sm j x) (l : Sm k y) (c : j + k ≤ 134217728) : dMul (.int x) (.int y) = M.pure (.int (x * y)) := mul_int (mulOk_by h.nat l.nat c)
structure Mx where
  a : Int
  b : Int
  c : Int
  d : Int
structure Mx.S (k : Nat) (m : Mx) : Prop where
  a : Sm k m.a
  b : Sm k m.b
  c : Sm k m.c
  d : Sm k m.d
structure Pc where
  rail : Bool
  o : Int
def Pc.ok (p : Pc) : Prop := 1 ≤ p.o ∧ p.o ≤ 12
def Pc.w (p : Pc) : Str := if p.rail then "rail" else "rung"
def Pc.D (p : Pc) : Ev.D := .tup [.str p.w, .int p.o]
def Pc.m (p : Pc) : Mx := if p.rail then ⟨1, p.o, 0, 1⟩ else ⟨p.o, 0, 1, p.o⟩
theorem Mx.S.mono {j k : Nat} {m : Mx} (h : m.S j) (l : j ≤ k) : m.S k := ⟨h.a.mono l, h.b.mono l, h.c.mono l, h.d.mono l⟩
def one : Mx := ⟨1, 0, 0, 1⟩
theorem isa_int_int (kn : Nat → Bool) (sb : Nat → Nat → Option Bool) (i : Int) : dIsa kn sb (.int i) (.ty .int) = M.pure (.bl true) := rfl
theorem isa_int_bool (kn : Nat → Bool) (sb : Nat → Nat → Option Bool) (i : Int) : dIsa kn sb (.int i) (.ty .bool) = M.pure (.bl false) := rfl
theorem is_integer_ok (i : Int) : sem_is_integer [.int i] = M.pure (.bl true) := by
  refine pure_of fun S => ?_
  unfold sem_is_integer
  rw [run_fn]
  refine ⟨rfl, ?_⟩
  show RunS pk_is_integer.1 [.val (.int i)] S _ _ _ _
  unfold pk_is_integer
  simp only [run_pure, run_bind, run_ite, run_noErr, run_stuck, runS_next, runS_stuck, runS_seq, runS_ret, runS_par, runS_own, runS_for, runS_if, runS_tgt, runS_expr, setT, tupT, consT, getv, on1, on2, toB_bl, add_int, sub_int, cmp_int, int_int, List.getElem?_cons_zero, List.getElem?_cons_succ, List.set_cons_zero, List.set_cons_succ, List.length_cons, List.length_nil, if_true, reduceIte, Nat.reduceAdd, Nat.reduceEqDiff]
  simp only [isa_int_int, isa_int_bool]
  simp only [run_pure, run_bind, run_ite, run_noErr, run_stuck, runS_next, runS_stuck, runS_seq, runS_ret, runS_par, runS_own, runS_for, runS_if, runS_tgt, runS_expr, setT, tupT, consT, getv, on1, on2, toB_bl, add_int, sub_int, cmp_int, int_int, List.getElem?_cons_zero, List.getElem?_cons_succ, List.set_cons_zero, List.set_cons_succ, List.length_cons, List.length_nil, if_true, reduceIte, Nat.reduceAdd, Nat.reduceEqDiff]
  simp
def Row (r : List Pc) : Prop := (∀ p ∈ r, p.ok) ∧ r.length ≤ 8
end K06
set_option maxRecDepth 100000
set_option maxHeartbeats 1000000
namespace K06
open PySem Ev
def pP (p : Pc) : PyData := .tuple [.str p.w, .int p.o]
theorem toPs_row : ∀ r : List Pc, toPs (r.map Pc.D) = some (r.map pP)
  | [] => rfl
  | p :: r => by
    rw [List.map_cons, List.map_cons]
    unfold toPs
    rw [toPs_row r]
    rfl
theorem lay_row : ∀ r : List Pc, PyData.canLayAll0 (r.map pP) = true
  | [] => rfl
  | p :: r => by
    rw [List.map_cons]
    unfold PyData.canLayAll0
    rw [lay_row r, Bool.and_true]
    obtain ⟨b, o⟩ := p
    cases b <;> kernel_rfl
theorem depth_row : ∀ r : List Pc, PyData.depthAll (r.map pP) ≤ 1
  | [] => by decide
  | p :: r => by
    rw [List.map_cons]
    unfold PyData.depthAll
    have a := depth_row r
    have b : PyData.depth (pP p) = 1 := rfl
    omega
theorem none_in (r : List Pc) : dIn false .non (.lst (r.map Pc.D)) = M.pure (.bl false) := by
  have sh : SeqAt.shaped (.list (r.map pP)) = true := by
    unfold SeqAt.shaped
    rw [Bool.and_eq_true]
    refine ⟨?_, decide_eq_true ?_⟩
    · unfold PyData.canLay0
      exact lay_row r
    · unfold PyData.depth
      have := depth_row r
      omega
  have none_ : ((r.map pP).any fun z => PyData.eqv z .none) = false := by
    rw [List.any_eq_false]
    intro z hz
    obtain ⟨p, _, rfl⟩ := List.mem_map.mp hz
    unfold pP
    simp [PyData.eqv]
  unfold dIn
  simp only [toPs_row]
  show (match some PyData.none, some (r.map pP) with
    | some p, some ps => if SeqAt.shaped p = true ∧ SeqAt.shaped (.list ps) = true then M.pure (D.bl (if false = true then !(ps.any fun z => PyData.eqv z p) else ps.any fun z => PyData.eqv z p)) else M.stuck
    | _, _ => M.stuck) = _
  simp only
  rw [if_pos ⟨by decide +kernel, sh⟩, none_]
  rfl
end K06
set_option maxRecDepth 100000
set_option maxHeartbeats 1000000
namespace K06
open PySem Ev
def Cup (S : List Ob) (n : Nat) : Prop := ∃ a b : Int, S[n]? = some (.lst [.int a, .int b]) ∧ Sm 31 a ∧ 0 ≤ b
theorem ix_ref {S : List Ob} {n : Nat} {ds : List D} {i : Int} {d : D} {P : D → List Ob → Prop} (h : S[n]? = some (.lst ds)) (hi : L2.atI ds i = some d) : Ev.Run (dIx (.ref n) (.int i)) S P ↔ P d S := by
  have e : dIx (.ref n) (.int i) S = some (.ok d, S) := by
    show (match S[n]? with
      | some (.lst ds) => (match L2.atI ds i with | some x => (some (Except.ok x, S) : Option (Except Exn D × List Ob)) | none => none)
      | _ => none) = _
    rw [h]
    simp only
    rw [hi]
  unfold Ev.Run
  rw [e]
theorem item_set {S : List Ob} {n i : Nat} {j : Int} {ds : List D} {d : D} {sd : List SV} (h0 : sd[0]? = some (.val (.ref n))) (h : S[n]? = some (.lst ds)) (hi : L2.ixN ds.length j = some i) : itemT (getv 0) (fun _ => M.pure (.int j)) d sd S = some (sd, S.set n (.lst (ds.set i d))) := by
  unfold itemT getv
  rw [h0]
  show (match S[n]? with
    | some (.lst ds) => (match L2.ixN ds.length j with | some i => some (sd, S.set n (.lst (ds.set i d))) | none => none)
    | _ => none) = _
  rw [h]
  simp only
  rw [hi]
theorem set_get {S : List Ob} {n : Nat} {o p : Ob} (h : S[n]? = some o) : (S.set n p)[n]? = some p := List.getElem?_set_self (List.getElem?_eq_some_iff.mp h).1
theorem sip_ok (S : List Ob) (n : Nat) (many : Int) (h : Cup S n) (hm : 0 < many) (hm2 : many ≤ 1000) : Ev.Run (sem__law_sip [.ref n, .int many]) S fun d S' => ∃ r, d = .int r ∧ 0 ≤ r ∧ r < many ∧ Cup S' n := by
  obtain ⟨a, b, hS, ha, hb⟩ := h
  unfold sem__law_sip
  rw [run_fn]
  refine ⟨rfl, ?_⟩
  show RunS pk__law_sip.1 [.val (.ref n), .val (.int many), .no] S _ _ _ _
  unfold pk__law_sip
  simp only [runS_seq, runS_tgt, runS_if, runS_ret, runS_next, run_bind, run_pure, run_ite, getv, List.getElem?_cons_zero, List.getElem?_cons_succ, List.set_cons_zero, List.set_cons_succ, on1, on2]
  rw [ix_ref hS (show L2.atI [D.int a, D.int b] 0 = some (.int a) from rfl)]
  rw [mulS ha (show Sm 20 48271 from ⟨by decide, by decide⟩) (by decide)]
  simp only [run_pure, add_int, int_int, mod_int (show (0 : Int) < 2147483629 by decide)]
  rw [item_set (j := 0) (i := 0) rfl hS rfl]
  have hS1 := set_get (p := .lst [.int ((a * 48271 + 11) % 2147483629), .int b]) hS
  simp only [List.getElem?_cons_zero, List.getElem?_cons_succ, run_pure, List.set_cons_zero, List.set_cons_succ]
  rw [ix_ref hS1 (show L2.atI [D.int ((a * 48271 + 11) % 2147483629), D.int b] 1 = some (.int b) from rfl)]
  have s1 : Sm 31 ((a * 48271 + 11) % 2147483629) := ⟨Int.emod_nonneg _ (by decide), Int.lt_trans (Int.emod_lt_of_pos _ (by decide)) (by decide)⟩
  simp only [cmp_int, run_pure, toB_bl]
  by_cases b0 : 0 < b
  · rw [if_pos (decide_eq_true b0)]
    rw [ix_ref hS1 (show L2.atI [D.int ((a * 48271 + 11) % 2147483629), D.int b] 1 = some (.int b) from rfl)]
    have dm : dDivmod (.int b) (.int many) = M.pure (.tup [.int (b / many), .int (b % many)]) := by
      show (if divmOk b many = true then M.pure (D.tup [.int (b / many), .int (b % many)]) else M.stuck) = _
      rw [if_pos]
      unfold divmOk
      rw [Bool.and_eq_true]
      refine ⟨decide_eq_true hm, ?_⟩
      rw [PyProof.noPylong_small (by omega)]
      rfl
    rw [dm]
    simp only [run_pure, tupT, consT, List.length_cons, List.length_nil, Nat.reduceAdd, if_true]
    rw [item_set (j := 1) (i := 1) rfl hS1 rfl]
    simp only [setT, List.set_cons_zero, List.set_cons_succ, List.getElem?_cons_zero, List.getElem?_cons_succ, run_pure]
    refine ⟨b % many, rfl, Int.emod_nonneg _ (by omega), Int.emod_lt_of_pos _ hm, _, _, set_get hS1, s1, Int.ediv_nonneg hb (by omega)⟩
  · rw [if_neg (by simpa using b0)]
    rw [ix_ref hS1 (show L2.atI [D.int ((a * 48271 + 11) % 2147483629), D.int b] 0 = some (.int _) from rfl)]
    rw [fdiv_int (show divOk 1021 = true by decide +kernel)]
    simp only [run_pure, int_int, mod_int hm]
    exact ⟨_, rfl, Int.emod_nonneg _ (by omega), Int.emod_lt_of_pos _ hm, _, _, hS1, s1, hb⟩
end K06
set_option maxRecDepth 100000
set_option maxHeartbeats 1000000
namespace K06
open PySem Ev
theorem ix_scr {ds : List D} {i : Int} {d : D} (h : L2.atI ds i = some d) : dIx (.scr ds) (.int i) = M.pure d := by
  funext S
  show (match L2.atI ds i with | some x => (some (Except.ok x, S) : Option (Except Exn D × List Ob)) | none => none) = _
  rw [h]
  rfl
theorem slice2 (ns : List Int) : dSl (.scr (ns.map D.int)) none (some 2) = M.pure (.lst ((ns.take 2).map D.int)) := by
  show M.pure (D.lst (cutD (ns.map D.int) none (some 2))) = _
  unfold cutD HT.sIx
  simp only [show ¬((2 : Int) < 0) by decide, if_false, List.drop_zero, Nat.sub_zero, List.length_map]
  rw [List.map_take]
  congr 2
  show List.take (min 2 ns.length) _ = _
  rw [← List.length_map (f := D.int), List.take_eq_take_iff]
  omega
theorem cup_ok (S : List Ob) (ns : List Int) (spot : Int) (h0 : 0 ≤ spot) (h1 : spot < 100) (hb : ∀ z ∈ ns, Builtin.Int.intBits z ≤ 1048576) : Wp (sem__law_cup [.scr (ns.map D.int), .int spot]) S fun d S' => d = .ref S.length ∧ Cup S' S.length := by
  have hB : ∀ z ∈ ns, Bd 1048576 z := fun z hz => bd_bits (hb z hz)
  (unfold sem__law_cup; refine Ev.go_fn rfl ?_; unfold pk__law_cup; simp only [Ev.slots, List.map_cons, List.map_nil, List.length_cons, List.length_nil, List.cons_append, List.nil_append, List.replicate, Nat.reduceSub, Nat.reduceAdd])
  refine gs_seq (gs_asg (go_use (P' := fun d S' => S' = S ∧ ∃ z, d = .int z ∧ Bd 1048576 z ∧ ((ns.length : Int) ≤ spot → 0 ≤ z ∧ z < 1000000000)) ?_ ?_))
  · (repeat regstrif_gather)
    simp only [List.length_map]
    refine ite_d (fun c => ?_) (fun c => ?_)
    · (repeat regstrif_gather)
      obtain ⟨m, rfl⟩ : ∃ m : Nat, spot = m := ⟨spot.toNat, by omega⟩
      have hm : m < ns.length := by omega
      refine go_val (r := .int ns[m]) (ix_scr (L2.atI_nat (by rw [List.getElem?_map, List.getElem?_eq_getElem hm]; rfl))) ?_
      exact ⟨rfl, _, rfl, hB _ (List.getElem_mem hm), fun z => by omega⟩
    · (repeat regstrif_gather)
      exact ⟨rfl, _, rfl, (Bd.of64 (by omega) (by omega)).mono (by decide), fun z => by omega⟩
  · rintro d S' ⟨rfl, z, rfl, bz, cz⟩
    refine gs_seq (gs_for (go_use (P' := fun l S2 => S2 = S' ∧ ∃ zs : List Int, l = zs.map D.int ∧ (∀ z ∈ zs, Bd 1048576 z) ∧ (spot < (ns.length : Int) → zs = [])) ?_ ?_))
    · (repeat regstrif_gather)
      simp only [List.length_map]
      refine ite_d (fun c => ?_) (fun c => ?_)
      · (repeat regstrif_gather)
        rw [slice2]
        (repeat regstrif_gather)
        exact ⟨rfl, _, rfl, fun z hz => hB z (List.mem_of_mem_take hz), fun z => by omega⟩
      · (repeat regstrif_gather)
        exact ⟨rfl, [], rfl, fun z hz => (List.not_mem_nil hz).elim, fun _ => rfl⟩
    · rintro l S2 ⟨rfl, zs, rfl, hz, hz0⟩
      refine gs_loop (J := fun ds sd S' => S' = S2 ∧ ∃ (ys : List Int) (u : SV) (z : Int), ds = ys.map D.int ∧ sd = [.val (.scr (ns.map D.int)), .val (.int spot), .val (.int z), u] ∧ (∀ z ∈ ys, Bd 1048576 z) ∧ (spot < (ns.length : Int) → ys = []) ∧ Bd 1048576 z ∧ ((ns.length : Int) ≤ spot → 0 ≤ z ∧ z < 1000000007)) ?_ ?_ _ _ _ ⟨rfl, zs, _, z, rfl, rfl, hz, hz0, bz, fun c => by have := cz c; omega⟩
      · rintro d ds sd S3 ⟨rfl, ys, u, z, e, rfl, hy, hy0, bz, cz⟩
        rcases ys with _ | ⟨y, ys⟩
        · cases e
        cases e
        have c : (ns.length : Int) ≤ spot := by
          by_cases c : (ns.length : Int) ≤ spot
          · exact c
          · exact absurd (hy0 (by omega)) (by simp)
        have := cz c
        refine ⟨_, _, rfl, ?_⟩
        (repeat regstrif_gather)
        have a := Int.emod_nonneg (z * 31 + y) (show (1000000007 : Int) ≠ 0 by decide)
        have b := Int.emod_lt_of_pos (z * 31 + y) (show (0 : Int) < 1000000007 by decide)
        exact ⟨rfl, ys, _, _, rfl, rfl, fun q hq => hy q (List.mem_cons_of_mem _ hq), fun z => by omega, (Bd.of64 (by omega) (by omega)).mono (by decide), fun _ => ⟨a, b⟩⟩
      · rintro sd S3 ⟨rfl, ys, u, z, e, rfl, hy, hy0, bz, cz⟩
        have p18 : dPow (.int 10) (.int 18) = M.pure (.int 1000000000000000000) := by funext S; kernel_rfl
        have b4 : Bd 13 (4099 : Int) := by unfold Bd; decide
        (repeat regstrif_gather)
        have a := Int.emod_nonneg (z * 4099 + 271 * spot + 17) (show (2147483629 : Int) ≠ 0 by decide)
        have b := Int.emod_lt_of_pos (z * 4099 + 271 * spot + 17) (show (0 : Int) < 2147483629 by decide)
        have fin : ∀ w : Int, 0 ≤ w → D.ref S3.length = D.ref S3.length ∧ Cup (S3 ++ [.lst [.int ((z * 4099 + 271 * spot + 17) % 2147483629), .int w]]) S3.length := fun w hw => ⟨rfl, _, _, List.getElem?_concat_length, ⟨a, Int.lt_trans b (by decide)⟩, hw⟩
        refine ite_d (fun c => ?_) (fun c => ?_)
        · (repeat regstrif_gather)
          exact fin _ (by omega)
        · (repeat regstrif_gather)
          rw [p18]
          (repeat regstrif_gather)
          refine ite_d (fun c => ?_) (fun c => ?_)
          · (repeat regstrif_gather)
            exact fin _ (by omega)
          · (repeat regstrif_gather)
            exact fin 0 (by omega)
end K06
set_option maxRecDepth 100000
set_option maxHeartbeats 1000000
namespace K06
open PySem Ev
def RowN (r : List Pc) : Prop := (∀ p ∈ r, p.ok) ∧ 1 ≤ r.length ∧ r.length ≤ 8
theorem RowN.row {r : List Pc} (h : RowN r) : Row r := ⟨h.1, h.2.2⟩
theorem sip_wp {S : List Ob} {n : Nat} {many : Int} {P : D → List Ob → Prop} (h : Cup S n) (hm : 0 < many) (hm2 : many ≤ 1000) (q : ∀ r S', 0 ≤ r → r < many → Cup S' n → P (.int r) S') : Wp (sem__law_sip [.ref n, .int many]) S P :=
  ((sip_ok S n many h hm hm2).mono fun d S' z => by obtain ⟨r, rfl, a, b, c⟩ := z; exact q r S' a b c).wp
end K06
set_option maxRecDepth 100000
set_option maxHeartbeats 2000000
namespace K06
open PySem Ev
abbrev St := Int × Option Int
def Can : Int → List St → Prop
  | _, [] => True
  | b, (f, none) :: r => b ≤ f ∧ r = []
  | b, (f, some l) :: r => b ≤ f ∧ f ≤ l ∧ Can (l + 2) r
def inS (n : Int) : St → Bool
  | (f, none) => decide (f ≤ n)
  | (f, some l) => decide (f ≤ n) && decide (n ≤ l)
def mem (R : List St) (n : Int) : Bool := R.any (inS n)
theorem mem_low : ∀ {b : Int} {R : List St} {n : Int}, Can b R → mem R n = true → b ≤ n
  | b, [], n, _, m => by cases m
  | b, (f, none) :: r, n, k, m => by
    obtain ⟨k1, rfl⟩ := k
    unfold mem at m
    simp only [List.any_cons, List.any_nil, Bool.or_false, inS, decide_eq_true_eq] at m
    omega
  | b, (f, some l) :: r, n, k, m => by
    obtain ⟨k1, k2, k3⟩ := k
    unfold mem at m
    rw [List.any_cons, Bool.or_eq_true] at m
    rcases m with m | m
    · simp only [inS, Bool.and_eq_true, decide_eq_true_eq] at m
      omega
    · have := mem_low k3 m
      omega
theorem mem_cons (s : St) (R : List St) (n : Int) : mem (s :: R) n = (inS n s || mem R n) := rfl
def edges : List St → List Int
  | [] => []
  | (f, none) :: r => f :: edges r
  | (f, some l) :: r => f :: (l + 1) :: edges r
def odd (l : List Int) (n : Int) : Bool := (l.filter fun e => decide (e ≤ n)).length % 2 == 1
def Asc : Int → List Int → Prop
  | _, [] => True
  | b, e :: r => b ≤ e ∧ Asc (e + 1) r
theorem asc_mono {b c : Int} (h : c ≤ b) : ∀ {l : List Int}, Asc b l → Asc c l
  | [], _ => trivial
  | _ :: _, k => ⟨Int.le_trans h k.1, k.2⟩
theorem edges_asc : ∀ {b : Int} {R : List St}, Can b R → Asc b (edges R)
  | _, [], _ => trivial
  | b, (f, none) :: r, k => by
    obtain ⟨k1, rfl⟩ := k
    exact ⟨k1, trivial⟩
  | b, (f, some l) :: r, k => by
    obtain ⟨k1, k2, k3⟩ := k
    exact ⟨k1, by show f + 1 ≤ l + 1; omega, asc_mono (by omega) (edges_asc k3)⟩
theorem asc_none : ∀ {b : Int} {l : List Int} {n : Int}, Asc b l → n < b → l.filter (fun e => decide (e ≤ n)) = []
  | _, [], _, _, _ => rfl
  | b, e :: r, n, k, h => by
    have k1 := k.1
    rw [List.filter_cons_of_neg (by simp only [decide_eq_true_eq]; omega)]
    exact asc_none k.2 (by omega)
theorem odd_cons (e : Int) (l : List Int) (n : Int) : odd (e :: l) n = (decide (e ≤ n) != odd l n) := by
  unfold odd
  by_cases h : e ≤ n
  · rw [List.filter_cons_of_pos (by simpa using h), List.length_cons, decide_eq_true h]
    generalize (l.filter fun e => decide (e ≤ n)).length = k
    rcases Nat.mod_two_eq_zero_or_one k with z | z
    · rw [z, show (k + 1) % 2 = 1 by omega]; rfl
    · rw [z, show (k + 1) % 2 = 0 by omega]; rfl
  · rw [List.filter_cons_of_neg (by simpa using h), decide_eq_false h, Bool.false_bne]
theorem odd_nil (n : Int) : odd [] n = false := rfl
theorem odd_low {b : Int} {l : List Int} {n : Int} (k : Asc b l) (h : n < b) : odd l n = false := by
  unfold odd
  rw [asc_none k h]
  rfl
theorem odd_mem : ∀ {b : Int} {R : List St} {n : Int}, Can b R → odd (edges R) n = mem R n
  | _, [], _, _ => rfl
  | b, (f, none) :: r, n, k => by
    obtain ⟨k1, rfl⟩ := k
    show odd [f] n = _
    rw [odd_cons, odd_nil, mem_cons]
    simp [inS, mem]
  | b, (f, some l) :: r, n, k => by
    obtain ⟨k1, k2, k3⟩ := k
    show odd (f :: (l + 1) :: edges r) n = _
    rw [odd_cons, odd_cons, mem_cons]
    have ih := odd_mem (n := n) k3
    by_cases h1 : f ≤ n
    · by_cases h2 : n ≤ l
      · rw [odd_low (edges_asc k3) (by omega), decide_eq_true h1, decide_eq_false (show ¬ l + 1 ≤ n by omega)]
        simp [inS, h1, h2]
      · rw [decide_eq_true h1, decide_eq_true (show l + 1 ≤ n by omega), ih]
        have : inS n (f, some l) = false := by simp [inS, h2]
        rw [this]
        simp
    · rw [odd_low (edges_asc k3) (by omega), decide_eq_false h1, decide_eq_false (show ¬ l + 1 ≤ n by omega)]
      have : mem r n = false := by
        rcases hm : mem r n with _ | _
        · rfl
        · have := mem_low k3 hm
          omega
      rw [this]
      simp [inS, h1]
theorem mem_neg {R : List St} (h : Can 0 R) {n : Int} (hn : ¬ 0 ≤ n) : mem R n = false := by
  rcases hm : mem R n with _ | _
  · rfl
  · exact absurd (mem_low h hm) hn
end K06
set_option maxRecDepth 100000
set_option maxHeartbeats 2000000
namespace K06
open PySem Ev
def stD : St → D
  | (f, none) => .tup [.int f, .non]
  | (f, some l) => .tup [.int f, .int l]
def rowS (R : List St) : D := .tup (R.map stD)
def setD (R : List St) : D := .ins 3 [rowS R]
def intsL (l : List Int) : D := .lst (l.map D.int)
theorem isint_i (i : Int) : sem_is_integer [.int i] = M.pure (.bl true) := by funext S; rfl
theorem go_filter {α : Type} {f g : α → D} {p : α → Bool} {t : TgP} {tt : List SV → M Bool} {fe : List SV → M D} {sdw : List SV} {S : List Ob} {P : List D → List Ob → Prop} (xs : List α)
    (step : ∀ x ∈ xs, ∃ sd1, t (f x) sdw = some sd1 ∧ tt sd1 = M.pure (p x) ∧ (p x = true → fe sd1 = M.pure (g x))) (l : xs.length ≤ lim) (h : P ((xs.filter p).map g) S) : Wp (compS t tt fe sdw (xs.map f) []) S P := by
  refine go_comp (J := fun ds acc S' => S' = S ∧ ∃ ys : List α, ds = ys.map f ∧ (∀ y ∈ ys, y ∈ xs) ∧ acc.length + ys.length ≤ lim ∧ acc ++ (ys.filter p).map g = (xs.filter p).map g) ?_ ?_ _ _ _ ⟨rfl, xs, rfl, fun _ h => h, by simpa using l, rfl⟩
  · rintro d ds acc S' ⟨rfl, ys, e, hm, hl, he⟩
    rcases ys with _ | ⟨y, ys⟩
    · cases e
    rw [List.map_cons] at e
    cases e
    obtain ⟨sd1, e1, e2, e3⟩ := step y (hm y List.mem_cons_self)
    rw [List.length_cons] at hl
    refine ⟨sd1, e1, by omega, go_val e2 ?_⟩
    cases hp : p y with
    | false =>
      rw [if_neg (by simp)]
      rw [List.filter_cons_of_neg (by simp [hp])] at he
      exact ⟨rfl, ys, rfl, fun z hz => hm z (List.mem_cons_of_mem _ hz), by omega, he⟩
    | true =>
      rw [if_pos rfl]
      rw [List.filter_cons_of_pos hp, List.map_cons] at he
      refine go_val (e3 hp) ⟨rfl, ys, rfl, fun z hz => hm z (List.mem_cons_of_mem _ hz), ?_, ?_⟩
      · rw [List.length_append, List.length_singleton]; omega
      · rw [List.append_assoc]; exact he
  · rintro acc S' ⟨rfl, ys, e, hm, hl, he⟩
    rcases ys with _ | ⟨y, ys⟩
    · rw [← he] at h
      simpa using h
    · cases e
theorem go_map {f : D → D} {t : TgP} {fe : List SV → M D} {tt : List SV → M Bool} {sdw : List SV} {S : List Ob} {P : List D → List Ob → Prop} (ds : List D) (step : ∀ x ∈ ds, ∃ sd1, t x sdw = some sd1 ∧ tt sd1 = M.pure true ∧ fe sd1 = M.pure (f x)) (l : ds.length ≤ lim) (h : P (ds.map f) S) : Wp (compS t tt fe sdw ds []) S P := by
  have e := go_filter (α := D) (f := id) (g := f) (p := fun _ => true) (t := t) (tt := tt) (fe := fe) (sdw := sdw) (S := S) (P := P) ds (fun x hx => by
    obtain ⟨sd1, a, b, c⟩ := step x hx
    exact ⟨sd1, a, b, fun _ => c⟩) l (by rw [List.filter_eq_self.mpr fun _ _ => rfl]; exact h)
  rw [List.map_id] at e
  exact e
theorem edges_app : ∀ (A B : List St), edges (A ++ B) = edges A ++ edges B
  | [], _ => rfl
  | (f, none) :: r, B => by
    show f :: edges (r ++ B) = f :: (edges r ++ edges B)
    rw [edges_app r B]
  | (f, some l) :: r, B => by
    show f :: (l + 1) :: edges (r ++ B) = f :: (l + 1) :: (edges r ++ edges B)
    rw [edges_app r B]
theorem edges_len : ∀ R : List St, (edges R).length ≤ 2 * R.length
  | [] => Nat.le_refl _
  | (f, none) :: r => by
    have := edges_len r
    show (edges r).length + 1 ≤ 2 * (r.length + 1)
    omega
  | (f, some l) :: r => by
    have := edges_len r
    show (edges r).length + 1 + 1 ≤ 2 * (r.length + 1)
    omega
theorem edges_ok (R : List St) (h : R.length ≤ 100) : sem_edges_of [rowS R] = M.pure (intsL (edges R)) := by
  refine pure_wp fun S => ?_
  (unfold sem_edges_of; refine Ev.go_fn rfl ?_; unfold pk_edges_of; simp only [Ev.slots, List.map_cons, List.map_nil, List.length_cons, List.length_nil, List.cons_append, List.nil_append, List.replicate, Nat.reduceSub, Nat.reduceAdd])
  (repeat regstrif_gather)
  refine go_val (r := R.map stD) rfl ?_
  refine gs_each (f := stD) (J := fun ks sd S' => S' = S ∧ ∃ (u v : SV) (A : List St), R = A ++ ks ∧ sd = [.val (rowS R), .own (.lst ((edges A).map D.int)), u, v]) ?_ ?_ _ _ _ ⟨rfl, _, _, [], rfl, rfl⟩
  · rintro x ks sd S' ⟨rfl, u, v, A, e, rfl⟩
    have hl : A.length ≤ 100 := by
      have := congrArg List.length e
      rw [List.length_append] at this
      omega
    have el := edges_len A
    have e2 : R = (A ++ [x]) ++ ks := by rw [e, List.append_assoc]; rfl
    obtain ⟨f, l⟩ := x
    cases l with
    | none =>
      show Tg _ (.tup [.int f, .non]) _ _ _
      (repeat regstrif_gather)
      refine ⟨rfl, .val (.int f), .val .non, _, e2, ?_⟩
      rw [edges_app, List.map_append]
      rfl
    | some l =>
      show Tg _ (.tup [.int f, .int l]) _ _ _
      (repeat regstrif_gather)
      refine ⟨rfl, .val (.int f), .val (.int l), _, e2, ?_⟩
      rw [edges_app, List.map_append, List.append_assoc]
      rfl
  · rintro sd S' ⟨rfl, u, v, A, e, rfl⟩
    rw [List.append_nil] at e
    subst e
    (repeat regstrif_gather)
    exact ⟨rfl, rfl⟩
theorem has_ok (l : List Int) (n : Int) (h : l.length ≤ 1000) : sem_has [intsL l, .int n] = M.pure (.bl (odd l n)) := by
  refine pure_wp fun S => ?_
  (unfold sem_has; refine Ev.go_fn rfl ?_; unfold pk_has; simp only [Ev.slots, List.map_cons, List.map_nil, List.length_cons, List.length_nil, List.cons_append, List.nil_append, List.replicate, Nat.reduceSub, Nat.reduceAdd])
  (repeat regstrif_gather)
  refine go_val (r := l.map D.int) rfl ?_
  refine go_filter (f := D.int) (g := D.int) (p := fun e => decide (e ≤ n)) l (fun e he => ⟨_, rfl, ?_, fun _ => ?_⟩) (by unfold lim; omega) ?_
  · rfl
  · rfl
  (repeat regstrif_gather)
  refine ⟨?_, rfl⟩
  unfold odd
  rw [List.length_map]
  congr 1
  generalize (l.filter fun e => decide (e ≤ n)).length = k
  rcases Nat.mod_two_eq_zero_or_one k with z | z
  · rw [z, decide_eq_false (by omega)]
    rfl
  · rw [z, decide_eq_true (by omega)]
    rfl
theorem is_stretch_ok (f b : Int) (l : Option Int) (h : b ≤ f) (k : ∀ m, l = some m → f ≤ m) : sem_is_stretch [stD (f, l), .int b] = M.pure (.bl true) := by
  refine pure_wp fun S => ?_
  cases l with
  | none =>
    show Wp (sem_is_stretch [.tup [.int f, .non], .int b]) S _
    (unfold sem_is_stretch; refine Ev.go_fn rfl ?_; unfold pk_is_stretch; simp only [Ev.slots, List.map_cons, List.map_nil, List.length_cons, List.length_nil, List.cons_append, List.nil_append, List.replicate, Nat.reduceSub, Nat.reduceAdd])
    (repeat regstrif_gather)
    refine go_val (r := .bl true) rfl ?_
    (repeat regstrif_gather)
    rw [isint_i]
    (repeat regstrif_gather)
    exact ⟨rfl, rfl⟩
  | some m =>
    have := k m rfl
    show Wp (sem_is_stretch [.tup [.int f, .int m], .int b]) S _
    (unfold sem_is_stretch; refine Ev.go_fn rfl ?_; unfold pk_is_stretch; simp only [Ev.slots, List.map_cons, List.map_nil, List.length_cons, List.length_nil, List.cons_append, List.nil_append, List.replicate, Nat.reduceSub, Nat.reduceAdd])
    (repeat regstrif_gather)
    refine go_val (r := .bl true) rfl ?_
    (repeat regstrif_gather)
    rw [isint_i]
    (repeat regstrif_gather)
    rw [isint_i]
    (repeat regstrif_gather)
    rw [decide_eq_true this]
    exact ⟨rfl, rfl⟩
theorem numbered_map {α : Type} (g : α → D) : ∀ (n : Nat) (x : α) (xs : List α), numbered n ((x :: xs).map g) = .tup [.int (n : Nat), g x] :: numbered (n + 1) (xs.map g) := fun _ _ _ => rfl
theorem check_ok (R : List St) (h : Can 0 R) : sem_check_stretches [rowS R] = M.pure .non := by
  refine pure_wp fun S => ?_
  (unfold sem_check_stretches; refine Ev.go_fn rfl ?_; unfold pk_check_stretches; simp only [Ev.slots, List.map_cons, List.map_nil, List.length_cons, List.length_nil, List.cons_append, List.nil_append, List.replicate, Nat.reduceSub, Nat.reduceAdd])
  (repeat regstrif_gather)
  refine go_val (r := numbered 0 (R.map stD)) rfl ?_
  refine gs_loop (J := fun ds sd S' => S' = S ∧ ∃ (n : Nat) (u v : SV) (ks : List St) (b : D), ds = numbered n (ks.map stD) ∧ sd = [.val (rowS R), .val b, u, v] ∧ (ks = [] ∨ ∃ i : Int, b = .int i ∧ Can i ks)) ?_ ?_ _ _ _ ⟨rfl, 0, _, _, R, _, rfl, rfl, .inr ⟨0, rfl, h⟩⟩
  · rintro d ds sd S' ⟨rfl, n, u, v, ks, b, e, rfl, hb⟩
    rcases ks with _ | ⟨x, ks⟩
    · cases e
    rw [numbered_map] at e
    cases e
    rcases hb with hb | ⟨i, rfl, hb⟩
    · cases hb
    obtain ⟨f, l⟩ := x
    refine ⟨_, _, rfl, ?_⟩
    (repeat regstrif_gather)
    rw [is_stretch_ok f i l (by cases l with | none => exact hb.1 | some l => exact hb.1) (fun m e => by subst e; exact hb.2.1)]
    (repeat regstrif_gather)
    cases l with
    | none =>
      obtain ⟨h1, rfl⟩ := hb
      show Wp (dIx (.tup [.int f, .non]) (.int 1)) _ _
      (repeat regstrif_gather)
      exact ⟨rfl, n + 1, _, _, [], _, rfl, rfl, .inl rfl⟩
    | some l =>
      show Wp (dIx (.tup [.int f, .int l]) (.int 1)) _ _
      (repeat regstrif_gather)
      show Wp (dIx (.tup [.int f, .int l]) (.int 1)) _ _
      (repeat regstrif_gather)
      exact ⟨rfl, n + 1, _, _, ks, _, rfl, rfl, .inr ⟨_, rfl, hb.2.2⟩⟩
  · rintro sd S' ⟨rfl, n, u, v, ks, b, e, rfl, hb⟩
    (repeat regstrif_gather)
    exact ⟨trivial, rfl⟩
theorem init_ok (R : List St) (h : Can 0 R) (hl : R.length ≤ 100) : sem_NumbersX_initX (R.map stD) = M.pure (setD R) := by
  refine pure_wp fun S => ?_
  unfold sem_NumbersX_initX mkStar
  rw [if_pos (by rw [List.length_map]; unfold lim; omega)]
  refine go_mk rfl ?_
  show Ws pk_NumbersX_initX.1 [.own (.ins 3 []), .val (rowS R), .no, .no] S _ _ _ _
  unfold pk_NumbersX_initX
  (repeat regstrif_gather)
  rw [check_ok R h]
  (repeat regstrif_gather)
  refine gs_setF rfl rfl ?_
  (repeat regstrif_gather)
  refine go_val (r := R.map stD) rfl ?_
  refine go_map (f := id) (R.map stD) (fun x hx => ?_) (by rw [List.length_map]; unfold lim; omega) ?_
  · obtain ⟨⟨f, l⟩, _, rfl⟩ := List.mem_map.mp hx
    cases l with
    | none => exact ⟨_, rfl, rfl, rfl⟩
    | some l => exact ⟨_, rfl, rfl, rfl⟩
  rw [List.map_id]
  (repeat regstrif_gather)
  refine go_val (r := .tup (R.map stD)) rfl ?_
  refine ⟨_, rfl, ?_⟩
  (repeat regstrif_gather)
  exact ⟨_, rfl, rfl, rfl⟩
end K06
set_option maxRecDepth 100000
set_option maxHeartbeats 2000000
namespace K06
open PySem Ev
structure Ok (R : List St) : Prop where
  c : Can 0 R
  l : R.length ≤ 20
theorem has_edges {R : List St} (h : Ok R) (n : Int) : sem_NumbersX_containsX [setD R, .int n] = M.pure (.bl (mem R n)) := by
  refine pure_wp fun S => ?_
  have el := edges_len R
  have hl := h.l
  unfold setD
  (unfold sem_NumbersX_containsX; refine Ev.go_fn rfl ?_; unfold pk_NumbersX_containsX; simp only [Ev.slots, List.map_cons, List.map_nil, List.length_cons, List.length_nil, List.cons_append, List.nil_append, List.replicate, Nat.reduceSub, Nat.reduceAdd])
  (repeat regstrif_gather)
  rw [isint_i]
  (repeat regstrif_gather)
  refine go_val (r := rowS R) rfl ?_
  (repeat regstrif_gather)
  rw [edges_ok R (by omega)]
  (repeat regstrif_gather)
  rw [has_ok _ n (by omega), odd_mem h.c]
  (repeat regstrif_gather)
  exact ⟨rfl, rfl⟩
def stP : St → PyData
  | (f, none) => .tuple [.int f, .none]
  | (f, some l) => .tuple [.int f, .int l]
theorem toPs_st : ∀ R : List St, toPs (R.map stD) = some (R.map stP)
  | [] => rfl
  | (f, none) :: r => by
    rw [List.map_cons, List.map_cons]
    unfold toPs
    rw [toPs_st r]
    rfl
  | (f, some l) :: r => by
    rw [List.map_cons, List.map_cons]
    unfold toPs
    rw [toPs_st r]
    rfl
theorem lay_st : ∀ R : List St, PyData.canLayAll0 (R.map stP) = true
  | [] => rfl
  | (f, none) :: r => by
    rw [List.map_cons]
    unfold PyData.canLayAll0
    rw [lay_st r, Bool.and_true]
    kernel_rfl
  | (f, some l) :: r => by
    rw [List.map_cons]
    unfold PyData.canLayAll0
    rw [lay_st r, Bool.and_true]
    kernel_rfl
theorem depth_st : ∀ R : List St, PyData.depthAll (R.map stP) ≤ 1
  | [] => by decide
  | (f, none) :: r => by
    rw [List.map_cons]
    unfold PyData.depthAll
    have a := depth_st r
    have b : PyData.depth (stP (f, none)) = 1 := rfl
    omega
  | (f, some l) :: r => by
    rw [List.map_cons]
    unfold PyData.depthAll
    have a := depth_st r
    have b : PyData.depth (stP (f, some l)) = 1 := rfl
    omega
theorem eqv_st : ∀ A B : List St, PyData.eqvAll (A.map stP) (B.map stP) = decide (A = B)
  | [], [] => by simp [PyData.eqvAll]
  | [], b :: B => by simp [PyData.eqvAll]
  | a :: A, [] => by simp [PyData.eqvAll]
  | (f, l) :: A, (g, m) :: B => by
    rw [List.map_cons, List.map_cons]
    unfold PyData.eqvAll
    rw [eqv_st A B]
    rcases l with _ | l <;> rcases m with _ | m <;> simp [stP, PyData.eqv, PyData.eqvAll]
    · by_cases h : f = g <;> by_cases k : A = B <;> simp [h, k]
    · by_cases h : f = g <;> by_cases k : A = B <;> by_cases q : l = m <;> simp [h, k, q]
theorem shaped_st (R : List St) : SeqAt.shaped (.tuple (R.map stP)) = true := by
  unfold SeqAt.shaped
  rw [Bool.and_eq_true]
  refine ⟨?_, decide_eq_true ?_⟩
  · unfold PyData.canLay0
    exact lay_st R
  · unfold PyData.depth
    have := depth_st R
    omega
theorem rows_eq (neg : Bool) (A B : List St) : dEq neg (rowS A) (rowS B) = M.pure (.bl (if neg then !decide (A = B) else decide (A = B))) := by
  have ta : ∀ R : List St, toP (rowS R) = some (.tuple (R.map stP)) := fun R => by
    unfold rowS toP
    rw [toPs_st]
    rfl
  have e : dEq neg (rowS A) (rowS B) = (match toP (rowS A), toP (rowS B) with
    | some p, some q => if SeqAt.shaped p = true ∧ SeqAt.shaped q = true then M.pure (.bl (if neg then !PyData.eqv p q else PyData.eqv p q)) else M.stuck
    | _, _ => M.stuck) := rfl
  rw [e, ta, ta]
  simp only
  rw [if_pos ⟨shaped_st A, shaped_st B⟩]
  have q : PyData.eqv (.tuple (A.map stP)) (.tuple (B.map stP)) = decide (A = B) := by
    unfold PyData.eqv
    exact eqv_st A B
  rw [q]
theorem eq_ok {A B : List St} : sem_NumbersX_eqX [setD A, setD B] = M.pure (.bl (decide (A = B))) := by
  refine pure_wp fun S => ?_
  unfold setD
  (unfold sem_NumbersX_eqX; refine Ev.go_fn rfl ?_; unfold pk_NumbersX_eqX; simp only [Ev.slots, List.map_cons, List.map_nil, List.length_cons, List.length_nil, List.cons_append, List.nil_append, List.replicate, Nat.reduceSub, Nat.reduceAdd])
  (repeat regstrif_gather)
  refine go_val (r := .bl true) rfl ?_
  (repeat regstrif_gather)
  refine go_val (r := rowS A) rfl ?_
  (repeat regstrif_gather)
  refine go_val (r := rowS B) rfl ?_
  rw [rows_eq]
  (repeat regstrif_gather)
  exact ⟨rfl, rfl⟩
theorem stretches_ok {A : List St} : sem_Numbers_stretches [setD A] = M.pure (rowS A) := by
  refine pure_wp fun S => ?_
  unfold setD
  (unfold sem_Numbers_stretches; refine Ev.go_fn rfl ?_; unfold pk_Numbers_stretches; simp only [Ev.slots, List.map_cons, List.map_nil, List.length_cons, List.length_nil, List.cons_append, List.nil_append, List.replicate, Nat.reduceSub, Nat.reduceAdd])
  (repeat regstrif_gather)
  exact go_val (r := rowS A) rfl ⟨rfl, rfl⟩
end K06
set_option maxRecDepth 100000
set_option maxHeartbeats 2000000
namespace K06
open PySem Ev
theorem pick_wp {S : List Ob} {n : Nat} {ds : List D} {P : D → List Ob → Prop} (h : Cup S n) (h0 : 0 < ds.length) (hl : ds.length ≤ 1000) (q : ∀ d S', d ∈ ds → Cup S' n → P d S') : Wp (sem__law_pick [.ref n, .lst ds]) S P := by
  (unfold sem__law_pick; refine Ev.go_fn rfl ?_; unfold pk__law_pick; simp only [Ev.slots, List.map_cons, List.map_nil, List.length_cons, List.length_nil, List.cons_append, List.nil_append, List.replicate, Nat.reduceSub, Nat.reduceAdd])
  (repeat regstrif_gather)
  refine sip_wp h (by omega) (by omega) fun r S' r0 r1 hc => ?_
  obtain ⟨m, rfl⟩ : ∃ m : Nat, r = m := ⟨r.toNat, by omega⟩
  have hm : m < ds.length := by omega
  refine go_val (r := ds[m]) ?_ (q _ _ (List.getElem_mem hm) hc)
  funext S
  show (match L2.atI ds (m : Int) with | some x => (some (Except.ok x, S) : Option (Except Exn D × List Ob)) | none => none) = _
  rw [L2.atI_nat (List.getElem?_eq_getElem hm)]
  rfl
def Seg : Int → List St → Int → Prop
  | b, [], p => b ≤ p
  | b, (f, some l) :: r, p => b ≤ f ∧ f ≤ l ∧ Seg (l + 2) r p
  | _, (_, none) :: _, _ => False
theorem seg_snoc : ∀ {b : Int} {A : List St} {p l q : Int}, Seg b A p → p ≤ l → l + 2 ≤ q → Seg b (A ++ [(p, some l)]) q
  | b, [], p, l, q, h, h1, h2 => ⟨h, h1, h2⟩
  | b, (f, some m) :: r, p, l, q, h, h1, h2 => ⟨h.1, h.2.1, seg_snoc h.2.2 h1 h2⟩
  | _, (_, none) :: _, _, _, _, h, _, _ => h.elim
theorem seg_can : ∀ {b : Int} {A : List St} {p : Int}, Seg b A p → Can b A
  | _, [], _, _ => trivial
  | b, (f, some m) :: r, p, h => ⟨h.1, h.2.1, seg_can h.2.2⟩
  | _, (_, none) :: _, _, h => h.elim
theorem seg_open : ∀ {b : Int} {A : List St} {f l p : Int}, Seg b (A ++ [(f, some l)]) p → Can b (A ++ [(f, none)])
  | b, [], f, l, p, h => ⟨h.1, rfl⟩
  | b, (g, some m) :: r, f, l, p, h => ⟨h.1, h.2.1, seg_open h.2.2⟩
  | _, (_, none) :: _, _, _, _, h => h.elim
theorem seg_some : ∀ {b : Int} {A : List St} {p : Int} {x : St}, Seg b (A ++ [x]) p → ∃ f l, x = (f, some l)
  | b, [], p, (f, some l), _ => ⟨f, l, rfl⟩
  | b, [], p, (f, none), h => h.elim
  | b, (g, some m) :: r, p, x, h => seg_some h.2.2
  | _, (_, none) :: _, _, _, h => h.elim
def cutsL (R : List St) : D := .lst (R.map stD)
theorem init_at {R : List St} {ds : List D} (h : Can 0 R) (hl : R.length ≤ 100) (e : ds = R.map stD) : sem_NumbersX_initX ds = M.pure (setD R) := by
  rw [e]
  exact init_ok R h hl
theorem law_set_ok (R : List St) (h : Can 0 R) (hl : R.length ≤ 5) : sem__law_set [cutsL R] = M.pure (setD R) := by
  refine pure_wp fun S => ?_
  unfold cutsL
  rcases R with _ | ⟨a, _ | ⟨b, _ | ⟨c, _ | ⟨d, _ | ⟨e, _ | ⟨f, R⟩⟩⟩⟩⟩⟩
  · simp only [List.map_nil]
    (unfold sem__law_set; refine Ev.go_fn rfl ?_; unfold pk__law_set; simp only [Ev.slots, List.map_cons, List.map_nil, List.length_cons, List.length_nil, List.cons_append, List.nil_append, List.replicate, Nat.reduceSub, Nat.reduceAdd])
    (repeat regstrif_gather)
    exact go_val (init_at h (by simp) rfl) ⟨rfl, rfl⟩
  · simp only [List.map_cons, List.map_nil]
    (unfold sem__law_set; refine Ev.go_fn rfl ?_; unfold pk__law_set; simp only [Ev.slots, List.map_cons, List.map_nil, List.length_cons, List.length_nil, List.cons_append, List.nil_append, List.replicate, Nat.reduceSub, Nat.reduceAdd])
    (repeat regstrif_gather)
    exact go_val (init_at h (by simp) rfl) ⟨rfl, rfl⟩
  · simp only [List.map_cons, List.map_nil]
    (unfold sem__law_set; refine Ev.go_fn rfl ?_; unfold pk__law_set; simp only [Ev.slots, List.map_cons, List.map_nil, List.length_cons, List.length_nil, List.cons_append, List.nil_append, List.replicate, Nat.reduceSub, Nat.reduceAdd])
    (repeat regstrif_gather)
    exact go_val (init_at h (by simp) rfl) ⟨rfl, rfl⟩
  · simp only [List.map_cons, List.map_nil]
    (unfold sem__law_set; refine Ev.go_fn rfl ?_; unfold pk__law_set; simp only [Ev.slots, List.map_cons, List.map_nil, List.length_cons, List.length_nil, List.cons_append, List.nil_append, List.replicate, Nat.reduceSub, Nat.reduceAdd])
    (repeat regstrif_gather)
    exact go_val (init_at h (by simp) rfl) ⟨rfl, rfl⟩
  · simp only [List.map_cons, List.map_nil]
    (unfold sem__law_set; refine Ev.go_fn rfl ?_; unfold pk__law_set; simp only [Ev.slots, List.map_cons, List.map_nil, List.length_cons, List.length_nil, List.cons_append, List.nil_append, List.replicate, Nat.reduceSub, Nat.reduceAdd])
    (repeat regstrif_gather)
    exact go_val (init_at h (by simp) rfl) ⟨rfl, rfl⟩
  · simp only [List.map_cons, List.map_nil]
    (unfold sem__law_set; refine Ev.go_fn rfl ?_; unfold pk__law_set; simp only [Ev.slots, List.map_cons, List.map_nil, List.length_cons, List.length_nil, List.cons_append, List.nil_append, List.replicate, Nat.reduceSub, Nat.reduceAdd])
    (repeat regstrif_gather)
    exact go_val (init_at h (by simp) rfl) ⟨rfl, rfl⟩
  · simp at hl
end K06
set_option maxRecDepth 100000
set_option maxHeartbeats 2000000
namespace K06
open PySem Ev
theorem bls_map {α : Type} (g : α → Bool) : ∀ l : List α, bls (l.map fun x => D.bl (g x)) = some (l.map g)
  | [] => rfl
  | x :: l => by
    have := bls_map g l
    rw [List.map_cons, List.map_cons]
    unfold bls
    rw [this]
    rfl
theorem any_map {α : Type} (g : α → Bool) (l : List α) : dAny (.lst (l.map fun x => D.bl (g x))) = M.pure (.bl (l.any g)) := by
  show (match bls (l.map fun x => D.bl (g x)) with | some bs => M.pure (D.bl (bs.any id)) | none => M.stuck) = _
  rw [bls_map]
  show M.pure (D.bl ((l.map g).any id)) = _
  rw [List.any_map]
  rfl
theorem holds_ok (R : List St) (p : Int) (hl : R.length ≤ 100) : sem__law_holds [cutsL R, .int p] = M.pure (.bl (mem R p)) := by
  refine pure_wp fun S => ?_
  (unfold sem__law_holds; refine Ev.go_fn rfl ?_; unfold pk__law_holds; simp only [Ev.slots, List.map_cons, List.map_nil, List.length_cons, List.length_nil, List.cons_append, List.nil_append, List.replicate, Nat.reduceSub, Nat.reduceAdd])
  (repeat regstrif_gather)
  refine go_val (r := R.map stD) rfl ?_
  refine go_filter (f := stD) (g := fun x => D.bl (inS p x)) (p := fun _ => true) R (fun x hx => ?_) (by unfold lim; omega) ?_
  · obtain ⟨f, l⟩ := x
    cases l with
    | none =>
      refine ⟨_, rfl, rfl, fun _ => pure_wp fun S => ?_⟩
      show Wp (M.bind (M.pure (D.bl (decide (f ≤ p)))) _) S _
      by_cases c : f ≤ p
      · rw [decide_eq_true c]
        have e : inS p (f, none) = true := by simp [inS, c]
        rw [e]
        exact wp_run.mpr ⟨rfl, rfl⟩
      · rw [decide_eq_false c]
        have e : inS p (f, none) = false := by simp [inS, c]
        rw [e]
        exact wp_run.mpr ⟨rfl, rfl⟩
    | some l =>
      refine ⟨_, rfl, rfl, fun _ => pure_wp fun S => ?_⟩
      show Wp (M.bind (M.pure (D.bl (decide (f ≤ p)))) _) S _
      by_cases c : f ≤ p
      · rw [decide_eq_true c]
        have e : inS p (f, some l) = decide (p ≤ l) := by simp [inS, c]
        rw [e]
        exact wp_run.mpr ⟨rfl, rfl⟩
      · rw [decide_eq_false c]
        have e : inS p (f, some l) = false := by simp [inS, c]
        rw [e]
        exact wp_run.mpr ⟨rfl, rfl⟩
  rw [List.filter_eq_self.mpr (fun _ _ => rfl)]
  (repeat regstrif_gather)
  rw [any_map]
  (repeat regstrif_gather)
  exact ⟨rfl, rfl⟩
def addE (acc : List Int) (e : Int) : List Int := acc ++ (([-2, -1, 0, 1, 2] : List Int).filter fun s => decide (0 ≤ e + s)).map fun s => e + s
def endsOf : St → List Int
  | (f, none) => [f]
  | (f, some l) => [f, l]
def lawE : List Int → List St → List Int
  | acc, [] => acc
  | acc, x :: r => lawE ((endsOf x).foldl addE acc) r
theorem addE_len (acc : List Int) (e : Int) : (addE acc e).length ≤ acc.length + 5 := by
  unfold addE
  rw [List.length_append, List.length_map]
  have := List.length_filter_le (fun s => decide (0 ≤ e + s)) ([-2, -1, 0, 1, 2] : List Int)
  simp only [List.length_cons, List.length_nil] at this
  omega
theorem fold_len : ∀ (es acc : List Int), (es.foldl addE acc).length ≤ acc.length + 5 * es.length
  | [], _ => Nat.le_refl _
  | e :: es, acc => by
    have a := fold_len es (addE acc e)
    have b := addE_len acc e
    show ((es.foldl addE (addE acc e))).length ≤ acc.length + 5 * (es.length + 1)
    omega
theorem ends_len (x : St) : (endsOf x).length ≤ 2 := by
  obtain ⟨f, l⟩ := x
  cases l with
  | none => exact Nat.le_succ 1
  | some l => exact Nat.le_refl 2
theorem lawE_len : ∀ (R : List St) (acc : List Int), (lawE acc R).length ≤ acc.length + 10 * R.length
  | [], _ => Nat.le_refl _
  | x :: r, acc => by
    have a := lawE_len r ((endsOf x).foldl addE acc)
    have b := fold_len (endsOf x) acc
    have c := ends_len x
    show (lawE ((endsOf x).foldl addE acc) r).length ≤ acc.length + 10 * (r.length + 1)
    omega
theorem places_ok (R : List St) (hl : R.length ≤ 5) : sem__law_edges [cutsL R] = M.pure (intsL (lawE [0, 1] R)) := by
  refine pure_wp fun S => ?_
  (unfold sem__law_edges; refine Ev.go_fn rfl ?_; unfold pk__law_edges; simp only [Ev.slots, List.map_cons, List.map_nil, List.length_cons, List.length_nil, List.cons_append, List.nil_append, List.replicate, Nat.reduceSub, Nat.reduceAdd])
  (repeat regstrif_gather)
  refine go_val (r := R.map stD) rfl ?_
  refine gs_each (f := stD) (J := fun ks sd S' => S' = S ∧ ∃ (acc : List Int) (u2 u3 u4 u5 : SV), sd = [.val (cutsL R), .val (intsL acc), u2, u3, u4, u5] ∧ lawE acc ks = lawE [0, 1] R ∧ acc.length + 10 * ks.length ≤ 52) ?_ ?_ _ _ _ ⟨rfl, [0, 1], _, _, _, _, rfl, rfl, by show 2 + 10 * R.length ≤ 52; omega⟩
  · rintro x ks sd S' ⟨rfl, acc, u2, u3, u4, u5, rfl, he, hn⟩
    rw [List.length_cons] at hn
    obtain ⟨f, l⟩ := x
    cases l with
    | none =>
      show Tg _ (.tup [.int f, .non]) _ _ _
      (repeat regstrif_gather)
      refine gs_each (f := D.int) (J := fun es sd S2 => S2 = S' ∧ ∃ (acc2 : List Int) (u4 u5 : SV), sd = [.val (cutsL R), .val (intsL acc2), .val (.int f), .val .non, u4, u5] ∧ es.foldl addE acc2 = [f].foldl addE acc ∧ acc2.length + 5 * es.length ≤ 80) ?_ ?_ [f] _ _ ⟨rfl, acc, _, _, rfl, rfl, by simp; omega⟩
      · rintro e es sd S2 ⟨rfl, acc2, v4, v5, rfl, h2, h3⟩
        have al := addE_len acc2 e
        rw [List.length_cons] at h3
        (repeat regstrif_gather)
        refine go_filter (f := D.int) (g := fun s => D.int (e + s)) (p := fun s => decide (0 ≤ e + s)) [-2, -1, 0, 1, 2] (fun s hs => ⟨_, rfl, rfl, fun _ => rfl⟩) (by unfold lim; simp) ?_
        refine go_val (r := intsL (addE acc2 e)) ?_ ?_
        · have fl := List.length_filter_le (fun s => decide (0 ≤ e + s)) ([-2, -1, 0, 1, 2] : List Int)
          simp only [List.length_cons, List.length_nil] at fl
          show (if (acc2.map D.int).length + ((([-2, -1, 0, 1, 2] : List Int).filter fun s => decide (0 ≤ e + s)).map fun s => D.int (e + s)).length ≤ lim then M.pure (D.lst (acc2.map D.int ++ (([-2, -1, 0, 1, 2] : List Int).filter fun s => decide (0 ≤ e + s)).map fun s => D.int (e + s))) else M.stuck) = _
          rw [if_pos (by rw [List.length_map, List.length_map]; unfold lim; omega)]
          unfold intsL addE
          rw [List.map_append, List.map_map]
          rfl
        (repeat regstrif_gather)
        exact ⟨rfl, addE acc2 e, _, _, rfl, h2, by omega⟩
      · rintro sd S2 ⟨rfl, acc2, v4, v5, rfl, h2, h3⟩
        have h2 : acc2 = [f].foldl addE acc := h2
        have fl := fold_len [f] acc
        simp only [List.length_cons, List.length_nil] at fl
        (repeat regstrif_gather)
        exact ⟨rfl, acc2, _, _, _, _, rfl, by rw [h2]; exact he, by rw [h2]; omega⟩
    | some l =>
      show Tg _ (.tup [.int f, .int l]) _ _ _
      (repeat regstrif_gather)
      refine gs_each (f := D.int) (J := fun es sd S2 => S2 = S' ∧ ∃ (acc2 : List Int) (u4 u5 : SV), sd = [.val (cutsL R), .val (intsL acc2), .val (.int f), .val (.int l), u4, u5] ∧ es.foldl addE acc2 = [f, l].foldl addE acc ∧ acc2.length + 5 * es.length ≤ 80) ?_ ?_ [f, l] _ _ ⟨rfl, acc, _, _, rfl, rfl, by simp; omega⟩
      · rintro e es sd S2 ⟨rfl, acc2, v4, v5, rfl, h2, h3⟩
        have al := addE_len acc2 e
        rw [List.length_cons] at h3
        (repeat regstrif_gather)
        refine go_filter (f := D.int) (g := fun s => D.int (e + s)) (p := fun s => decide (0 ≤ e + s)) [-2, -1, 0, 1, 2] (fun s hs => ⟨_, rfl, rfl, fun _ => rfl⟩) (by unfold lim; simp) ?_
        refine go_val (r := intsL (addE acc2 e)) ?_ ?_
        · have fl := List.length_filter_le (fun s => decide (0 ≤ e + s)) ([-2, -1, 0, 1, 2] : List Int)
          simp only [List.length_cons, List.length_nil] at fl
          show (if (acc2.map D.int).length + ((([-2, -1, 0, 1, 2] : List Int).filter fun s => decide (0 ≤ e + s)).map fun s => D.int (e + s)).length ≤ lim then M.pure (D.lst (acc2.map D.int ++ (([-2, -1, 0, 1, 2] : List Int).filter fun s => decide (0 ≤ e + s)).map fun s => D.int (e + s))) else M.stuck) = _
          rw [if_pos (by rw [List.length_map, List.length_map]; unfold lim; omega)]
          unfold intsL addE
          rw [List.map_append, List.map_map]
          rfl
        (repeat regstrif_gather)
        exact ⟨rfl, addE acc2 e, _, _, rfl, h2, by omega⟩
      · rintro sd S2 ⟨rfl, acc2, v4, v5, rfl, h2, h3⟩
        have h2 : acc2 = [f, l].foldl addE acc := h2
        have fl := fold_len [f, l] acc
        simp only [List.length_cons, List.length_nil] at fl
        (repeat regstrif_gather)
        exact ⟨rfl, acc2, _, _, _, _, rfl, by rw [h2]; exact he, by rw [h2]; omega⟩
  · rintro sd S' ⟨rfl, acc, u2, u3, u4, u5, rfl, he, hn⟩
    have he : acc = lawE [0, 1] R := he
    rw [he]
    (repeat regstrif_gather)
    exact ⟨rfl, rfl⟩
end K06
set_option maxRecDepth 100000
set_option maxHeartbeats 2000000
namespace K06
open PySem Ev
theorem len_row (R : List St) : dLen (rowS R) = M.pure (.int (R.length : Nat)) := by
  unfold rowS
  show M.pure (D.int ((R.map stD).length : Nat)) = _
  rw [List.length_map]
theorem bool_ok (R : List St) : sem_NumbersX_boolX [setD R] = M.pure (.bl (decide (0 < R.length))) := by
  refine pure_wp fun S => ?_
  (unfold sem_NumbersX_boolX; refine Ev.go_fn rfl ?_; unfold pk_NumbersX_boolX; simp only [Ev.slots, List.map_cons, List.map_nil, List.length_cons, List.length_nil, List.cons_append, List.nil_append, List.replicate, Nat.reduceSub, Nat.reduceAdd])
  (repeat regstrif_gather)
  refine go_val (r := rowS R) rfl ?_
  (repeat regstrif_gather)
  rw [len_row]
  (repeat regstrif_gather)
  refine ⟨?_, rfl⟩
  congr 1
  exact decide_eq_decide.mpr (by omega)
def smallD : List St → D
  | [] => .non
  | (f, _) :: _ => .int f
theorem smallest_ok (R : List St) : sem_Numbers_smallest [setD R] = M.pure (smallD R) := by
  refine pure_wp fun S => ?_
  (unfold sem_Numbers_smallest; refine Ev.go_fn rfl ?_; unfold pk_Numbers_smallest; simp only [Ev.slots, List.map_cons, List.map_nil, List.length_cons, List.length_nil, List.cons_append, List.nil_append, List.replicate, Nat.reduceSub, Nat.reduceAdd])
  (repeat regstrif_gather)
  refine go_val (r := rowS R) rfl ?_
  (repeat regstrif_gather)
  rw [len_row]
  rcases R with _ | ⟨⟨f, l⟩, R⟩
  · (repeat regstrif_gather)
    exact ⟨rfl, rfl⟩
  · (repeat regstrif_gather)
    refine ite_dt (by rw [List.length_cons]; omega) ?_
    (repeat regstrif_gather)
    refine go_val (r := rowS ((f, l) :: R)) rfl ?_
    (repeat regstrif_gather)
    have e0 : dIx (rowS ((f, l) :: R)) (.int 0) = M.pure (stD (f, l)) := by
      funext S
      show (match L2.atI (stD (f, l) :: R.map stD) ((0 : Nat) : Int) with | some x => (some (Except.ok x, S) : Option (Except Exn D × List Ob)) | none => none) = _
      rw [L2.atI_nat (j := 0) rfl]
      rfl
    refine go_val e0 ?_
    cases l with
    | none =>
      refine go_val (r := .int f) rfl ?_
      exact ⟨rfl, rfl⟩
    | some l =>
      refine go_val (r := .int f) rfl ?_
      exact ⟨rfl, rfl⟩
def endB (R : List St) : Bool := match R.getLast? with
  | some (_, none) => true
  | _ => false
theorem endless_ok (R : List St) : sem_Numbers_endless [setD R] = M.pure (.bl (endB R)) := by
  refine pure_wp fun S => ?_
  (unfold sem_Numbers_endless; refine Ev.go_fn rfl ?_; unfold pk_Numbers_endless; simp only [Ev.slots, List.map_cons, List.map_nil, List.length_cons, List.length_nil, List.cons_append, List.nil_append, List.replicate, Nat.reduceSub, Nat.reduceAdd])
  (repeat regstrif_gather)
  refine go_val (r := rowS R) rfl ?_
  (repeat regstrif_gather)
  rw [len_row]
  obtain rfl | ⟨B, x, rfl⟩ : R = [] ∨ ∃ B x, R = B ++ [x] := (List.eq_nil_or_concat R).imp id fun ⟨B, y, h⟩ => ⟨B, y, by rw [h, List.concat_eq_append]⟩
  · (repeat regstrif_gather)
    exact ⟨rfl, rfl⟩
  · obtain ⟨f, l⟩ := x
    have e0 : dIx (rowS (B ++ [(f, l)])) (.int (-1)) = M.pure (stD (f, l)) := by
      funext S
      show (match L2.atI ((B ++ [(f, l)]).map stD) (-1) with | some x => (some (Except.ok x, S) : Option (Except Exn D × List Ob)) | none => none) = _
      rw [List.map_append, show List.map stD [(f, l)] = [stD (f, l)] from rfl, L2.atI_last]
      rfl
    have e1 : endB (B ++ [(f, l)]) = l.isNone := by
      unfold endB
      rw [List.getLast?_concat]
      cases l <;> rfl
    rw [e1]
    (repeat regstrif_gather)
    refine ite_dt (by rw [List.length_append]; simp) ?_
    (repeat regstrif_gather)
    refine go_val (r := rowS (B ++ [(f, l)])) rfl ?_
    (repeat regstrif_gather)
    refine go_val e0 ?_
    cases l with
    | none =>
      refine go_val (r := .non) rfl ?_
      (repeat regstrif_gather)
      exact ⟨rfl, rfl⟩
    | some l =>
      refine go_val (r := .int l) rfl ?_
      (repeat regstrif_gather)
      exact ⟨rfl, rfl⟩
end K06
set_option maxRecDepth 100000
set_option maxHeartbeats 2000000
namespace K06
open PySem Ev
theorem sapp_e (x : Str) : Str.empty ++ x = x := by
  show (⟨#[] ++ x.cps⟩ : Str) = x
  rw [Array.empty_append]
def It (i : Int) : Str := (toString i : String)
theorem it_len {k : Nat} {i : Int} (h : Bd k i) (l : k ≤ 1900) : strOk i = true ∧ (It i).length ≤ 2000 := by
  have a := (h.mono (show k ≤ 1920 by omega)).nat
  have b : i.natAbs.log2 < 1920 := by
    by_cases z : i.natAbs = 0
    · rw [z]
      decide +kernel
    · exact (Nat.log2_lt z).mpr a
  have c := PyProof.Rows.int_text_len_1921 b
  refine ⟨decide_eq_true b, ?_⟩
  show (Str.ofString (toString i)).length ≤ 2000
  omega
theorem joinFs_step {f : List SV → M D} {fs : List (List SV → M D)} {acc x y : Str} {sd : List SV} (h : f sd = M.pure (.str y)) (hl : acc.length + y.length ≤ lim)
    (r : joinFs fs (acc ++ y) sd = M.pure (.str x)) : joinFs (f :: fs) acc sd = M.pure (.str x) := by
  have la := str_app_len acc y
  unfold joinFs
  rw [h]
  show (if (acc ++ y).length ≤ lim then joinFs fs (acc ++ y) sd else M.stuck) = _
  rw [if_pos (by omega), r]
theorem fmt_it {k : Nat} {i : Int} (h : Bd k i) (l : k ≤ 1900) : dFmt (.int i) = M.pure (.str (It i)) := by
  show (if strOk i = true then M.pure (D.str (It i)) else M.stuck) = _
  rw [if_pos (it_len h l).1]
theorem str_it {k : Nat} {i : Int} (h : Bd k i) (l : k ≤ 1900) : dStr (.int i) = M.pure (.str (It i)) := by
  show (if strOk i = true then M.pure (D.str (It i)) else M.stuck) = _
  rw [if_pos (it_len h l).1]
theorem p_addT {x y : Str} {S : List Ob} {PD : D → List Ob → Prop} (hm : x.length + y.length ≤ lim) (h : PD (.str (x ++ y)) S) : Wp (dAdd (.str x) (.str y)) S PD := by
  show Wp (if x.length + y.length ≤ lim then M.pure (.str (x ++ y)) else M.stuck) S PD
  rw [if_pos hm]
  exact go_pure h
def Ok8 (x : Str) : Prop := ∀ c ∈ x.cps.toList, c < 0x110000
theorem ok8_s (s : String) : Ok8 (Str.ofString s) := by
  intro c hc
  have e : (Str.ofString s).cps.toList = s.toList.map Char.toNat := by simp only [Str.ofString_eq_toList, List.toList_toArray]
  rw [e] at hc
  obtain ⟨d, _, rfl⟩ := List.mem_map.mp hc
  have v := d.valid
  show d.val.toNat < 0x110000
  rcases v with v | v
  · exact Nat.lt_trans v (by decide)
  · exact v.2
theorem ok8_app {x y : Str} (h : Ok8 x) (l : Ok8 y) : Ok8 (x ++ y) := by
  intro c hc
  have hc : c ∈ (x.cps ++ y.cps).toList := hc
  rw [Array.toList_append] at hc
  rcases List.mem_append.mp hc with z | z
  · exact h c z
  · exact l c z
theorem lay_str {x : Str} (h : Ok8 x) : (PyData.str x).canLay0 = true := by
  show PyData.strOk x = true
  unfold PyData.strOk
  rw [Array.all_eq_true']
  intro c hc
  exact decide_eq_true (h c (Array.mem_toList_iff.mpr hc))
theorem shw_str {x : Str} {n : Nat} (h : Ok8 x) (l : 10 * x.length + 2 ≤ n) : Shw 0 n (.str x) := by
  unfold Shw
  exact ⟨_, rfl, rfl, lay_str h, Nat.le_refl _, Nat.le_trans (StrLaws.reprText_len x fun c hc => Nat.lt_trans (h c hc) (by decide)) l⟩
def Sml (R : List St) : Prop := ∀ x ∈ R, Bd 150 x.1 ∧ ∀ l, x.2 = some l → Bd 150 l
def stT : St → Str
  | (f, none) => "from " ++ It f
  | (f, some l) => if f = l then It f else It f ++ " to " ++ It l
theorem stT_ok {x : St} (h : Bd 150 x.1 ∧ ∀ l, x.2 = some l → Bd 150 l) : Ok8 (stT x) ∧ (stT x).length ≤ 6000 := by
  obtain ⟨f, l⟩ := x
  have a := (it_len h.1 (by decide)).2
  cases l with
  | none =>
    refine ⟨ok8_app (ok8_s _) (ok8_s _), ?_⟩
    show ("from " ++ It f).length ≤ 6000
    rw [str_app_len]
    have : ("from " : Str).length = 5 := by decide
    dsimp only at a
    omega
  | some l =>
    have b := (it_len (h.2 l rfl) (by decide)).2
    dsimp only at a
    show Ok8 (if f = l then It f else It f ++ " to " ++ It l) ∧ (if f = l then It f else It f ++ " to " ++ It l).length ≤ 6000
    split
    · exact ⟨ok8_s _, by omega⟩
    · refine ⟨ok8_app (ok8_app (ok8_s _) (ok8_s _)) (ok8_s _), ?_⟩
      rw [str_app_len, str_app_len]
      have : (" to " : Str).length = 4 := by decide
      omega
def wordsT (R : List St) : Str := if R = [] then "none" else Str.join ", " (R.map stT)
theorem join_ok : ∀ {L : List Str}, (∀ x ∈ L, Ok8 x ∧ x.length ≤ 6000) → Ok8 (Str.join ", " L) ∧ (Str.join ", " L).length ≤ 6002 * L.length
  | [], _ => ⟨fun c h => (by have h : c ∈ ([] : List Nat) := h; cases h), Nat.le_refl _⟩
  | [x], h => by
    obtain ⟨a, b⟩ := h x List.mem_cons_self
    refine ⟨a, ?_⟩
    show x.length ≤ 6002 * 1
    omega
  | x :: y :: L, h => by
    obtain ⟨a, b⟩ := h x List.mem_cons_self
    obtain ⟨c, d⟩ := join_ok (L := y :: L) fun z hz => h z (List.mem_cons_of_mem _ hz)
    have e : Str.join ", " (x :: y :: L) = x ++ ", " ++ Str.join ", " (y :: L) := rfl
    rw [e]
    refine ⟨ok8_app (ok8_app a (ok8_s _)) c, ?_⟩
    rw [str_app_len, str_app_len]
    have : (", " : Str).length = 2 := by decide
    simp only [List.length_cons] at d ⊢
    omega
theorem wordsT_ok {R : List St} (h : Sml R) (hl : R.length ≤ 5) : Ok8 (wordsT R) ∧ (wordsT R).length ≤ 40000 := by
  unfold wordsT
  split
  · exact ⟨ok8_s _, by decide⟩
  · obtain ⟨a, b⟩ := join_ok (L := R.map stT) fun x hx => by
      obtain ⟨y, hy, rfl⟩ := List.mem_map.mp hx
      exact stT_ok (h y hy)
    rw [List.length_map] at b
    exact ⟨a, by omega⟩
theorem stretch_text_ok {x : St} (h : Bd 150 x.1 ∧ ∀ l, x.2 = some l → Bd 150 l) : sem_stretch_text [stD x] = M.pure (.str (stT x)) := by
  refine pure_wp fun S => ?_
  obtain ⟨f, l⟩ := x
  have h1 := h.1
  have a := (it_len h.1 (by decide)).2
  dsimp only at h1 a
  cases l with
  | none =>
    unfold stD
    (unfold sem_stretch_text; refine Ev.go_fn rfl ?_; unfold pk_stretch_text; simp only [Ev.slots, List.map_cons, List.map_nil, List.length_cons, List.length_nil, List.cons_append, List.nil_append, List.replicate, Nat.reduceSub, Nat.reduceAdd])
    (repeat regstrif_gather)
    refine go_val (r := .str (stT (f, none))) ?_ ?_
    · refine joinFs_step (y := "from ") rfl (by decide) ?_
      refine joinFs_step (fmt_it h1 (by decide)) (by have : (Str.empty ++ ("from " : Str)).length = 5 := by decide
                                                     unfold lim; omega) ?_
      rw [sapp_e]
      rfl
    · (repeat regstrif_gather)
      exact ⟨rfl, rfl⟩
  | some l =>
    have h2 := h.2 l rfl
    have b := (it_len h2 (by decide)).2
    unfold stD
    (unfold sem_stretch_text; refine Ev.go_fn rfl ?_; unfold pk_stretch_text; simp only [Ev.slots, List.map_cons, List.map_nil, List.length_cons, List.length_nil, List.cons_append, List.nil_append, List.replicate, Nat.reduceSub, Nat.reduceAdd])
    (repeat regstrif_gather)
    refine ite_d (fun z => ?_) (fun z => ?_)
    · refine go_val (fmt_it h1 (by decide)) ?_
      (repeat regstrif_gather)
      exact ⟨by show D.str (It f) = .str (if f = l then It f else It f ++ " to " ++ It l); rw [if_pos z], rfl⟩
    · refine go_val (r := .str (stT (f, some l))) ?_ ?_
      · refine joinFs_step (fmt_it h1 (by decide)) (by have : (Str.empty).length = 0 := by decide
                                                       unfold lim; omega) ?_
        rw [sapp_e]
        have l4 : (" to " : Str).length = 4 := by decide
        refine joinFs_step (y := " to ") rfl (by unfold lim; omega) ?_
        refine joinFs_step (fmt_it h2 (by decide)) (by rw [str_app_len]; unfold lim; omega) ?_
        show M.pure (D.str _) = M.pure (D.str (if f = l then It f else It f ++ " to " ++ It l))
        rw [if_neg z]
      · (repeat regstrif_gather)
        exact ⟨rfl, rfl⟩
theorem txts_mapG {α : Type} (g : α → Str) : ∀ L : List α, txts (L.map fun x => D.str (g x)) = some (L.map g)
  | [] => rfl
  | x :: L => by
    rw [List.map_cons]
    unfold txts
    rw [txts_mapG g L]
    rfl
theorem join_at {L : List Str} (h : ∀ x ∈ L, x.length ≤ 6000) (hl : L.length ≤ 100) : dJoin ", " (.lst (L.map D.str)) = M.pure (.str (Str.join ", " L)) := by
  have e := txts_mapG (fun x : Str => x) L
  rw [List.map_id'] at e
  have e : txts (L.map D.str) = some L := e
  unfold dJoin
  simp only [e]
  have s : ∀ {L : List Str}, (∀ x ∈ L, x.length ≤ 6000) → (L.map (·.length)).sum ≤ 6000 * L.length := by
    intro L
    induction L with
    | nil => intro _; exact Nat.le_refl _
    | cons x L ih =>
      intro h
      have a := h x List.mem_cons_self
      have b := ih fun z hz => h z (List.mem_cons_of_mem _ hz)
      rw [List.map_cons, List.sum_cons, List.length_cons]
      omega
  have s := s h
  have l2 : (", " : Str).length = 2 := by decide
  show (if (L.map (·.length)).sum + L.length * (", " : Str).length ≤ 16777216 then M.pure (D.str (Txt.join ", " L)) else M.stuck) = _
  rw [if_pos (by rw [l2]; omega)]
  show M.pure (D.str (Builtin.Str.glued ", " L)) = _
  rw [StrLaws.glued_eq_join]
theorem str_ok {R : List St} (h : Sml R) (hl : R.length ≤ 5) : sem_NumbersX_strX [setD R] = M.pure (.str (wordsT R)) := by
  refine pure_wp fun S => ?_
  (unfold sem_NumbersX_strX; refine Ev.go_fn rfl ?_; unfold pk_NumbersX_strX; simp only [Ev.slots, List.map_cons, List.map_nil, List.length_cons, List.length_nil, List.cons_append, List.nil_append, List.replicate, Nat.reduceSub, Nat.reduceAdd])
  (repeat regstrif_gather)
  refine go_val (r := rowS R) rfl ?_
  (repeat regstrif_gather)
  rw [len_row]
  (repeat regstrif_gather)
  rcases R with _ | ⟨x, R⟩
  · (repeat regstrif_gather)
    exact ⟨rfl, rfl⟩
  · refine ite_df (by rw [List.length_cons]; omega) ?_
    (repeat regstrif_gather)
    refine go_val (r := (", " : Str)) rfl ?_
    (repeat regstrif_gather)
    refine go_val (r := rowS (x :: R)) rfl ?_
    refine go_val (r := (x :: R).map stD) rfl ?_
    refine go_filter (f := stD) (g := fun x => D.str (stT x)) (p := fun _ => true) (x :: R) (fun y hy => ⟨_, rfl, rfl, fun _ => stretch_text_ok (h y hy)⟩) (by unfold lim; omega) ?_
    rw [List.filter_eq_self.mpr (fun _ _ => rfl)]
    have e := join_at (L := (x :: R).map stT) (fun y hy => by
      obtain ⟨z, hz, rfl⟩ := List.mem_map.mp hy
      exact (stT_ok (h z hz)).2) (by rw [List.length_map]; omega)
    rw [List.map_map] at e
    (repeat regstrif_gather)
    refine go_val e ?_
    (repeat regstrif_gather)
    exact ⟨rfl, rfl⟩
theorem repr_ok {R : List St} (h : Sml R) (hl : R.length ≤ 5) : sem_NumbersX_reprX [setD R] = M.pure (.str ("Numbers(" ++ wordsT R ++ ")")) := by
  refine pure_wp fun S => ?_
  have w := (wordsT_ok h hl).2
  have l8 : ("Numbers(" : Str).length = 8 := by decide
  have l1 : (")" : Str).length = 1 := by decide
  (unfold sem_NumbersX_reprX; refine Ev.go_fn rfl ?_; unfold pk_NumbersX_reprX; simp only [Ev.slots, List.map_cons, List.map_nil, List.length_cons, List.length_nil, List.cons_append, List.nil_append, List.replicate, Nat.reduceSub, Nat.reduceAdd])
  (repeat regstrif_gather)
  refine go_val (r := .str ("Numbers(" ++ wordsT R ++ ")")) ?_ ?_
  · refine joinFs_step (y := "Numbers(") rfl (by decide) ?_
    rw [sapp_e]
    refine joinFs_step (y := wordsT R) ?_ (by unfold lim; omega) ?_
    · show ownTx (tab [(3, sem_NumbersX_strX)]) (setD R) = _
      funext S
      show (noErr (sem_NumbersX_strX [setD R])).bind (fun r => (isStr r).bind fun y => Ev.M.pure (D.str y)) S = _
      rw [str_ok h hl]
      rfl
    · refine joinFs_step (y := ")") rfl (by rw [str_app_len]; unfold lim; omega) rfl
  · (repeat regstrif_gather)
    exact ⟨rfl, rfl⟩
end K06
set_option maxRecDepth 100000
set_option maxHeartbeats 2000000
namespace K06
open PySem Ev
theorem pln_str {x : Str} (h : Ok8 x) : Pln 0 (.str x) (.str x) := by unfold Pln; exact ⟨rfl, rfl, lay_str h, Nat.le_refl _⟩
theorem pln_st (x : St) : Pln 1 (stD x) (stP x) := by
  obtain ⟨f, l⟩ := x
  cases l with
  | none => exact pln_tup (pll_cons pln_int (pll_cons pln_non pll_nil))
  | some l => exact pln_tup (pll_cons pln_int (pll_cons pln_int pll_nil))
theorem ne_nil {α : Type} {g : α → D} {p : α → PyData} {k : Nat} (L : List α) (h : ∀ x ∈ L, Pln k (g x) (p x)) (hk : k ≤ 60) : dEq true (.lst (L.map g)) (.lst []) = M.pure (.bl (!L.isEmpty)) := by
  have i : PyData.list (L.map p) = PyData.list [] ↔ L = [] := by
    rw [PyData.list.injEq, List.map_eq_nil_iff]
  have e := eq_pln true (pln_lst (pll_map h)) (pln_lst pll_nil) (by omega) (by decide) i rfl
  rw [e]
  cases L <;> simp
theorem cuts_ne (R : List St) : dEq true (cutsL R) (.lst []) = M.pure (.bl (!R.isEmpty)) := ne_nil R (fun x _ => pln_st x) (by decide)
theorem ints_self (neg : Bool) (L : List Int) : dEq neg (intsL L) (intsL L) = M.pure (.bl (!neg)) := by
  have h : Pln 1 (intsL L) (.list (L.map PyData.int)) := pln_lst (pll_map fun x _ => pln_int)
  have e := eq_pln neg h h (by decide) (by decide) (P := True) (by simp) rfl
  rw [e]
  cases neg <;> simp
theorem cut_words_ok {R : List St} (h : Sml R) (hl : R.length ≤ 5) : sem__law_cut_words [cutsL R] = M.pure (.str (wordsT R)) := by
  refine pure_wp fun S => ?_
  have l5 : ("from " : Str).length = 5 := by decide
  have l4 : (" to " : Str).length = 4 := by decide
  (unfold sem__law_cut_words; refine Ev.go_fn rfl ?_; unfold pk__law_cut_words; simp only [Ev.slots, List.map_cons, List.map_nil, List.length_cons, List.length_nil, List.cons_append, List.nil_append, List.replicate, Nat.reduceSub, Nat.reduceAdd])
  (repeat regstrif_gather)
  refine go_val (r := R.map stD) rfl ?_
  refine gs_each (f := stD) (J := fun ks sd S' => S' = S ∧ ∃ (A : List St) (u2 u3 : SV), R = A ++ ks ∧ sd = [.val (cutsL R), .own (.lst (A.map fun x => .str (stT x))), u2, u3]) ?_ ?_ _ _ _ ⟨rfl, [], _, _, rfl, rfl⟩
  · rintro x ks sd S' ⟨rfl, A, u2, u3, e, rfl⟩
    have hx := h x (by rw [e]; simp)
    have hA : A.length + 1 ≤ 5 := by rw [e, List.length_append, List.length_cons] at hl; omega
    obtain ⟨f, l⟩ := x
    have a := (it_len hx.1 (by decide)).2
    dsimp only at a
    cases l with
    | none =>
      show Tg _ (.tup [.int f, .non]) _ _ _
      (repeat regstrif_gather)
      refine go_val (str_it hx.1 (by decide)) ?_
      (repeat regstrif_gather)
      refine p_addT (by unfold lim; omega) ?_
      (repeat regstrif_gather)
      exact ⟨rfl, A ++ [(f, none)], _, _, by rw [e]; simp, by rw [List.map_append]; rfl⟩
    | some l =>
      have b := (it_len (hx.2 l rfl) (by decide)).2
      show Tg _ (.tup [.int f, .int l]) _ _ _
      (repeat regstrif_gather)
      refine ite_d (fun z => ?_) (fun z => ?_)
      · (repeat regstrif_gather)
        refine go_val (str_it hx.1 (by decide)) ?_
        (repeat regstrif_gather)
        have t : stT (f, some l) = It f := if_pos z
        exact ⟨rfl, A ++ [(f, some l)], _, _, by rw [e]; simp, by rw [List.map_append, List.map_cons, List.map_nil, t]⟩
      · (repeat regstrif_gather)
        refine go_val (str_it hx.1 (by decide)) ?_
        (repeat regstrif_gather)
        refine p_addT (by unfold lim; omega) ?_
        (repeat regstrif_gather)
        refine go_val (str_it (hx.2 l rfl) (by decide)) ?_
        (repeat regstrif_gather)
        refine p_addT (by rw [str_app_len]; unfold lim; omega) ?_
        (repeat regstrif_gather)
        have t : stT (f, some l) = It f ++ " to " ++ It l := if_neg z
        exact ⟨rfl, A ++ [(f, some l)], _, _, by rw [e]; simp, by rw [List.map_append, List.map_cons, List.map_nil, t]⟩
  · rintro sd S' ⟨rfl, A, u2, u3, e, rfl⟩
    rw [List.append_nil] at e
    subst e
    have nn := ne_nil (g := fun x => D.str (stT x)) (p := fun x => PyData.str (stT x)) (k := 0) R (fun x hx => pln_str (stT_ok (h x hx)).1) (by decide)
    have j := join_at (L := R.map stT) (fun y hy => by
      obtain ⟨z, hz, rfl⟩ := List.mem_map.mp hy
      exact (stT_ok (h z hz)).2) (by rw [List.length_map]; omega)
    rw [List.map_map] at j
    (repeat regstrif_gather)
    refine go_val nn ?_
    rcases R with _ | ⟨x, R⟩
    · (repeat regstrif_gather)
      exact go_pure ⟨rfl, rfl⟩
    · (repeat regstrif_gather)
      refine go_val j ?_
      (repeat regstrif_gather)
      exact ⟨rfl, rfl⟩
def okE (p : Int) : Option Int → Bool
  | none => true
  | some l => decide (p ≤ l)
def up : Nat → Int → Option Int → List Int
  | 0, _, _ => []
  | m + 1, p, l => if okE p l = true then p :: up m (p + 1) l else []
def asc : Nat → List St → List Int
  | _, [] => []
  | m, (f, l) :: R => up m f l ++ asc (m - (up m f l).length) R
theorem up_len : ∀ (m : Nat) (p : Int) (l : Option Int), (up m p l).length ≤ m
  | 0, _, _ => Nat.le_refl _
  | m + 1, p, l => by
    unfold up
    split
    · rw [List.length_cons]
      have := up_len m (p + 1) l
      omega
    · exact Nat.zero_le _
theorem up_go {m : Nat} {p : Int} {l : Option Int} (h : 0 < m) (k : okE p l = true) : up m p l = p :: up (m - 1) (p + 1) l := by
  obtain ⟨m, rfl⟩ : ∃ j, m = j + 1 := ⟨m - 1, by omega⟩
  show (if okE p l = true then p :: up m (p + 1) l else []) = _
  rw [if_pos k]
  rfl
theorem up_end {m : Nat} {p : Int} {l : Option Int} (h : m = 0 ∨ okE p l = false) : up m p l = [] := by
  cases m with
  | zero => rfl
  | succ m =>
    have k : okE p l = false := by
      rcases h with h | h
      · cases h
      · exact h
    unfold up
    rw [if_neg (by rw [k]; decide)]
theorem between_ok (x lo hi : Int) : sem_is_between [.int x, .int lo, .int hi] = M.pure (.bl (decide (lo ≤ x ∧ x ≤ hi))) := by
  refine pure_wp fun S => ?_
  (unfold sem_is_between; refine Ev.go_fn rfl ?_; unfold pk_is_between; simp only [Ev.slots, List.map_cons, List.map_nil, List.length_cons, List.length_nil, List.cons_append, List.nil_append, List.replicate, Nat.reduceSub, Nat.reduceAdd])
  (repeat regstrif_gather)
  refine go_val (is_integer_ok x) ?_
  (repeat regstrif_gather)
  unfold chainD
  (repeat regstrif_gather)
  refine ite_d (fun c => ?_) (fun c => ?_)
  · (repeat regstrif_gather)
    exact ⟨by simp [c], rfl⟩
  · (repeat regstrif_gather)
    exact ⟨by simp [c], rfl⟩
theorem check_count_ok (n : Nat) (hn : n ≤ 100) : sem_check_count [.int n] = M.pure .non := by
  refine pure_wp fun S => ?_
  (unfold sem_check_count; refine Ev.go_fn rfl ?_; unfold pk_check_count; simp only [Ev.slots, List.map_cons, List.map_nil, List.length_cons, List.length_nil, List.cons_append, List.nil_append, List.replicate, Nat.reduceSub, Nat.reduceAdd])
  (repeat regstrif_gather)
  refine go_val (between_ok _ _ _) ?_
  rw [decide_eq_true (show (0 : Int) ≤ (n : Int) ∧ (n : Int) ≤ 100 by omega)]
  (repeat regstrif_gather)
  exact ⟨trivial, rfl⟩
theorem first_ok (R : List St) (m : Nat) (hm : m ≤ 100) (hl : R.length ≤ 5) : sem__law_first [cutsL R, .int m] = M.pure (intsL (asc m R)) := by
  refine pure_wp fun S => ?_
  (unfold sem__law_first; refine Ev.go_fn rfl ?_; unfold pk__law_first; simp only [Ev.slots, List.map_cons, List.map_nil, List.length_cons, List.length_nil, List.cons_append, List.nil_append, List.replicate, Nat.reduceSub, Nat.reduceAdd])
  (repeat regstrif_gather)
  refine go_val (r := R.map stD) rfl ?_
  refine gs_each (f := stD) (J := fun ks sd S' => S' = S ∧ ∃ (acc : List Int) (u3 u4 u5 : SV), acc.length ≤ m ∧ acc ++ asc (m - acc.length) ks = asc m R ∧ sd = [.val (cutsL R), .val (.int m), .own (.lst (acc.map D.int)), u3, u4, u5]) ?_ ?_ _ _ _ ⟨rfl, [], _, _, _, Nat.zero_le _, rfl, rfl⟩
  · rintro x ks sd S' ⟨rfl, acc, u3, u4, u5, ha, he, rfl⟩
    obtain ⟨f, l⟩ := x
    have he : acc ++ (up (m - acc.length) f l ++ asc (m - acc.length - (up (m - acc.length) f l).length) ks) = asc m R := he
    have ul := up_len (m - acc.length) f l
    generalize eT : acc ++ up (m - acc.length) f l = T
    have hT : T ++ asc (m - T.length) ks = asc m R := by
      rw [← eT, List.append_assoc, List.length_append, ← Nat.sub_sub]
      exact he
    have hTl : T.length ≤ m := by rw [← eT, List.length_append]; omega
    cases l with
    | none =>
      show Tg _ (.tup [.int f, .non]) _ _ _
      (repeat regstrif_gather)
      refine gs_iter (J := fun n sd S2 => S2 = S' ∧ ∃ (acc : List Int) (p : Int), n = m - acc.length ∧ acc.length ≤ m ∧ acc ++ up n p none = T ∧ sd = [.val (cutsL R), .val (.int m), .own (.lst (acc.map D.int)), .val (.int f), .val .non, .val (.int p)]) ?_ (m - acc.length) _ _ (by unfold bigW; omega) ⟨rfl, acc, f, rfl, ha, eT, rfl⟩
      rintro n sd S2 ⟨rfl, acc, p, rfl, ha, eT, rfl⟩
      (repeat regstrif_gather)
      refine go_ownLen rfl ?_
      (repeat regstrif_gather)
      rw [List.length_map]
      refine ite_d (fun z => ?_) (fun z => ?_)
      · rw [up_go (by omega) rfl] at eT
        (repeat regstrif_gather)
        exact ⟨m - (acc.length + 1), by omega, rfl, acc ++ [p], p + 1, by rw [List.length_append]; rfl, by rw [List.length_append]; show acc.length + 1 ≤ m; omega, by rw [List.append_assoc]; exact eT, by rw [List.map_append]; rfl⟩
      · rw [up_end (.inl (by omega)), List.append_nil] at eT
        subst eT
        (repeat regstrif_gather)
        exact ⟨rfl, acc, _, _, _, ha, hT, rfl⟩
    | some l =>
      show Tg _ (.tup [.int f, .int l]) _ _ _
      (repeat regstrif_gather)
      refine gs_iter (J := fun n sd S2 => S2 = S' ∧ ∃ (acc : List Int) (p : Int), n = m - acc.length ∧ acc.length ≤ m ∧ acc ++ up n p (some l) = T ∧ sd = [.val (cutsL R), .val (.int m), .own (.lst (acc.map D.int)), .val (.int f), .val (.int l), .val (.int p)]) ?_ (m - acc.length) _ _ (by unfold bigW; omega) ⟨rfl, acc, f, rfl, ha, eT, rfl⟩
      rintro n sd S2 ⟨rfl, acc, p, rfl, ha, eT, rfl⟩
      (repeat regstrif_gather)
      refine go_ownLen rfl ?_
      (repeat regstrif_gather)
      rw [List.length_map]
      refine ite_d (fun z => ?_) (fun z => ?_)
      · (repeat regstrif_gather)
        refine ite_d (fun y => ?_) (fun y => ?_)
        · rw [up_go (l := some l) (by omega) (decide_eq_true y)] at eT
          (repeat regstrif_gather)
          exact ⟨m - (acc.length + 1), by omega, rfl, acc ++ [p], p + 1, by rw [List.length_append]; rfl, by rw [List.length_append]; show acc.length + 1 ≤ m; omega, by rw [List.append_assoc]; exact eT, by rw [List.map_append]; rfl⟩
        · rw [up_end (l := some l) (.inr (decide_eq_false y)), List.append_nil] at eT
          subst eT
          (repeat regstrif_gather)
          exact ⟨rfl, acc, _, _, _, ha, hT, rfl⟩
      · rw [up_end (.inl (by omega)), List.append_nil] at eT
        subst eT
        (repeat regstrif_gather)
        exact ⟨rfl, acc, _, _, _, ha, hT, rfl⟩
  · rintro sd S' ⟨rfl, acc, u3, u4, u5, ha, he, rfl⟩
    have he : acc ++ [] = asc m R := he
    rw [List.append_nil] at he
    subst he
    (repeat regstrif_gather)
    exact ⟨rfl, rfl⟩
theorem wg_iter {c : List SV → M Bool} {body : MG} {N : List SV → List Ob → List D → Prop} (J : Nat → List SV → List Ob → List D → Prop)
    (step : ∀ n sd S out, J n sd S out → Wp (c sd) S fun b S1 => if b = true then Wg body sd S1 out (fun sd2 S2 out2 => ∃ n', n' < n ∧ J n' sd2 S2 out2) else N sd S1 out) :
    ∀ (m n : Nat) (sd : List SV) (S : List Ob) (out : List D), n < m → J n sd S out → Wg (witerG c body m) sd S out N
  | 0, n, sd, S, out, l, h => absurd l (Nat.not_lt_zero _)
  | m + 1, n, sd, S, out, l, h => by
    have h1 := (step n sd S out h).run
    unfold Ev.Run at h1
    unfold Wg witerG
    rcases hc : c sd S with _ | ⟨_ | b, S1⟩
    · rw [hc] at h1; exact h1.elim
    · rw [hc] at h1; exact h1.elim
    · rw [hc] at h1
      cases b with
      | false =>
        simp only [Bool.false_eq_true, if_false] at h1
        exact h1
      | true =>
        simp only [if_true] at h1
        simp only
        unfold Wg at h1
        rcases hb : body sd S1 out with _ | ⟨_ | _ | _ | _ | _, S2, out2⟩ <;> rw [hb] at h1 <;> first | exact h1.elim | skip
        obtain ⟨n', hn, hj⟩ := h1
        have ih := wg_iter J step m n' _ _ _ (by omega) hj
        unfold Wg at ih
        exact ih
def lastD : Option Int → D
  | none => .non
  | some l => .int l
theorem stD_last (f : Int) (l : Option Int) : stD (f, l) = .tup [.int f, lastD l] := by cases l <;> rfl
theorem ascending_ok (R : List St) (m : Nat) (hm : m ≤ 100) : sem_Numbers_ascending [setD R, .int m] = M.pure ((asc m R).map D.int) := by
  refine pure_wp fun S => ?_
  unfold sem_Numbers_ascending
  refine wp_gen rfl ?_
  show Wg pk_Numbers_ascending.1 [.val (setD R), .val (.int m), .no, .no, .no, .no] S [] _
  unfold pk_Numbers_ascending
  refine wg_seq (wg_plain ?_)
  (repeat regstrif_gather)
  refine go_val (check_count_ok m hm) ?_
  (repeat regstrif_gather)
  refine wg_seq (wg_plain ?_)
  (repeat regstrif_gather)
  refine wg_seq (wg_for (J := fun ds sd S' out => S' = S ∧ ∃ (ks : List St) (acc : List Int) (u3 u4 u5 : SV), ds = ks.map stD ∧ out = acc.map D.int ∧ acc.length ≤ m ∧ acc ++ asc (m - acc.length) ks = asc m R ∧ sd = [.val (setD R), .val (.int m), .val (.int ((m - acc.length : Nat) : Int)), u3, u4, u5]) ?_ ?_ ?_)
  · (repeat regstrif_gather)
    refine go_val (r := rowS R) rfl ?_
    refine go_val (r := R.map stD) rfl ?_
    exact ⟨rfl, R, [], _, _, _, rfl, rfl, Nat.zero_le _, rfl, rfl⟩
  · rintro d ds sd S' out ⟨rfl, ks, acc, u3, u4, u5, eds, rfl, ha, he, rfl⟩
    rcases ks with _ | ⟨⟨f, l⟩, ks⟩
    · cases eds
    rw [List.map_cons] at eds
    cases eds
    have he : acc ++ (up (m - acc.length) f l ++ asc (m - acc.length - (up (m - acc.length) f l).length) ks) = asc m R := he
    have ul := up_len (m - acc.length) f l
    generalize eT : acc ++ up (m - acc.length) f l = T
    have hT : T ++ asc (m - T.length) ks = asc m R := by
      rw [← eT, List.append_assoc, List.length_append, ← Nat.sub_sub]
      exact he
    refine ⟨[.val (setD R), .val (.int m), .val (.int ((m - acc.length : Nat) : Int)), .val (.int f), .val (lastD l), u5], S', ?_, ?_⟩
    · rw [stD_last]
      rfl
    refine wg_seq (wg_plain ?_)
    (repeat regstrif_gather)
    refine wg_seq ?_
    unfold whileG
    refine wg_iter (J := fun n sd S2 out2 => S2 = S' ∧ ∃ (acc : List Int) (p : Int), n = m - acc.length ∧ acc.length ≤ m ∧ acc ++ up n p l = T ∧ out2 = acc.map D.int ∧ sd = [.val (setD R), .val (.int m), .val (.int (n : Int)), .val (.int f), .val (lastD l), .val (.int p)]) ?_ bigW (m - acc.length) _ _ _ (by unfold bigW; omega) ⟨rfl, acc, f, rfl, ha, eT, rfl, rfl⟩
    rintro n sd S2 out2 ⟨rfl, acc, p, rfl, ha, eT, rfl, rfl⟩
    have fin : acc = T → Wg nilG [.val (setD R), .val (.int m), .val (.int ((m - acc.length : Nat) : Int)), .val (.int f), .val (lastD l), .val (.int p)] S2 (acc.map D.int) (fun sd2 S3 out3 => S3 = S2 ∧ ∃ (ks2 : List St) (acc : List Int) (u3 u4 u5 : SV), ks.map stD = ks2.map stD ∧ out3 = acc.map D.int ∧ acc.length ≤ m ∧ acc ++ asc (m - acc.length) ks2 = asc m R ∧ sd2 = [.val (setD R), .val (.int m), .val (.int ((m - acc.length : Nat) : Int)), u3, u4, u5]) := by
      rintro rfl
      exact wg_nil ⟨rfl, ks, acc, _, _, _, rfl, rfl, ha, hT, rfl⟩
    have turn : 0 < m - acc.length → okE p l = true → Wg (seqG (yieldG (getv 5)) (seqG (plainG (augS 5 fun x => M.pure (D.int 1))) (seqG (plainG (augMS 2 fun x => M.pure (D.int 1))) nilG))) [.val (setD R), .val (.int m), .val (.int ((m - acc.length : Nat) : Int)), .val (.int f), .val (lastD l), .val (.int p)] S2 (acc.map D.int)
        (fun sd2 S3 out2 => ∃ n', n' < m - acc.length ∧ S3 = S2 ∧ ∃ (acc : List Int) (p : Int), n' = m - acc.length ∧ acc.length ≤ m ∧ acc ++ up n' p l = T ∧ out2 = acc.map D.int ∧ sd2 = [.val (setD R), .val (.int m), .val (.int (n' : Int)), .val (.int f), .val (lastD l), .val (.int p)]) := by
      intro z k
      rw [up_go z k] at eT
      refine wg_seq (wg_yield (by rw [List.length_map]; unfold lim; omega) ?_)
      (repeat regstrif_gather)
      refine wg_seq (wg_plain ?_)
      refine gs_aug rfl ?_
      (repeat regstrif_gather)
      refine ⟨1, rfl, ?_⟩
      refine wg_seq (wg_plain ?_)
      refine gs_augM rfl ?_
      (repeat regstrif_gather)
      refine ⟨1, rfl, ?_⟩
      refine wg_nil ⟨m - (acc.length + 1), by omega, rfl, acc ++ [p], p + 1, by rw [List.length_append]; rfl, by rw [List.length_append]; show acc.length + 1 ≤ m; omega, by rw [List.append_assoc, ← Nat.sub_sub]; exact eT, by rw [List.map_append]; rfl, ?_⟩
      have e : ((m - acc.length : Nat) : Int) - 1 = ((m - (acc.length + 1) : Nat) : Int) := by omega
      rw [← e]
      rfl
    cases l with
    | none =>
      simp only [show lastD none = D.non from rfl] at turn fin ⊢
      (repeat regstrif_gather)
      refine ite_d (fun z => ?_) (fun z => ?_)
      · (repeat regstrif_gather)
        exact turn (by omega) rfl
      · rw [up_end (.inl (by omega)), List.append_nil] at eT
        (repeat regstrif_gather)
        exact fin eT
    | some l =>
      simp only [show lastD (some l) = D.int l from rfl] at turn fin ⊢
      (repeat regstrif_gather)
      refine ite_d (fun z => ?_) (fun z => ?_)
      · (repeat regstrif_gather)
        refine ite_d (fun y => ?_) (fun y => ?_)
        · (repeat regstrif_gather)
          exact turn (by omega) (decide_eq_true y)
        · rw [up_end (l := some l) (.inr (decide_eq_false y)), List.append_nil] at eT
          (repeat regstrif_gather)
          exact fin eT
      · rw [up_end (.inl (by omega)), List.append_nil] at eT
        (repeat regstrif_gather)
        exact fin eT
  · rintro sd S' out ⟨rfl, ks, acc, u3, u4, u5, eds, rfl, ha, he, rfl⟩
    obtain rfl : ks = [] := by
      cases ks with
      | nil => rfl
      | cons x ks => cases eds
    have he : acc ++ [] = asc m R := he
    rw [List.append_nil] at he
    exact wg_nil ⟨by rw [he], rfl⟩
end K06
set_option maxRecDepth 100000
set_option maxHeartbeats 4000000
namespace K06
open PySem Ev
def Low (A : List St) : Prop := ∀ x ∈ A, (0 ≤ x.1 ∧ x.1 ≤ 100000000000000000000000000000000) ∧ ∀ l, x.2 = some l → (0 ≤ l ∧ l ≤ 100000000000000000000000000000000)
theorem Low.sml {A : List St} (h : Low A) : Sml A := fun x hx => by
  obtain ⟨a, b⟩ := h x hx
  exact ⟨.mk (by omega), fun l e => by have := b l e; exact .mk (by omega)⟩
theorem low_snoc {A : List St} {p l : Int} (h : Low A) (hp : 0 ≤ p ∧ p ≤ 100000000000000000000000000000000) (hl : 0 ≤ l ∧ l ≤ 100000000000000000000000000000000) : Low (A ++ [(p, some l)]) := by
  intro x hx
  rcases List.mem_append.mp hx with q | q
  · exact h x q
  · rw [List.mem_singleton.mp q]
    exact ⟨hp, fun y e => by cases e; exact hl⟩
theorem low_open {A : List St} {p l : Int} (h : Low (A ++ [(p, some l)])) : Low (A ++ [(p, none)]) := by
  intro x hx
  rcases List.mem_append.mp hx with q | q
  · exact h x (List.mem_append.mpr (.inl q))
  · rw [List.mem_singleton.mp q]
    exact ⟨(h (p, some l) (by simp)).1, fun y e => by cases e⟩
theorem cuts_sm (S : List Ob) (n : Nat) (h : Cup S n) : Wp (sem__law_cuts [.ref n]) S fun d S' => ∃ R, d = cutsL R ∧ Can 0 R ∧ R.length ≤ 5 ∧ Sml R ∧ Cup S' n := by
  (unfold sem__law_cuts; refine Ev.go_fn rfl ?_; unfold pk__law_cuts; simp only [Ev.slots, List.map_cons, List.map_nil, List.length_cons, List.length_nil, List.cons_append, List.nil_append, List.replicate, Nat.reduceSub, Nat.reduceAdd])
  refine gs_seq (gs_parO ?_)
  (repeat regstrif_gather)
  refine sip_wp h (by decide) (by decide) fun p0 S1 p1 p2 h1 => ?_
  (repeat regstrif_gather)
  refine sip_wp h1 (by decide) (by decide) fun m S2 m1 m2 h2 => ?_
  (repeat regstrif_gather)
  refine gs_loop (J := fun ds sd S' => ∃ (j : Int) (k : Nat) (A : List St) (p : Int) (u3 u4 : SV), ds = rngD j k ∧ sd = [.val (.ref n), .own (.lst (A.map stD)), .val (.int p), u3, u4] ∧ Seg 0 A p ∧ A.length + k ≤ 5 ∧ (0 ≤ p ∧ p ≤ 4 + 3000000000000000000000000000000 * A.length) ∧ Low A ∧ Cup S' n) ?_ ?_ _ _ _ ⟨0, m.toNat, [], p0, _, _, rfl, rfl, p1, by simp; omega, ⟨p1, by show p0 ≤ 4 + 3000000000000000000000000000000 * ((0 : Nat) : Int); omega⟩, (fun _ hx => by cases hx), h2⟩
  · rintro d ds sd S' ⟨j, k, A, p, u3, u4, e, rfl, hs, hk, ⟨hp0, hp1⟩, hw, hc⟩
    rcases k with _ | k
    · cases e
    rw [rng_cons] at e
    cases e
    refine ⟨_, _, rfl, ?_⟩
    (repeat regstrif_gather)
    refine go_val (r := .int 1000000000000000000000000000000) rfl ?_
    (repeat regstrif_gather)
    refine pick_wp hc (by decide) (by decide) fun d S3 hd hc3 => ?_
    obtain ⟨z, rfl, hz, hz1⟩ : ∃ z : Int, d = .int z ∧ 0 ≤ z ∧ z ≤ 1000000000000000000000000000000 := by
      simp only [List.mem_cons, List.not_mem_nil, or_false] at hd
      rcases hd with rfl | rfl | rfl | rfl | rfl | rfl <;> exact ⟨_, rfl, by decide, by decide⟩
    (repeat regstrif_gather)
    refine go_val (r := .int 1000000000000) rfl ?_
    (repeat regstrif_gather)
    refine pick_wp hc3 (by decide) (by decide) fun d S4 hd hc4 => ?_
    obtain ⟨y, rfl, hy, hy1⟩ : ∃ y : Int, d = .int y ∧ 0 ≤ y ∧ y ≤ 1000000000000 := by
      simp only [List.mem_cons, List.not_mem_nil, or_false] at hd
      rcases hd with rfl | rfl | rfl | rfl <;> exact ⟨_, rfl, by decide, by decide⟩
    (repeat regstrif_gather)
    exact ⟨j + 1, k, A ++ [(p, some (p + z))], p + z + 2 + y, _, _, rfl, by rw [List.map_append]; rfl, seg_snoc hs (by omega) (by omega), by rw [List.length_append]; show A.length + 1 + k ≤ 5; omega, ⟨by omega, by rw [List.length_append, List.length_singleton]; push_cast; omega⟩, low_snoc hw (by have := hk; omega) (by omega), hc4⟩
  · rintro sd S' ⟨j, k, A, p, u3, u4, e, rfl, hs, hk, ⟨hp0, hp1⟩, hw, hc⟩
    obtain rfl : k = 0 := by
      rcases k with _ | k
      · rfl
      · rw [rng_cons] at e; cases e
    have cl : ∃ ps, toPs (A.map stD) = some ps ∧ SeqAt.shaped (.list ps) = true := by
      refine ⟨_, toPs_st A, ?_⟩
      unfold SeqAt.shaped
      rw [Bool.and_eq_true]
      refine ⟨?_, decide_eq_true ?_⟩
      · unfold PyData.canLay0
        exact lay_st A
      · unfold PyData.depth
        have := depth_st A
        omega
    obtain ⟨ps, t1, t2⟩ := cl
    obtain rfl | ⟨B, x, rfl⟩ : A = [] ∨ ∃ B x, A = B ++ [x] := (List.eq_nil_or_concat A).imp id fun ⟨B, y, h⟩ => ⟨B, y, by rw [h, List.concat_eq_append]⟩
    · (repeat regstrif_gather)
      refine go_ownNe0 rfl t1 t2 ?_
      (repeat regstrif_gather)
      rw [show (List.map stD []).isEmpty = true from rfl]
      (repeat regstrif_gather)
      exact ⟨[], rfl, trivial, by decide, (fun _ hx => by cases hx), hc⟩
    · obtain ⟨f, l, rfl⟩ := seg_some hs
      have lx : B.length + 1 ≤ 5 := by
        rw [List.length_append] at hk
        exact hk
      have so := seg_open hs
      have sc := seg_can hs
      (repeat regstrif_gather)
      refine go_ownNe0 rfl t1 t2 ?_
      (repeat regstrif_gather)
      rw [show (List.map stD (B ++ [(f, some l)])).isEmpty = false by simp]
      (repeat regstrif_gather)
      refine sip_wp hc (by decide) (by decide) fun r S5 r0 r1 hc5 => ?_
      (repeat regstrif_gather)
      refine ite_d (fun c => ?_) (fun c => ?_)
      · (repeat regstrif_gather)
        have e1 : ownIx 1 (fun sd => (M.pure (D.int 1)).bind dNeg) [SV.val (D.ref n), SV.own (Ob.lst (List.map stD (B ++ [(f, some l)]))), SV.val (D.int p), u3, u4] = M.pure (.tup [.int f, .int l]) := by
          funext S
          show (match L2.atI (List.map stD (B ++ [(f, some l)])) (-1) with | some x => (some (Except.ok x, S) : Option (Except Exn D × List Ob)) | none => none) = _
          rw [List.map_append, show List.map stD [(f, some l)] = [stD (f, some l)] from rfl, L2.atI_last]
          rfl
        have ix : L2.ixN (List.map stD (B ++ [(f, some l)])).length (-1) = some B.length := by
          rw [List.length_map, List.length_append]
          unfold L2.ixN
          rw [if_neg (by decide), if_pos (by simp; omega)]
          congr 1
          simp
          omega
        have e2 : ∀ S, itemO 1 (fun sd => (M.pure (D.int 1)).bind dNeg) (.tup [.int f, .non]) [SV.val (D.ref n), SV.own (Ob.lst (List.map stD (B ++ [(f, some l)]))), SV.val (D.int p), u3, u4] S = some ([SV.val (D.ref n), SV.own (Ob.lst (List.map stD (B ++ [(f, none)]))), SV.val (D.int p), u3, u4], S) := fun S => by
          show (match L2.ixN (List.map stD (B ++ [(f, some l)])).length (-1) with
            | some k => some ([SV.val (D.ref n), SV.own (Ob.lst ((List.map stD (B ++ [(f, some l)])).set k (.tup [.int f, .non]))), SV.val (D.int p), u3, u4], S)
            | none => none) = _
          rw [ix]
          have z : (List.map stD (B ++ [(f, some l)])).set B.length (.tup [.int f, .non]) = List.map stD (B ++ [(f, none)]) := by
            rw [List.map_append, List.map_append, List.set_append_right _ _ (by rw [List.length_map]; exact Nat.le_refl _), List.length_map, Nat.sub_self]
            rfl
          rw [← z]
        refine go_val e1 ?_
        (repeat regstrif_gather)
        simp only [e2]
        (repeat regstrif_gather)
        exact ⟨_, rfl, so, by rw [List.length_append]; exact lx, (low_open hw).sml, hc5⟩
      · (repeat regstrif_gather)
        exact ⟨_, rfl, sc, by rw [List.length_append]; exact lx, hw.sml, hc5⟩
end K06
set_option maxRecDepth 100000
set_option maxHeartbeats 4000000
namespace K06
open PySem Ev
theorem in_at {R : List St} (h : Ok R) (p : Int) : ownIn false (tab [(3, sem_NumbersX_containsX)]) (.int p) (setD R) = M.pure (.bl (mem R p)) := by
  show M.bind (noErr (sem_NumbersX_containsX [setD R, .int p])) (fun r => M.bind (toB r) fun b => M.pure (D.bl (false != b))) = _
  rw [has_edges h p]
  show M.pure (D.bl (false != mem R p)) = _
  rw [Bool.false_bne]
theorem odd_has {R : List St} {d : D} (e : sem_is_integer [d] = M.pure (.bl false)) : sem_NumbersX_containsX [setD R, d] = M.pure (.bl false) := by
  refine pure_wp fun S => ?_
  (unfold sem_NumbersX_containsX; refine Ev.go_fn rfl ?_; unfold pk_NumbersX_containsX; simp only [Ev.slots, List.map_cons, List.map_nil, List.length_cons, List.length_nil, List.cons_append, List.nil_append, List.replicate, Nat.reduceSub, Nat.reduceAdd])
  (repeat regstrif_gather)
  refine go_val e ?_
  (repeat regstrif_gather)
  exact ⟨rfl, rfl⟩
theorem odd_in {R : List St} {d : D} (e : sem_is_integer [d] = M.pure (.bl false)) : ownIn false (tab [(3, sem_NumbersX_containsX)]) d (setD R) = M.pure (.bl false) := by
  show M.bind (noErr (sem_NumbersX_containsX [setD R, d])) (fun r => M.bind (toB r) fun b => M.pure (D.bl (false != b))) = _
  rw [odd_has e]
  rfl
theorem eq_self_set (A : List St) : eqX false (tab [(3, sem_NumbersX_eqX)]) (setD A) (setD A) = M.pure (.bl true) := by
  show M.bind (noErr (sem_NumbersX_eqX [setD A, setD A])) (fun r => M.bind (toB r) fun b => M.pure (D.bl (false != b))) = _
  rw [eq_ok, decide_eq_true rfl]
  rfl
theorem ne_self (A : List St) : eqX true (tab [(3, sem_NumbersX_eqX)]) (setD A) (setD A) = M.pure (.bl false) := by
  show M.bind (noErr (sem_NumbersX_eqX [setD A, setD A])) (fun r => M.bind (toB r) fun b => M.pure (D.bl (true != b))) = _
  rw [eq_ok, decide_eq_true rfl]
  rfl
theorem eq_two (A B : List St) : eqX false (tab [(3, sem_NumbersX_eqX)]) (setD A) (setD B) = M.pure (.bl (decide (A = B))) := by
  show M.bind (noErr (sem_NumbersX_eqX [setD A, setD B])) (fun r => M.bind (toB r) fun b => M.pure (D.bl (false != b))) = _
  rw [eq_ok]
  show M.pure (D.bl (false != decide (A = B))) = _
  rw [Bool.false_bne]
theorem dec_of {A : List St} {d : D} {k : String} (h : kindD d = some k) (neg : Bool) : eqXN neg (tab [(3, sem_NumbersX_eqX)]) (tab [(3, (2, pkd_NumbersX_eqX.1))]) (setD A) d = Ev.M.pure (.bl neg) := by
  funext S
  cases d <;> first | (cases h; done) | skip
  all_goals rfl
theorem in_none (A : List St) : inL (tab [(3, (2, pkd_NumbersX_eqX.1))]) (setD A) (.lst [.non, .int 0]) = Ev.M.pure (.bl false) := by
  funext S
  rfl
theorem str_at {A : List St} (h : Sml A) (hl : A.length ≤ 5) : strX (tab [(3, sem_NumbersX_strX)]) (setD A) = Ev.M.pure (.str (wordsT A)) := by
  funext S
  show (noErr (sem_NumbersX_strX [setD A])).bind (fun r => (isStr r).bind fun y => Ev.M.pure (D.str y)) S = _
  rw [str_ok h hl]
  rfl
theorem repr_at {A : List St} (h : Sml A) (hl : A.length ≤ 5) : reprX (tab [(3, sem_NumbersX_reprX)]) (setD A) = Ev.M.pure (.str ("Numbers(" ++ wordsT A ++ ")")) := by
  funext S
  show (noErr (sem_NumbersX_reprX [setD A])).bind (fun r => (isStr r).bind fun y => Ev.M.pure (D.str y)) S = _
  rw [repr_ok h hl]
  rfl
theorem bool_at (A : List St) : ownBool (tab [(3, sem_NumbersX_boolX)]) (setD A) = Ev.M.pure (.bl (!A.isEmpty)) := by
  funext S
  show (noErr (sem_NumbersX_boolX [setD A])).bind (fun r => (toB r).bind fun y => Ev.M.pure (D.bl y)) S = _
  rw [bool_ok]
  have e : decide (0 < A.length) = !A.isEmpty := by cases A <;> simp
  rw [e]
  rfl
theorem small_at (A : List St) : attr (tab [(3, .prop sem_Numbers_smallest)]) (setD A) = Ev.M.pure (smallD A) := by
  funext S
  show noErr (sem_Numbers_smallest [setD A]) S = _
  rw [smallest_ok]
  rfl
theorem endless_at (A : List St) : attr (tab [(3, .prop sem_Numbers_endless)]) (setD A) = Ev.M.pure (.bl (endB A)) := by
  funext S
  show noErr (sem_Numbers_endless [setD A]) S = _
  rw [endless_ok]
  rfl
theorem shw_ends {A : List St} (h : Sml A) : ∀ d ∈ A.map stD, Shw 1 5000 d := by
  intro d hd
  obtain ⟨⟨f, l⟩, hx, rfl⟩ := List.mem_map.mp hd
  obtain ⟨h1, h2⟩ := h _ hx
  cases l with
  | none => exact (shw_tup (shl_cons (shw_int h1 (by decide)) (shl_cons shw_non shl_nil))).mono (by decide) (by decide)
  | some l => exact (shw_tup (shl_cons (shw_int h1 (by decide)) (shl_cons (shw_int (h2 l rfl) (by decide)) shl_nil))).mono (by decide) (by decide)
theorem shw_row {A : List St} (h : Sml A) (hl : A.length ≤ 5) : Shw 2 30000 (rowS A) := by
  have e := shw_tup (shl_all (k := 1) (n := 5000) (shw_ends h))
  rw [List.length_map] at e
  exact e.mono (by decide) (by omega)
theorem shw_small {A : List St} (h : Sml A) : Shw 0 2000 (smallD A) := by
  cases A with
  | nil => exact shw_non.mono (by decide) (by decide)
  | cons x A => exact (shw_int (h x List.mem_cons_self).1 (by decide)).mono (by decide) (by decide)
def toldL (A : List St) : D := .lst [rowS A, smallD A, .bl (endB A), .bl (!A.isEmpty), .str (wordsT A), .str ("Numbers(" ++ wordsT A ++ ")")]
theorem shw_told {A : List St} (h : Sml A) (hl : A.length ≤ 5) : Shw 6 3000000 (toldL A) := by
  obtain ⟨w1, w2⟩ := wordsT_ok h hl
  have l8 : ("Numbers(" : Str).length = 8 := by decide
  have l1 : (")" : Str).length = 1 := by decide
  refine (shw_lst (shl_cons (shw_row h hl) (shl_cons (shw_small h) (shl_cons (shw_bl _) (shl_cons (shw_bl _) (shl_cons (shw_str (n := 400100) w1 (by omega)) (shl_cons (shw_str (n := 400300) (ok8_app (ok8_app (ok8_s _) w1) (ok8_s _)) (by rw [str_app_len, str_app_len]; omega)) shl_nil))))))).mono (by decide) (by decide)
theorem law_right_ok (S : List Ob) (n : Nat) (h : Cup S n) : Wp (sem__law_right [.ref n]) S fun d _ => d = .bl true := by
  (unfold sem__law_right; refine Ev.go_fn rfl ?_; unfold pk__law_right; simp only [Ev.slots, List.map_cons, List.map_nil, List.length_cons, List.length_nil, List.cons_append, List.nil_append, List.replicate, Nat.reduceSub, Nat.reduceAdd])
  (repeat regstrif_gather)
  refine gs_loop (J := fun ds sd S' => ∃ u1 u2 u3 u4 u5 u6 u7 u8 u9 u10 u11 : SV, sd = [.val (.ref n), u1, u2, u3, u4, u5, u6, u7, u8, u9, u10, u11] ∧ Cup S' n) ?_ ?_ _ _ _ ⟨_, _, _, _, _, _, _, _, _, _, _, rfl, h⟩
  · rintro d ds sd S' ⟨u1, u2, u3, u4, u5, u6, u7, u8, u9, u10, u11, rfl, hc⟩
    refine ⟨_, _, rfl, ?_⟩
    (repeat regstrif_gather)
    refine go_use (cuts_sm _ n hc) ?_
    rintro d S1 ⟨A, rfl, ca, la, sa, hc1⟩
    (repeat regstrif_gather)
    rw [law_set_ok A ca la]
    (repeat regstrif_gather)
    refine go_val (r := rowS A) rfl ?_
    (repeat regstrif_gather)
    refine go_val (small_at A) ?_
    (repeat regstrif_gather)
    refine go_val (endless_at A) ?_
    (repeat regstrif_gather)
    refine go_val (bool_at A) ?_
    (repeat regstrif_gather)
    refine go_val (str_at sa la) ?_
    (repeat regstrif_gather)
    refine go_val (repr_at sa la) ?_
    (repeat regstrif_gather)
    refine go_val (r := rowS A) rfl ?_
    refine go_val (r := [rowS A, smallD A, .bl (endB A), .bl (!A.isEmpty)]) ?_ ?_
    · refine pure_wp fun S => ?_
      rcases A with _ | ⟨x, B⟩
      · have cn : dEq true (cutsL []) (.lst []) = M.pure (.bl false) := cuts_ne []
        (repeat regstrif_gather)
        rw [cn]
        (repeat regstrif_gather)
        rw [cn]
        (repeat regstrif_gather)
        rw [cn]
        (repeat regstrif_gather)
        exact ⟨rfl, rfl⟩
      · have cn : dEq true (cutsL (x :: B)) (.lst []) = M.pure (.bl true) := cuts_ne (x :: B)
        obtain ⟨C, y, e⟩ : ∃ C y, x :: B = C ++ [y] := by
          rcases List.eq_nil_or_concat (x :: B) with h | ⟨C, y, h⟩
          · cases h
          · exact ⟨C, y, by rw [h, List.concat_eq_append]⟩
        have i0 : dIx (cutsL (x :: B)) (.int 0) = M.pure (stD x) := by
          funext S
          show (match L2.atI (stD x :: B.map stD) ((0 : Nat) : Int) with | some x => (some (Except.ok x, S) : Option (Except Exn D × List Ob)) | none => none) = _
          rw [L2.atI_nat (j := 0) rfl]
          rfl
        have i1 : dIx (cutsL (x :: B)) (.int (-1)) = M.pure (stD y) := by
          rw [e]
          funext S
          show (match L2.atI ((C ++ [y]).map stD) (-1) with | some x => (some (Except.ok x, S) : Option (Except Exn D × List Ob)) | none => none) = _
          rw [List.map_append, show List.map stD [y] = [stD y] from rfl, L2.atI_last]
          rfl
        have j0 : dIx (stD x) (.int 0) = M.pure (.int x.1) := by
          obtain ⟨f, l⟩ := x
          cases l <;> rfl
        have sm : smallD (x :: B) = .int x.1 := rfl
        have eb : endB (x :: B) = y.2.isNone := by
          unfold endB
          rw [e, List.getLast?_concat]
          obtain ⟨f, l⟩ := y
          cases l <;> rfl
        rw [sm, eb]
        (repeat regstrif_gather)
        rw [cn]
        (repeat regstrif_gather)
        refine go_val i0 ?_
        (repeat regstrif_gather)
        refine go_val j0 ?_
        (repeat regstrif_gather)
        rw [cn]
        (repeat regstrif_gather)
        refine go_val i1 ?_
        obtain ⟨g, l⟩ := y
        cases l with
        | none =>
          (repeat regstrif_gather)
          refine go_val (r := .non) rfl ?_
          (repeat regstrif_gather)
          rw [cn]
          (repeat regstrif_gather)
          exact ⟨rfl, rfl⟩
        | some l =>
          (repeat regstrif_gather)
          refine go_val (r := .int l) rfl ?_
          (repeat regstrif_gather)
          rw [cn]
          (repeat regstrif_gather)
          exact ⟨rfl, rfl⟩
    (repeat regstrif_gather)
    rw [cut_words_ok sa la]
    (repeat regstrif_gather)
    have rp : dRepr (toldL A) = M.pure (.str (txtD (toldL A))) := repr_get (shw_told sa la) (by decide) (by decide)
    obtain ⟨w1, w2⟩ := wordsT_ok sa la
    have l8 : ("Numbers(" : Str).length = 8 := by decide
    have l1 : (")" : Str).length = 1 := by decide
    refine go_val rp ?_
    (repeat regstrif_gather)
    refine p_addT (by unfold lim; omega) ?_
    (repeat regstrif_gather)
    refine p_addT (by rw [str_app_len]; unfold lim; omega) ?_
    (repeat regstrif_gather)
    refine go_val rp ?_
    (repeat regstrif_gather)
    have oa : Ok A := ⟨ca, by omega⟩
    rw [places_ok A la]
    (repeat regstrif_gather)
    refine go_val (r := (lawE [0, 1] A).map D.int) rfl ?_
    have le := lawE_len A [0, 1]
    simp only [List.length_cons, List.length_nil] at le
    refine go_filter (f := D.int) (g := D.int) (p := fun _ => false) (lawE [0, 1] A) (fun p hp => ⟨_, rfl, pure_wp fun S => ?_, fun h => nomatch h⟩) (by unfold lim; omega) ?_
    · (repeat regstrif_gather)
      refine go_val (in_at oa p) ?_
      (repeat regstrif_gather)
      rw [holds_ok A p (by omega)]
      (repeat regstrif_gather)
      exact ⟨by simp, rfl⟩
    rw [show ((lawE [0, 1] A).filter fun _ => false) = [] from List.filter_eq_nil_iff.mpr (fun _ _ => by decide), List.map_nil]
    (repeat regstrif_gather)
    refine go_val (r := .bl false) rfl ?_
    (repeat regstrif_gather)
    refine go_val (r := .int 1000000000000000000000000000000) rfl ?_
    (repeat regstrif_gather)
    refine go_filter (f := fun d => d) (g := fun d => d) (p := fun _ => false) [.int (-1), .int (-1000000000000000000000000000000), .non, .bl true, .bl false, .str "0", .tup [.int 0], .lst [], .dct [] [], .tup [.int 0, .int 1]] (fun t ht => ⟨_, rfl, pure_wp fun S => ?_, fun h => nomatch h⟩) (by unfold lim; simp) ?_
    · (repeat regstrif_gather)
      refine go_val (r := .bl false) ?_ ?_
      · simp only [List.mem_cons, List.not_mem_nil, or_false] at ht
        rcases ht with rfl | rfl | rfl | rfl | rfl | rfl | rfl | rfl | rfl | rfl
        · rw [in_at oa, mem_neg ca (by decide)]
        · rw [in_at oa, mem_neg ca (by decide)]
        all_goals exact odd_in (by funext S; rfl)
      · (repeat regstrif_gather)
        exact ⟨rfl, rfl⟩
    rw [show (([.int (-1), .int (-1000000000000000000000000000000), .non, .bl true, .bl false, .str "0", .tup [.int 0], .lst [], .dct [] [], .tup [.int 0, .int 1]] : List D).filter fun _ => false) = [] from rfl, List.map_nil]
    (repeat regstrif_gather)
    refine go_val (r := .bl false) rfl ?_
    (repeat regstrif_gather)
    refine sip_wp hc1 (by decide) (by decide) fun m S2 m0 m1 hc2 => ?_
    (repeat regstrif_gather)
    refine gs_each (f := D.int) (J := fun ks sd S' => S' = S2 ∧ (∀ z ∈ ks, (0 : Int) ≤ z ∧ z ≤ 100) ∧ ∃ v5 v8 v9 v10 v11 : SV, sd = [.val (.ref n), .val d, .val (cutsL A), .val (setD A), .val (toldL A), v5, .val (.str (wordsT A)), .val (.lst [.int (-1), .int (-1000000000000000000000000000000), .non, .bl true, .bl false, .str "0", .tup [.int 0], .lst [], .dct [] [], .tup [.int 0, .int 1]]), v8, v9, v10, v11]) ?_ ?_ [0, 1, m, 100] _ _ ⟨rfl, ?_, _, _, _, _, _, rfl⟩
    · rintro z ks sd S3 ⟨rfl, hz, v5, v8, v9, v10, v11, rfl⟩
      obtain ⟨z0, z1⟩ := hz z List.mem_cons_self
      obtain ⟨k, rfl⟩ := Int.eq_ofNat_of_zero_le z0
      have hk : k ≤ 100 := by omega
      have op : (fun ds => sem_Numbers_ascending (perm [0, 1] ds)) [setD A, .int (k : Int)] = Ev.M.pure ((asc k A).map D.int) := ascending_ok A k hk
      (repeat regstrif_gather)
      refine go_val (first_ok A k hk la) ?_
      (repeat regstrif_gather)
      refine go_val (r := fun ds => sem_Numbers_ascending (perm [0, 1] ds)) rfl ?_
      (repeat regstrif_gather)
      refine go_val op ?_
      (repeat regstrif_gather)
      refine go_val (ints_self true (asc k A)) ?_
      (repeat regstrif_gather)
      refine go_val (r := fun ds => sem_Numbers_ascending (perm [0, 1] ds)) rfl ?_
      (repeat regstrif_gather)
      refine go_val op ?_
      (repeat regstrif_gather)
      refine go_val (ints_self true (asc k A)) ?_
      (repeat regstrif_gather)
      exact ⟨rfl, fun z hz' => hz z (List.mem_cons_of_mem _ hz'), _, _, _, _, _, rfl⟩
    · rintro sd S3 ⟨rfl, _, v5, v8, v9, v10, v11, rfl⟩
      (repeat regstrif_gather)
      refine go_use (cuts_sm _ n hc2) ?_
      rintro e S4 ⟨B, rfl, cb, lb, sb, hc4⟩
      (repeat regstrif_gather)
      rw [law_set_ok B cb lb]
      (repeat regstrif_gather)
      rw [law_set_ok A ca la]
      (repeat regstrif_gather)
      rw [eq_self_set]
      (repeat regstrif_gather)
      rw [law_set_ok A ca la]
      (repeat regstrif_gather)
      rw [ne_self]
      (repeat regstrif_gather)
      rw [eq_two]
      (repeat regstrif_gather)
      refine go_val (r := rowS A) stretches_ok ?_
      (repeat regstrif_gather)
      refine go_val (r := rowS B) stretches_ok ?_
      (repeat regstrif_gather)
      rw [rows_eq]
      (repeat regstrif_gather)
      refine ite_dt (by simp) ?_
      (repeat regstrif_gather)
      refine go_val (r := rowS A) rfl ?_
      (repeat regstrif_gather)
      refine go_val (dec_of (k := "tuple") rfl false) ?_
      (repeat regstrif_gather)
      refine go_val (dec_of (k := "str") rfl true) ?_
      (repeat regstrif_gather)
      refine go_val (in_none A) ?_
      (repeat regstrif_gather)
      exact ⟨_, _, _, _, _, _, _, _, _, _, _, rfl, hc4⟩
    · intro z hz
      simp only [List.mem_cons, List.not_mem_nil, or_false] at hz
      rcases hz with rfl | rfl | rfl | rfl <;> omega
  · rintro sd S' ⟨u1, u2, u3, u4, u5, u6, u7, u8, u9, u10, u11, rfl, hc⟩
    (repeat regstrif_gather)
    rfl
theorem law_ok (S : List Ob) (ns : List Int) (l : ns.length ≤ 63) (hb : ∀ z ∈ ns, Builtin.Int.intBits z ≤ 1048576) : Wp (sem_law [.scr (ns.map D.int)]) S fun d _ => d = .bl true := by
  (unfold sem_law; refine Ev.go_fn rfl ?_; unfold pk_law; simp only [Ev.slots, List.map_cons, List.map_nil, List.length_cons, List.length_nil, List.cons_append, List.nil_append, List.replicate, Nat.reduceSub, Nat.reduceAdd])
  refine gs_seq (gs_own (go_val (r := [.str "none", .str "3", .str "0 to 2, from 4", .non]) (by funext S; kernel_rfl) ?_))
  refine gs_seq (gs_app rfl (by unfold lim; simp) (go_val (r := .bl true) (by funext S; kernel_rfl) ?_))
  refine gs_seq (gs_frzL rfl ?_)
  refine gs_seq (gs_if (go_val (r := false) (by funext S; kernel_rfl) ?_))
  refine ite_f (gs_next ?_)
  (repeat regstrif_gather)
  simp only [List.length_map]
  (repeat regstrif_gather)
  refine Wp.mono (all_spots (by split <;> split <;> omega) S fun i h0 h1 S => ⟨_, rfl, ?_⟩) ?_
  · (repeat regstrif_gather)
    refine go_use (cup_ok S ns i h0 (by omega) hb) ?_
    rintro _ S1 ⟨rfl, h1⟩
    (repeat regstrif_gather)
    exact law_right_ok S1 _ h1
  · intro acc S' h
    (repeat regstrif_gather)
    rw [h]
    exact go_pure rfl
theorem law_true (ns : List Int) (l : ns.length ≤ 63) (hb : ∀ z ∈ ns, Builtin.Int.intBits z ≤ 1048576) : ∃ S, sem_law [.scr (ns.map D.int)] [] = some (.ok (.bl true), S) := by
  obtain ⟨a, S, e, rfl⟩ := (law_ok [] ns l hb).ex
  exact ⟨S, e⟩
end K06
set_option maxRecDepth 100000
set_option maxHeartbeats 4000000
namespace K06
open PySem PySem.Spec PyProof.Rows L2 Ev
def adOf (l : List (Nat × Addr)) (i : Nat) : Addr := match tab l i with | some a => a | none => 0
theorem all_mk {l : PySem.W.OpenLaw} {w : World} {K : PySem.W.Frag} {h : Heap} {mg : Str → Option Value} {fa : Addr} (X : K.In h) (G : h.Ns mainGlobals mg) (hfa : mg "law" = some (.ref fa))
    {C3 : Addr} {f0 : Addr} {f1 : Addr} {f2 : Addr} {f3 : Addr} {f4 : Addr} {f5 : Addr} {f6 : Addr} {f7 : Addr} {f8 : Addr} {f9 : Addr} {f10 : Addr} {f11 : Addr} {f12 : Addr} {f13 : Addr} {f14 : Addr} {f15 : Addr} {f16 : Addr} {f17 : Addr} {f18 : Addr} {f19 : Addr} {f20 : Addr} {f21 : Addr} {f22 : Addr} {f23 : Addr} {f24 : Addr} {f25 : Addr} {f26 : Addr} {f27 : Addr} {f28 : Addr} {q0_3 : Addr} {rs0_3 : List Value} {q16_3 : Addr} {rs16_3 : List Value} {q17_3 : Addr} {rs17_3 : List Value} {od0 an0 : Option Addr} {sl0 : Array (Option Value)} {oc0 kV0 dc0 pm0 cd0 ct0 : Value} {od1 an1 : Option Addr} {sl1 : Array (Option Value)} {oc1 kV1 dc1 pm1 cd1 ct1 : Value} {od2 an2 : Option Addr} {sl2 : Array (Option Value)} {oc2 kV2 dc2 pm2 cd2 ct2 : Value} {od3 an3 : Option Addr} {sl3 : Array (Option Value)} {oc3 kV3 dc3 pm3 cd3 ct3 : Value} {od4 an4 : Option Addr} {sl4 : Array (Option Value)} {oc4 kV4 dc4 pm4 cd4 ct4 : Value} {od5 an5 : Option Addr} {sl5 : Array (Option Value)} {oc5 kV5 dc5 pm5 cd5 ct5 : Value} {od6 an6 : Option Addr} {sl6 : Array (Option Value)} {oc6 kV6 dc6 pm6 cd6 ct6 : Value} {od7 an7 : Option Addr} {sl7 : Array (Option Value)} {oc7 kV7 dc7 pm7 cd7 ct7 : Value} {od8 an8 : Option Addr} {sl8 : Array (Option Value)} {oc8 kV8 dc8 pm8 cd8 ct8 : Value} {od9 an9 : Option Addr} {sl9 : Array (Option Value)} {oc9 kV9 dc9 pm9 cd9 ct9 : Value} {od10 an10 : Option Addr} {sl10 : Array (Option Value)} {oc10 kV10 dc10 pm10 cd10 ct10 : Value} {od11 an11 : Option Addr} {sl11 : Array (Option Value)} {oc11 kV11 dc11 pm11 cd11 ct11 : Value} {od12 an12 : Option Addr} {sl12 : Array (Option Value)} {oc12 kV12 dc12 pm12 cd12 ct12 : Value} {od13 an13 : Option Addr} {sl13 : Array (Option Value)} {oc13 kV13 dc13 pm13 cd13 ct13 : Value} {od14 an14 : Option Addr} {sl14 : Array (Option Value)} {oc14 kV14 dc14 pm14 cd14 ct14 : Value} {od15 an15 : Option Addr} {sl15 : Array (Option Value)} {oc15 kV15 dc15 pm15 cd15 ct15 : Value} {od16 an16 : Option Addr} {sl16 : Array (Option Value)} {oc16 kV16 dc16 pm16 cd16 ct16 : Value} {od17 an17 : Option Addr} {sl17 : Array (Option Value)} {oc17 kV17 dc17 pm17 cd17 ct17 : Value} {od18 an18 : Option Addr} {sl18 : Array (Option Value)} {oc18 kV18 dc18 pm18 cd18 ct18 : Value} {od19 an19 : Option Addr} {sl19 : Array (Option Value)} {oc19 kV19 dc19 pm19 cd19 ct19 : Value} {od20 an20 : Option Addr} {sl20 : Array (Option Value)} {oc20 kV20 dc20 pm20 cd20 ct20 : Value} {od21 an21 : Option Addr} {sl21 : Array (Option Value)} {oc21 kV21 dc21 pm21 cd21 ct21 : Value} {od22 an22 : Option Addr} {sl22 : Array (Option Value)} {oc22 kV22 dc22 pm22 cd22 ct22 : Value} {od23 an23 : Option Addr} {sl23 : Array (Option Value)} {oc23 kV23 dc23 pm23 cd23 ct23 : Value} {od24 an24 : Option Addr} {sl24 : Array (Option Value)} {oc24 kV24 dc24 pm24 cd24 ct24 : Value} {od25 an25 : Option Addr} {sl25 : Array (Option Value)} {oc25 kV25 dc25 pm25 cd25 ct25 : Value} {od26 an26 : Option Addr} {sl26 : Array (Option Value)} {oc26 kV26 dc26 pm26 cd26 ct26 : Value} {od27 an27 : Option Addr} {sl27 : Array (Option Value)} {oc27 kV27 dc27 pm27 cd27 ct27 : Value} {od28 an28 : Option Addr} {sl28 : Array (Option Value)} {oc28 kV28 dc28 pm28 cd28 ct28 : Value} {t_MOST_SECTIONS : Tok}
    (nC3 : PySem.W.nsIn K mainGlobals "Numbers" = some (some (.ref C3))) (pgC3 : PySem.W.plainGet K C3 Str.empty = true) (hdC3 : PySem.W.hasDictIn K C3 = true) (poC3 : PySem.W.plainOver K C3 = true)
    (saC3 : PySem.W.findIn K (.ref C3) "__setattr__" = some (some (.builtin "object.__setattr__"))) (ccC3 : PySem.W.findIn K (.ref C3) "__class__" = some (some (.builtin "object.__class__"))) (moC3 : PySem.W.mroIn K C3 (.type "object") = some true) (naC3_row : PySem.W.findIn K (.ref C3) "row" = some none)
    (a1 : PySem.W.nsIn K mainGlobals "is_integer" = some (some (.ref f1))) (a2 : PySem.W.nsIn K mainGlobals "is_stretch" = some (some (.ref f2))) (a3 : PySem.W.nsIn K mainGlobals "check_stretches" = some (some (.ref f3))) (a5 : PySem.W.nsIn K mainGlobals "stretch_text" = some (some (.ref f5)))
    (a7 : PySem.W.nsIn K mainGlobals "has" = some (some (.ref f7))) (a8 : PySem.W.nsIn K mainGlobals "edges_of" = some (some (.ref f8))) (a10 : PySem.W.nsIn K mainGlobals "_law_sip" = some (some (.ref f10))) (a11 : PySem.W.nsIn K mainGlobals "_law_pick" = some (some (.ref f11)))
    (a12 : PySem.W.nsIn K mainGlobals "_law_cuts" = some (some (.ref f12))) (a13 : PySem.W.nsIn K mainGlobals "_law_set" = some (some (.ref f13))) (a18 : PySem.W.nsIn K mainGlobals "_law_cut_words" = some (some (.ref f18))) (a19 : PySem.W.nsIn K mainGlobals "_law_edges" = some (some (.ref f19)))
    (a20 : PySem.W.nsIn K mainGlobals "_law_holds" = some (some (.ref f20))) (a21 : PySem.W.nsIn K mainGlobals "_law_first" = some (some (.ref f21))) (a22 : PySem.W.nsIn K mainGlobals "is_between" = some (some (.ref f22))) (a23 : PySem.W.nsIn K mainGlobals "check_count" = some (some (.ref f23)))
    (a26 : PySem.W.nsIn K mainGlobals "_law_right" = some (some (.ref f26))) (a27 : PySem.W.nsIn K mainGlobals "_law_cup" = some (some (.ref f27))) (a28 : PySem.W.nsIn K mainGlobals "law" = some (some (.ref f28))) (a4_3 : PySem.W.findIn K (.ref C3) "__init__" = some (some (.ref f4)))
    (mkC3 : PySem.W.makesIn K C3 = true) (kpC3 : PySem.W.keepIn K (.ref C3) = true) (i4 : PySem.W.isFn K (.ref f4) = true) (a0_3 : PySem.W.findIn K (.ref C3) "smallest" = some (some (.ref q0_3)))
    (b0_3 : PySem.W.specialIn K (.ref q0_3) "__get__" = some (some (.builtin "property.__get__"))) (d0_3 : PySem.W.takesIn K (.ref q0_3) = some true) (e0_3 : PySem.W.recIn K q0_3 "property" = some (.ref f0 :: rs0_3)) (a6_3 : PySem.W.findIn K (.ref C3) "__str__" = some (some (.ref f6)))
    (i6 : PySem.W.isFn K (.ref f6) = true) (foC3 : PySem.W.findIn K (.ref C3) "__format__" = some (some (.builtin "object.__format__"))) (a9_3 : PySem.W.findIn K (.ref C3) "__contains__" = some (some (.ref f9))) (i9 : PySem.W.isFn K (.ref f9) = true)
    (a14_3 : PySem.W.findIn K (.ref C3) "__repr__" = some (some (.ref f14))) (i14 : PySem.W.isFn K (.ref f14) = true) (a15_3 : PySem.W.findIn K (.ref C3) "__bool__" = some (some (.ref f15))) (i15 : PySem.W.isFn K (.ref f15) = true)
    (a16_3 : PySem.W.findIn K (.ref C3) "endless" = some (some (.ref q16_3))) (b16_3 : PySem.W.specialIn K (.ref q16_3) "__get__" = some (some (.builtin "property.__get__"))) (d16_3 : PySem.W.takesIn K (.ref q16_3) = some true) (e16_3 : PySem.W.recIn K q16_3 "property" = some (.ref f16 :: rs16_3))
    (a17_3 : PySem.W.findIn K (.ref C3) "stretches" = some (some (.ref q17_3))) (b17_3 : PySem.W.specialIn K (.ref q17_3) "__get__" = some (some (.builtin "property.__get__"))) (d17_3 : PySem.W.takesIn K (.ref q17_3) = some true) (e17_3 : PySem.W.recIn K q17_3 "property" = some (.ref f17 :: rs17_3))
    (a24_3 : PySem.W.findIn K (.ref C3) "ascending" = some (some (.ref f24))) (i24 : PySem.W.isFn K (.ref f24) = true) (k24 : PySem.W.keepIn K (.ref f24) = true) (a25_3 : PySem.W.findIn K (.ref C3) "__eq__" = some (some (.ref f25)))
    (i25 : PySem.W.isFn K (.ref f25) = true) (neC3 : PySem.W.findIn K (.ref C3) "__ne__" = some (some (.builtin "object.__ne__"))) (l0 : K.lookup f0 = some ⟨oc0, od0, .func (PySem.W.fnOf "smallest" "Numbers.smallest" (defArgs st_Numbers_smallest) (defBody st_Numbers_smallest) (defScope st_Numbers_smallest) .none kV0 dc0 pm0 an0 cd0 ct0), sl0⟩) (c0 : PySem.W.codeIn K cd0 "Numbers.smallest" = true)
    (k0 : PySem.W.keepIn K (.ref f0) = true) (l1 : K.lookup f1 = some ⟨oc1, od1, .func (PySem.W.fnOf "is_integer" "is_integer" (defArgs st_is_integer) (defBody st_is_integer) (defScope st_is_integer) .none kV1 dc1 pm1 an1 cd1 ct1), sl1⟩) (c1 : PySem.W.codeIn K cd1 "is_integer" = true) (k1 : PySem.W.keepIn K (.ref f1) = true)
    (l2 : K.lookup f2 = some ⟨oc2, od2, .func (PySem.W.fnOf "is_stretch" "is_stretch" (defArgs st_is_stretch) (defBody st_is_stretch) (defScope st_is_stretch) .none kV2 dc2 pm2 an2 cd2 ct2), sl2⟩) (c2 : PySem.W.codeIn K cd2 "is_stretch" = true) (k2 : PySem.W.keepIn K (.ref f2) = true) (l3 : K.lookup f3 = some ⟨oc3, od3, .func (PySem.W.fnOf "check_stretches" "check_stretches" (defArgs st_check_stretches) (defBody st_check_stretches) (defScope st_check_stretches) .none kV3 dc3 pm3 an3 cd3 ct3), sl3⟩)
    (c3 : PySem.W.codeIn K cd3 "check_stretches" = true) (k3 : PySem.W.keepIn K (.ref f3) = true) (l4 : K.lookup f4 = some ⟨oc4, od4, .func (PySem.W.fnOf "__init__" "Numbers.__init__" (defArgs st_NumbersX_initX) (defBody st_NumbersX_initX) (defScope st_NumbersX_initX) .none kV4 dc4 pm4 an4 cd4 ct4), sl4⟩) (c4 : PySem.W.codeIn K cd4 "Numbers.__init__" = true)
    (k4 : PySem.W.keepIn K (.ref f4) = true) (l5 : K.lookup f5 = some ⟨oc5, od5, .func (PySem.W.fnOf "stretch_text" "stretch_text" (defArgs st_stretch_text) (defBody st_stretch_text) (defScope st_stretch_text) .none kV5 dc5 pm5 an5 cd5 ct5), sl5⟩) (c5 : PySem.W.codeIn K cd5 "stretch_text" = true) (k5 : PySem.W.keepIn K (.ref f5) = true)
    (l6 : K.lookup f6 = some ⟨oc6, od6, .func (PySem.W.fnOf "__str__" "Numbers.__str__" (defArgs st_NumbersX_strX) (defBody st_NumbersX_strX) (defScope st_NumbersX_strX) .none kV6 dc6 pm6 an6 cd6 ct6), sl6⟩) (c6 : PySem.W.codeIn K cd6 "Numbers.__str__" = true) (k6 : PySem.W.keepIn K (.ref f6) = true) (l7 : K.lookup f7 = some ⟨oc7, od7, .func (PySem.W.fnOf "has" "has" (defArgs st_has) (defBody st_has) (defScope st_has) .none kV7 dc7 pm7 an7 cd7 ct7), sl7⟩)
    (c7 : PySem.W.codeIn K cd7 "has" = true) (k7 : PySem.W.keepIn K (.ref f7) = true) (l8 : K.lookup f8 = some ⟨oc8, od8, .func (PySem.W.fnOf "edges_of" "edges_of" (defArgs st_edges_of) (defBody st_edges_of) (defScope st_edges_of) .none kV8 dc8 pm8 an8 cd8 ct8), sl8⟩) (c8 : PySem.W.codeIn K cd8 "edges_of" = true)
    (k8 : PySem.W.keepIn K (.ref f8) = true) (l9 : K.lookup f9 = some ⟨oc9, od9, .func (PySem.W.fnOf "__contains__" "Numbers.__contains__" (defArgs st_NumbersX_containsX) (defBody st_NumbersX_containsX) (defScope st_NumbersX_containsX) .none kV9 dc9 pm9 an9 cd9 ct9), sl9⟩) (c9 : PySem.W.codeIn K cd9 "Numbers.__contains__" = true) (k9 : PySem.W.keepIn K (.ref f9) = true)
    (l10 : K.lookup f10 = some ⟨oc10, od10, .func (PySem.W.fnOf "_law_sip" "_law_sip" (defArgs st__law_sip) (defBody st__law_sip) (defScope st__law_sip) .none kV10 dc10 pm10 an10 cd10 ct10), sl10⟩) (c10 : PySem.W.codeIn K cd10 "_law_sip" = true) (k10 : PySem.W.keepIn K (.ref f10) = true) (l11 : K.lookup f11 = some ⟨oc11, od11, .func (PySem.W.fnOf "_law_pick" "_law_pick" (defArgs st__law_pick) (defBody st__law_pick) (defScope st__law_pick) .none kV11 dc11 pm11 an11 cd11 ct11), sl11⟩)
    (c11 : PySem.W.codeIn K cd11 "_law_pick" = true) (k11 : PySem.W.keepIn K (.ref f11) = true) (l12 : K.lookup f12 = some ⟨oc12, od12, .func (PySem.W.fnOf "_law_cuts" "_law_cuts" (defArgs st__law_cuts) (defBody st__law_cuts) (defScope st__law_cuts) .none kV12 dc12 pm12 an12 cd12 ct12), sl12⟩) (c12 : PySem.W.codeIn K cd12 "_law_cuts" = true)
    (k12 : PySem.W.keepIn K (.ref f12) = true) (l13 : K.lookup f13 = some ⟨oc13, od13, .func (PySem.W.fnOf "_law_set" "_law_set" (defArgs st__law_set) (defBody st__law_set) (defScope st__law_set) .none kV13 dc13 pm13 an13 cd13 ct13), sl13⟩) (c13 : PySem.W.codeIn K cd13 "_law_set" = true) (k13 : PySem.W.keepIn K (.ref f13) = true)
    (l14 : K.lookup f14 = some ⟨oc14, od14, .func (PySem.W.fnOf "__repr__" "Numbers.__repr__" (defArgs st_NumbersX_reprX) (defBody st_NumbersX_reprX) (defScope st_NumbersX_reprX) .none kV14 dc14 pm14 an14 cd14 ct14), sl14⟩) (c14 : PySem.W.codeIn K cd14 "Numbers.__repr__" = true) (k14 : PySem.W.keepIn K (.ref f14) = true) (l15 : K.lookup f15 = some ⟨oc15, od15, .func (PySem.W.fnOf "__bool__" "Numbers.__bool__" (defArgs st_NumbersX_boolX) (defBody st_NumbersX_boolX) (defScope st_NumbersX_boolX) .none kV15 dc15 pm15 an15 cd15 ct15), sl15⟩)
    (c15 : PySem.W.codeIn K cd15 "Numbers.__bool__" = true) (k15 : PySem.W.keepIn K (.ref f15) = true) (l16 : K.lookup f16 = some ⟨oc16, od16, .func (PySem.W.fnOf "endless" "Numbers.endless" (defArgs st_Numbers_endless) (defBody st_Numbers_endless) (defScope st_Numbers_endless) .none kV16 dc16 pm16 an16 cd16 ct16), sl16⟩) (c16 : PySem.W.codeIn K cd16 "Numbers.endless" = true)
    (k16 : PySem.W.keepIn K (.ref f16) = true) (l17 : K.lookup f17 = some ⟨oc17, od17, .func (PySem.W.fnOf "stretches" "Numbers.stretches" (defArgs st_Numbers_stretches) (defBody st_Numbers_stretches) (defScope st_Numbers_stretches) .none kV17 dc17 pm17 an17 cd17 ct17), sl17⟩) (c17 : PySem.W.codeIn K cd17 "Numbers.stretches" = true) (k17 : PySem.W.keepIn K (.ref f17) = true)
    (l18 : K.lookup f18 = some ⟨oc18, od18, .func (PySem.W.fnOf "_law_cut_words" "_law_cut_words" (defArgs st__law_cut_words) (defBody st__law_cut_words) (defScope st__law_cut_words) .none kV18 dc18 pm18 an18 cd18 ct18), sl18⟩) (c18 : PySem.W.codeIn K cd18 "_law_cut_words" = true) (k18 : PySem.W.keepIn K (.ref f18) = true) (l19 : K.lookup f19 = some ⟨oc19, od19, .func (PySem.W.fnOf "_law_edges" "_law_edges" (defArgs st__law_edges) (defBody st__law_edges) (defScope st__law_edges) .none kV19 dc19 pm19 an19 cd19 ct19), sl19⟩)
    (c19 : PySem.W.codeIn K cd19 "_law_edges" = true) (k19 : PySem.W.keepIn K (.ref f19) = true) (l20 : K.lookup f20 = some ⟨oc20, od20, .func (PySem.W.fnOf "_law_holds" "_law_holds" (defArgs st__law_holds) (defBody st__law_holds) (defScope st__law_holds) .none kV20 dc20 pm20 an20 cd20 ct20), sl20⟩) (c20 : PySem.W.codeIn K cd20 "_law_holds" = true)
    (k20 : PySem.W.keepIn K (.ref f20) = true) (l21 : K.lookup f21 = some ⟨oc21, od21, .func (PySem.W.fnOf "_law_first" "_law_first" (defArgs st__law_first) (defBody st__law_first) (defScope st__law_first) .none kV21 dc21 pm21 an21 cd21 ct21), sl21⟩) (c21 : PySem.W.codeIn K cd21 "_law_first" = true) (k21 : PySem.W.keepIn K (.ref f21) = true)
    (l22 : K.lookup f22 = some ⟨oc22, od22, .func (PySem.W.fnOf "is_between" "is_between" (defArgs st_is_between) (defBody st_is_between) (defScope st_is_between) .none kV22 dc22 pm22 an22 cd22 ct22), sl22⟩) (c22 : PySem.W.codeIn K cd22 "is_between" = true) (k22 : PySem.W.keepIn K (.ref f22) = true) (l23 : K.lookup f23 = some ⟨oc23, od23, .func (PySem.W.fnOf "check_count" "check_count" (defArgs st_check_count) (defBody st_check_count) (defScope st_check_count) .none kV23 dc23 pm23 an23 cd23 ct23), sl23⟩)
    (c23 : PySem.W.codeIn K cd23 "check_count" = true) (k23 : PySem.W.keepIn K (.ref f23) = true) (l24 : K.lookup f24 = some ⟨oc24, od24, .func (PySem.W.fnOf "ascending" "Numbers.ascending" (defArgs st_Numbers_ascending) (defBody st_Numbers_ascending) (defScope st_Numbers_ascending) .none kV24 dc24 pm24 an24 cd24 ct24), sl24⟩) (c24 : PySem.W.codeIn K cd24 "Numbers.ascending" = true)
    (l25 : K.lookup f25 = some ⟨oc25, od25, .func (PySem.W.fnOf "__eq__" "Numbers.__eq__" (defArgs st_NumbersX_eqX) (defBody st_NumbersX_eqX) (defScope st_NumbersX_eqX) .none kV25 dc25 pm25 an25 cd25 ct25), sl25⟩) (c25 : PySem.W.codeIn K cd25 "Numbers.__eq__" = true) (k25 : PySem.W.keepIn K (.ref f25) = true) (l26 : K.lookup f26 = some ⟨oc26, od26, .func (PySem.W.fnOf "_law_right" "_law_right" (defArgs st__law_right) (defBody st__law_right) (defScope st__law_right) .none kV26 dc26 pm26 an26 cd26 ct26), sl26⟩)
    (c26 : PySem.W.codeIn K cd26 "_law_right" = true) (k26 : PySem.W.keepIn K (.ref f26) = true) (l27 : K.lookup f27 = some ⟨oc27, od27, .func (PySem.W.fnOf "_law_cup" "_law_cup" (defArgs st__law_cup) (defBody st__law_cup) (defScope st__law_cup) .none kV27 dc27 pm27 an27 cd27 ct27), sl27⟩) (c27 : PySem.W.codeIn K cd27 "_law_cup" = true)
    (k27 : PySem.W.keepIn K (.ref f27) = true) (l28 : K.lookup f28 = some ⟨oc28, od28, .func (PySem.W.fnOf "law" "law" (defArgs st_law) (defBody st_law) (defScope st_law) .none kV28 dc28 pm28 an28 cd28 ct28), sl28⟩) (c28 : PySem.W.codeIn K cd28 "law" = true) (k28 : PySem.W.keepIn K (.ref f28) = true)
    (z_NotImplemented : PySem.W.nsIn K mainGlobals "NotImplemented" = some none) (z_abs : PySem.W.nsIn K mainGlobals "abs" = some none) (z_all : PySem.W.nsIn K mainGlobals "all" = some none) (z_any : PySem.W.nsIn K mainGlobals "any" = some none)
    (z_bool : PySem.W.nsIn K mainGlobals "bool" = some none) (z_divmod : PySem.W.nsIn K mainGlobals "divmod" = some none) (z_enumerate : PySem.W.nsIn K mainGlobals "enumerate" = some none) (z_int : PySem.W.nsIn K mainGlobals "int" = some none)
    (z_isinstance : PySem.W.nsIn K mainGlobals "isinstance" = some none) (z_len : PySem.W.nsIn K mainGlobals "len" = some none) (z_list : PySem.W.nsIn K mainGlobals "list" = some none) (z_max : PySem.W.nsIn K mainGlobals "max" = some none)
    (z_min : PySem.W.nsIn K mainGlobals "min" = some none) (z_range : PySem.W.nsIn K mainGlobals "range" = some none) (z_repr : PySem.W.nsIn K mainGlobals "repr" = some none) (z_str : PySem.W.nsIn K mainGlobals "str" = some none)
    (z_tuple : PySem.W.nsIn K mainGlobals "tuple" = some none) (v_MOST_SECTIONS : PySem.W.nsIn K mainGlobals "MOST_SECTIONS" = some (some (.int  100 t_MOST_SECTIONS))) (ihn : PySem.W.specialIn K (.builtin "object.__class__") "__get__" = some (some (.builtin "getset_descriptor.__get__"))) (iht : PySem.W.takesIn K (.builtin "object.__class__") = some true)
    (ic3 : PySem.W.isClsIn K C3 = true) (ty3 : PySem.W.typeIn K (.ref C3) = some (.type "type")) (kk3_3 : PySem.W.subIn K (.ref C3) (.ref C3) = some true) (ct3_none_ : PySem.W.subIn K (.ref C3) (.type "NoneType") = some false)
    (tc3_none_ : PySem.W.subIn K (.type "NoneType") (.ref C3) = some false) (ct3_bool : PySem.W.subIn K (.ref C3) (.type "bool") = some false) (tc3_bool : PySem.W.subIn K (.type "bool") (.ref C3) = some false) (ct3_int : PySem.W.subIn K (.ref C3) (.type "int") = some false)
    (tc3_int : PySem.W.subIn K (.type "int") (.ref C3) = some false) (ct3_str : PySem.W.subIn K (.ref C3) (.type "str") = some false) (tc3_str : PySem.W.subIn K (.type "str") (.ref C3) = some false) (ct3_tuple : PySem.W.subIn K (.ref C3) (.type "tuple") = some false)
    (tc3_tuple : PySem.W.subIn K (.type "tuple") (.ref C3) = some false) (ct3_list : PySem.W.subIn K (.ref C3) (.type "list") = some false) (tc3_list : PySem.W.subIn K (.type "list") (.ref C3) = some false) (ct3_dict : PySem.W.subIn K (.ref C3) (.type "dict") = some false)
    (tc3_dict : PySem.W.subIn K (.type "dict") (.ref C3) = some false)
    : ∃ G : Sg, G.K = K ∧ ∀ base : Heap, K.In base → base.Ns mainGlobals mg → FnA l.prog w K mg base G 14 fa sem_law := by
  have e := hfa.symm.trans (PySem.W.mg_of X G a28)
  cases e
  refine ⟨GG true K (adOf [(1003, C3), (0, f0), (1, f1), (2, f2), (3, f3), (4, f4), (5, f5), (6, f6), (7, f7), (8, f8), (9, f9), (10, f10), (11, f11), (12, f12), (13, f13), (14, f14), (15, f15), (16, f16), (17, f17), (18, f18), (19, f19), (20, f20), (21, f21), (22, f22), (23, f23), (24, f24), (25, f25), (26, f26), (27, f27), (28, fa)]), rfl, fun base _ _ => ?_⟩
  have T : Facts l.prog w K mg base (adOf [(1003, C3), (0, f0), (1, f1), (2, f2), (3, f3), (4, f4), (5, f5), (6, f6), (7, f7), (8, f8), (9, f9), (10, f10), (11, f11), (12, f12), (13, f13), (14, f14), (15, f15), (16, f16), (17, f17), (18, f18), (19, f19), (20, f20), (21, f21), (22, f22), (23, f23), (24, f24), (25, f25), (26, f26), (27, f27), (28, fa)]) :=
    { k_Numbers := PySem.W.mg_of X G nC3
      cl_Numbers := ⟨pgC3, hdC3, poC3, saC3⟩
      na_Numbers_row := naC3_row
      g_is_integer := PySem.W.mg_of X G a1
      g_is_stretch := PySem.W.mg_of X G a2
      g_check_stretches := PySem.W.mg_of X G a3
      g_stretch_text := PySem.W.mg_of X G a5
      g_has := PySem.W.mg_of X G a7
      g_edges_of := PySem.W.mg_of X G a8
      g__law_sip := PySem.W.mg_of X G a10
      g__law_pick := PySem.W.mg_of X G a11
      g__law_cuts := PySem.W.mg_of X G a12
      g__law_set := PySem.W.mg_of X G a13
      g__law_cut_words := PySem.W.mg_of X G a18
      g__law_edges := PySem.W.mg_of X G a19
      g__law_holds := PySem.W.mg_of X G a20
      g__law_first := PySem.W.mg_of X G a21
      g_is_between := PySem.W.mg_of X G a22
      g_check_count := PySem.W.mg_of X G a23
      g__law_right := PySem.W.mg_of X G a26
      g__law_cup := PySem.W.mg_of X G a27
      g_law := PySem.W.mg_of X G a28
      m_Numbers := ⟨mkC3, a4_3, i4, kpC3⟩
      p_Numbers_Numbers_smallest := ⟨_, ⟨a0_3, b0_3, d0_3, ⟨_, e0_3⟩⟩⟩
      x_Numbers_NumbersX_strX := ⟨a6_3, i6, foC3, moC3⟩
      q_Numbers_NumbersX_containsX := ⟨a9_3, i9⟩
      x_Numbers_NumbersX_reprX := ⟨a14_3, i14, foC3, moC3⟩
      q_Numbers_NumbersX_boolX := ⟨a15_3, i15⟩
      p_Numbers_Numbers_endless := ⟨_, ⟨a16_3, b16_3, d16_3, ⟨_, e16_3⟩⟩⟩
      p_Numbers_Numbers_stretches := ⟨_, ⟨a17_3, b17_3, d17_3, ⟨_, e17_3⟩⟩⟩
      t_Numbers_Numbers_ascending := ⟨a24_3, i24, k24⟩
      e_Numbers_NumbersX_eqX := ⟨a25_3, i25, neC3, moC3⟩
      d_Numbers_NumbersX_eqX := ⟨ct3_tuple, ct3_list, Ev.all6 tc3_none_ tc3_bool tc3_int tc3_str tc3_tuple tc3_list⟩
      lw_Numbers_NumbersX_eqX := Ev.all6 ct3_none_ ct3_bool ct3_int ct3_str ct3_tuple ct3_list
      f_Numbers_smallest := ⟨_, fun_mk (st := st_Numbers_smallest) l0 c0 k0⟩
      f_is_integer := ⟨_, fun_mk (st := st_is_integer) l1 c1 k1⟩
      f_is_stretch := ⟨_, fun_mk (st := st_is_stretch) l2 c2 k2⟩
      f_check_stretches := ⟨_, fun_mk (st := st_check_stretches) l3 c3 k3⟩
      f_NumbersX_initX := ⟨_, fun_mk (st := st_NumbersX_initX) l4 c4 k4⟩
      f_stretch_text := ⟨_, fun_mk (st := st_stretch_text) l5 c5 k5⟩
      f_NumbersX_strX := ⟨_, fun_mk (st := st_NumbersX_strX) l6 c6 k6⟩
      f_has := ⟨_, fun_mk (st := st_has) l7 c7 k7⟩
      f_edges_of := ⟨_, fun_mk (st := st_edges_of) l8 c8 k8⟩
      f_NumbersX_containsX := ⟨_, fun_mk (st := st_NumbersX_containsX) l9 c9 k9⟩
      f__law_sip := ⟨_, fun_mk (st := st__law_sip) l10 c10 k10⟩
      f__law_pick := ⟨_, fun_mk (st := st__law_pick) l11 c11 k11⟩
      f__law_cuts := ⟨_, fun_mk (st := st__law_cuts) l12 c12 k12⟩
      f__law_set := ⟨_, fun_mk (st := st__law_set) l13 c13 k13⟩
      f_NumbersX_reprX := ⟨_, fun_mk (st := st_NumbersX_reprX) l14 c14 k14⟩
      f_NumbersX_boolX := ⟨_, fun_mk (st := st_NumbersX_boolX) l15 c15 k15⟩
      f_Numbers_endless := ⟨_, fun_mk (st := st_Numbers_endless) l16 c16 k16⟩
      f_Numbers_stretches := ⟨_, fun_mk (st := st_Numbers_stretches) l17 c17 k17⟩
      f__law_cut_words := ⟨_, fun_mk (st := st__law_cut_words) l18 c18 k18⟩
      f__law_edges := ⟨_, fun_mk (st := st__law_edges) l19 c19 k19⟩
      f__law_holds := ⟨_, fun_mk (st := st__law_holds) l20 c20 k20⟩
      f__law_first := ⟨_, fun_mk (st := st__law_first) l21 c21 k21⟩
      f_is_between := ⟨_, fun_mk (st := st_is_between) l22 c22 k22⟩
      f_check_count := ⟨_, fun_mk (st := st_check_count) l23 c23 k23⟩
      f_Numbers_ascending := ⟨_, fun_mk (st := st_Numbers_ascending) l24 c24 k24⟩
      f_NumbersX_eqX := ⟨_, fun_mk (st := st_NumbersX_eqX) l25 c25 k25⟩
      f__law_right := ⟨_, fun_mk (st := st__law_right) l26 c26 k26⟩
      f__law_cup := ⟨_, fun_mk (st := st__law_cup) l27 c27 k27⟩
      f_law := ⟨_, fun_mk (st := st_law) l28 c28 k28⟩
      z_NotImplemented := PySem.W.mg_none_of X G z_NotImplemented
      z_abs := PySem.W.mg_none_of X G z_abs
      z_all := PySem.W.mg_none_of X G z_all
      z_any := PySem.W.mg_none_of X G z_any
      z_bool := PySem.W.mg_none_of X G z_bool
      z_divmod := PySem.W.mg_none_of X G z_divmod
      z_enumerate := PySem.W.mg_none_of X G z_enumerate
      z_int := PySem.W.mg_none_of X G z_int
      z_isinstance := PySem.W.mg_none_of X G z_isinstance
      z_len := PySem.W.mg_none_of X G z_len
      z_list := PySem.W.mg_none_of X G z_list
      z_max := PySem.W.mg_none_of X G z_max
      z_min := PySem.W.mg_none_of X G z_min
      z_range := PySem.W.mg_none_of X G z_range
      z_repr := PySem.W.mg_none_of X G z_repr
      z_str := PySem.W.mg_none_of X G z_str
      z_tuple := PySem.W.mg_none_of X G z_tuple
      c_MOST_SECTIONS := fun _ => glob_int (PySem.W.mg_of X G v_MOST_SECTIONS)
      isa := fun _ Y hY => by
        subst hY
        refine ⟨fun c hc => ?_, ihn, iht, fun c c' b hb => ?_, fun c t hc => ?_, fun t c hc => ?_⟩
        · have hc := of_decide_eq_true hc
          simp only [List.mem_cons, List.mem_nil_iff, or_false] at hc
          rcases hc with rfl
          · exact ⟨⟨pgC3, hdC3, poC3, saC3⟩, ccC3, moC3⟩
        · split at hb
          · next hh =>
            obtain ⟨h1, h2⟩ := hh
            simp only [List.mem_cons, List.mem_nil_iff, or_false] at h1 h2
            rcases h1 with rfl <;> rcases h2 with rfl <;> cases hb
            · exact Ev.kit_cc ic3 ty3 kk3_3 kk3_3
          · cases hb
        · have hc := of_decide_eq_true hc
          simp only [List.mem_cons, List.mem_nil_iff, or_false] at hc
          rcases hc with rfl <;> cases t
          · exact Ev.kit_ct (by decide +kernel) ct3_none_
          · exact Ev.kit_ct (by decide +kernel) ct3_bool
          · exact Ev.kit_ct (by decide +kernel) ct3_int
          · exact Ev.kit_ct (by decide +kernel) ct3_str
          · exact Ev.kit_ct (by decide +kernel) ct3_tuple
          · exact Ev.kit_ct (by decide +kernel) ct3_list
          · exact Ev.kit_ct (by decide +kernel) ct3_dict
        · have hc := of_decide_eq_true hc
          simp only [List.mem_cons, List.mem_nil_iff, or_false] at hc
          rcases hc with rfl <;> cases t
          · exact Ev.kit_cc ic3 ty3 tc3_none_ kk3_3
          · exact Ev.kit_cc ic3 ty3 tc3_bool kk3_3
          · exact Ev.kit_cc ic3 ty3 tc3_int kk3_3
          · exact Ev.kit_cc ic3 ty3 tc3_str kk3_3
          · exact Ev.kit_cc ic3 ty3 tc3_tuple kk3_3
          · exact Ev.kit_cc ic3 ty3 tc3_list kk3_3
          · exact Ev.kit_cc ic3 ty3 tc3_dict kk3_3 }
  exact ok_law T
end K06
open PySem PySem.W PyProof.Rows
set_option maxHeartbeats 0 in
theorem PySem.Challenge.cw_rungladders_k06_sets_of_numbers_made_holds : PySem.Challenge.rw_rungladders_k06_sets_of_numbers_made.Holds := by
  refine hd06 ?_
  k_fill
  refine Ev.end_walk (l := PySem.Challenge.rw_rungladders_k06_sets_of_numbers_made) (n := 63) (k := 14) rfl (by decide) rfl ⟨rfl, by decide, by decide⟩ (fun w h Y => Hk.cIn_of Y) ?F K06.law_true
  case F =>
    intro w mg fa h KX G hmg
    refine' K06.all_mk KX G hmg ?nC3 ?pgC3 ?hdC3 ?poC3 ?saC3 ?ccC3 ?moC3 ?naC3_row ?a1 ?a2 ?a3 ?a5 ?a7 ?a8 ?a10 ?a11 ?a12 ?a13 ?a18 ?a19 ?a20 ?a21 ?a22 ?a23 ?a26 ?a27 ?a28 ?a4_3 ?mkC3 ?kpC3 ?i4 ?a0_3 ?b0_3 ?d0_3 ?e0_3 ?a6_3 ?i6 ?foC3 ?a9_3 ?i9 ?a14_3 ?i14 ?a15_3 ?i15 ?a16_3 ?b16_3 ?d16_3 ?e16_3 ?a17_3 ?b17_3 ?d17_3 ?e17_3 ?a24_3 ?i24 ?k24 ?a25_3 ?i25 ?neC3 ?l0 ?c0 ?k0 ?l1 ?c1 ?k1 ?l2 ?c2 ?k2 ?l3 ?c3 ?k3 ?l4 ?c4 ?k4 ?l5 ?c5 ?k5 ?l6 ?c6 ?k6 ?l7 ?c7 ?k7 ?l8 ?c8 ?k8 ?l9 ?c9 ?k9 ?l10 ?c10 ?k10 ?l11 ?c11 ?k11 ?l12 ?c12 ?k12 ?l13 ?c13 ?k13 ?l14 ?c14 ?k14 ?l15 ?c15 ?k15 ?l16 ?c16 ?k16 ?l17 ?c17 ?k17 ?l18 ?c18 ?k18 ?l19 ?c19 ?k19 ?l20 ?c20 ?k20 ?l21 ?c21 ?k21 ?l22 ?c22 ?k22 ?l23 ?c23 ?k23 ?l24 ?c24 ?l25 ?c25 ?k25 ?l26 ?c26 ?k26 ?l27 ?c27 ?k27 ?l28 ?c28 ?k28 ?z_NotImplemented ?z_abs ?z_all ?z_any ?z_bool ?z_divmod ?z_enumerate ?z_int ?z_isinstance ?z_len ?z_list ?z_max ?z_min ?z_range ?z_repr ?z_str ?z_tuple ?v_MOST_SECTIONS ?ihn ?iht ?ic3 ?ty3 ?kk3_3 ?ct3_none_ ?tc3_none_ ?ct3_bool ?tc3_bool ?ct3_int ?tc3_int ?ct3_str ?tc3_str ?ct3_tuple ?tc3_tuple ?ct3_list ?tc3_list ?ct3_dict ?tc3_dict
    (case nC3 => k_is); (case pgC3 => k_is); (case hdC3 => k_is); (case poC3 => k_is); (case saC3 => k_is); (case ccC3 => k_is)
    (case moC3 => k_is); (case naC3_row => k_is); (case a1 => k_is); (case a2 => k_is); (case a3 => k_is); (case a5 => k_is)
    (case a7 => k_is); (case a8 => k_is); (case a10 => k_is); (case a11 => k_is); (case a12 => k_is); (case a13 => k_is)
    (case a18 => k_is); (case a19 => k_is); (case a20 => k_is); (case a21 => k_is); (case a22 => k_is); (case a23 => k_is)
    (case a26 => k_is); (case a27 => k_is); (case a28 => k_is); (case a4_3 => k_is); (case mkC3 => k_is); (case kpC3 => k_is)
    (case i4 => k_is); (case a0_3 => k_is); (case b0_3 => k_is); (case d0_3 => k_is); (case e0_3 => k_is); (case a6_3 => k_is)
    (case i6 => k_is); (case foC3 => k_is); (case a9_3 => k_is); (case i9 => k_is); (case a14_3 => k_is); (case i14 => k_is)
    (case a15_3 => k_is); (case i15 => k_is); (case a16_3 => k_is); (case b16_3 => k_is); (case d16_3 => k_is); (case e16_3 => k_is)
    (case a17_3 => k_is); (case b17_3 => k_is); (case d17_3 => k_is); (case e17_3 => k_is); (case a24_3 => k_is); (case i24 => k_is)
    (case k24 => k_is); (case a25_3 => k_is); (case i25 => k_is); (case neC3 => k_is); (case l0 => k_is); (case c0 => k_is)
    (case k0 => k_is); (case l1 => k_is); (case c1 => k_is); (case k1 => k_is); (case l2 => k_is); (case c2 => k_is)
    (case k2 => k_is); (case l3 => k_is); (case c3 => k_is); (case k3 => k_is); (case l4 => k_is); (case c4 => k_is)
    (case k4 => k_is); (case l5 => k_is); (case c5 => k_is); (case k5 => k_is); (case l6 => k_is); (case c6 => k_is)
    (case k6 => k_is); (case l7 => k_is); (case c7 => k_is); (case k7 => k_is); (case l8 => k_is); (case c8 => k_is)
    (case k8 => k_is); (case l9 => k_is); (case c9 => k_is); (case k9 => k_is); (case l10 => k_is); (case c10 => k_is)
    (case k10 => k_is); (case l11 => k_is); (case c11 => k_is); (case k11 => k_is); (case l12 => k_is); (case c12 => k_is)
    (case k12 => k_is); (case l13 => k_is); (case c13 => k_is); (case k13 => k_is); (case l14 => k_is); (case c14 => k_is)
    (case k14 => k_is); (case l15 => k_is); (case c15 => k_is); (case k15 => k_is); (case l16 => k_is); (case c16 => k_is)
    (case k16 => k_is); (case l17 => k_is); (case c17 => k_is); (case k17 => k_is); (case l18 => k_is); (case c18 => k_is)
    (case k18 => k_is); (case l19 => k_is); (case c19 => k_is); (case k19 => k_is); (case l20 => k_is); (case c20 => k_is)
    (case k20 => k_is); (case l21 => k_is); (case c21 => k_is); (case k21 => k_is); (case l22 => k_is); (case c22 => k_is)
    (case k22 => k_is); (case l23 => k_is); (case c23 => k_is); (case k23 => k_is); (case l24 => k_is); (case c24 => k_is)
    (case l25 => k_is); (case c25 => k_is); (case k25 => k_is); (case l26 => k_is); (case c26 => k_is); (case k26 => k_is)
    (case l27 => k_is); (case c27 => k_is); (case k27 => k_is); (case l28 => k_is); (case c28 => k_is); (case k28 => k_is)
    (case z_NotImplemented => k_is); (case z_abs => k_is); (case z_all => k_is); (case z_any => k_is); (case z_bool => k_is); (case z_divmod => k_is)
    (case z_enumerate => k_is); (case z_int => k_is); (case z_isinstance => k_is); (case z_len => k_is); (case z_list => k_is); (case z_max => k_is)
    (case z_min => k_is); (case z_range => k_is); (case z_repr => k_is); (case z_str => k_is); (case z_tuple => k_is); (case v_MOST_SECTIONS => k_is)
    (case ihn => k_is); (case iht => k_is); (case ic3 => k_is); (case ty3 => k_is); (case kk3_3 => k_is); (case ct3_none_ => k_is)
    (case tc3_none_ => k_is); (case ct3_bool => k_is); (case tc3_bool => k_is); (case ct3_int => k_is); (case tc3_int => k_is); (case ct3_str => k_is)
    (case tc3_str => k_is); (case ct3_tuple => k_is); (case tc3_tuple => k_is); (case ct3_list => k_is); (case tc3_list => k_is); (case ct3_dict => k_is)
    (case tc3_dict => k_is)
