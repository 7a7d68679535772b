import PyProof.Rows.All
import Wide.All
import OpenK.AllK
import Wide.FinOn
import HandS.Text
import HandS.Comp
import HandS.Iter
import HandS.Ends
import HandS.ExcOwn
import HandS.WideBits
import HandS.Wide
import HandS.TupAny
import HandS.TupMul
import HandS.Words
import HandS.Property
import HandS.TryOnly
import HandS.IsInst
import HandS.FStr
import HandS.RaiseMore
import PyProof.ReprRoads
import HandS.Deep
import HandS.Style
import HandS.Star
import HandS.ClsMeth
import HandS.SlotsOwn
import KE.GoesEnum
import HandS.EndBits
import PyProof.InstNe
import KE.KCallOwn
import KE.KFmtOwn
import HandS.Nested
import KE.KSuper
import HandS.Flt
import KE.DatumOrd
import HandS.More
import PyProof.NeKinds
import HandS.GenList
import PyProof.FactsAll.dict
import HandS.HeadHook3
import KE.RegKSuper
import HandS.Zip
import HandS.SortInts
import PyProof.SliceList
import PyProof.P3In
import PySem.Challenge.RW_rungladders_k72_patterns_and_limits_judg
set_option Elab.async false
set_option linter.all false
local macro_rules | `(tactic| leaf_len) => `(tactic| first | exact Or.inl rfl | exact Or.inr (Or.inl rfl) | exact Or.inr (Or.inr rfl))
local macro_rules | `(tactic| mem_news) => `(tactic| first | exact Or.inl rfl | exact Or.inr rfl)
set_option maxRecDepth 100000
set_option maxHeartbeats 0
namespace Hk
open PySem PySem.W
noncomputable def pk (os : List Obj) : List Nat → Nat → List (Option Obj) :=
  List.rec (motive := fun _ => List Nat → Nat → List (Option Obj)) (fun _ _ => []) (fun o _ ih as i => match as with
    | [] => []
    | a :: as' => match Nat.beq a i with
      | true => alive o :: ih as' (Nat.succ i)
      | false => ih (a :: as') (Nat.succ i)) os
theorem pk_of : ∀ (os : List Obj) (as : List Nat) (i : Nat) (pre : List Obj), pre.length = i → (pk os as i).length = as.length → as.map (fun a => (pre ++ os)[a]?.bind alive) = pk os as i
  | [], as, i, pre, _, h => by
    have h : 0 = as.length := h
    obtain rfl : as = [] := List.length_eq_zero_iff.mp h.symm
    rfl
  | o :: os, [], i, pre, _, _ => rfl
  | o :: os, a :: as, i, pre, hp, h => by
    have e : pk (o :: os) (a :: as) i = match Nat.beq a i with
      | true => alive o :: pk os as (Nat.succ i)
      | false => pk os (a :: as) (Nat.succ i) := rfl
    rw [e] at h ⊢
    have ap : pre ++ o :: os = (pre ++ [o]) ++ os := by rw [List.append_assoc]; rfl
    cases q : Nat.beq a i with
    | true =>
      rw [q] at h
      have ai : a = i := Nat.eq_of_beq_eq_true q
      subst ai hp
      have ih := pk_of os as (Nat.succ pre.length) (pre ++ [o]) (by rw [List.length_append]; rfl) (Nat.succ.inj h)
      show _ :: _ = alive o :: pk os as (Nat.succ pre.length)
      rw [← ih, ap]
      congr 1
      rw [← ap]
      show (pre ++ o :: os)[pre.length]?.bind alive = alive o
      rw [List.getElem?_append_right (Nat.le_refl _), Nat.sub_self]
      rfl
    | false =>
      rw [q] at h
      have ih := pk_of os (a :: as) (Nat.succ i) (pre ++ [o]) (by rw [List.length_append, hp]; rfl) h
      show _ = pk os (a :: as) (Nat.succ i)
      rw [← ih, ap]
theorem get_alive (h : Heap) (a : Nat) : h.get? a = h.objs.toList[a]?.bind alive := by
  unfold Heap.get?
  rw [Array.getElem?_toList]
  rcases h.objs[a]? with _ | ⟨c, d, dt, sl⟩
  · rfl
  · cases dt <;> rfl
theorem hk_of {K : Params → Frag} {as : List Addr} (e : ∀ P, as = (K P).map (·.1)) (w : World) (s : Shared) (x : pk s.heap.objs.toList as 0 = (K w.params).map fun p => some p.2) : InK K w s.heap := by
  refine InK.of e w s ?_
  have l : (pk s.heap.objs.toList as 0).length = as.length := by
    rw [x, List.length_map]
    conv => rhs; rw [e w.params]
    rw [List.length_map]
  rw [← x, ← pk_of s.heap.objs.toList as 0 [] rfl l]
  exact List.map_congr_left fun a _ => get_alive _ a
noncomputable def cHook (K : Params → Frag) (as : List Addr) (e : ∀ P, as = (K P).map (·.1)) : Hook :=
  ⟨List (Option Obj), fun s => pk s.heap.objs.toList as 0, fun w => (K w.params).map fun p => some p.2, InK K, hk_of e, InK.keeps⟩
theorem cIn_of {K : Params → Frag} {as : List Addr} {e : ∀ P, as = (K P).map (·.1)} {w : World} {h : Heap} (Y : (cHook K as e).says w h) : (K w.params).In h := Y
end Hk
local macro_rules
  | `(tactic| o_head ($f:ident $k $a $p)) => if f.getId.eraseMacroScopes == `Hk.cHook then Lean.Macro.throwUnsupported else `(tactic| o_head (Hk.cHook $k $a $p))
def PySem.W.Fast.tw9323104626937088320 : Nat := 0
def PySem.W.Fast.tw12208672541019773568 : Nat := 0
def PySem.W.Fast.tw15647817415381570497 : Nat := 0
def PySem.W.Fast.tw15976773404065391234 : Nat := 0
def PySem.W.Fast.tw14991619776600518724 : Nat := 0
def PySem.W.Fast.tw11159327707182189796 : Nat := 0
def PySem.W.Fast.tw11411095648644231365 : Nat := 0
def PySem.W.Fast.tw14925869781455545893 : Nat := 0
def PySem.W.Fast.tw14348438028056931558 : Nat := 0
def PySem.W.Fast.tw15953666415366371046 : Nat := 0
def PySem.W.Fast.tw10104573017592971847 : Nat := 0
def PySem.W.Fast.tw6779675030959141673 : Nat := 0
def PySem.W.Fast.tw2744233797589016330 : Nat := 0
def PySem.W.Fast.tw7798651430881187403 : Nat := 0
def PySem.W.Fast.tw14876037765388080300 : Nat := 0
def PySem.W.Fast.tw3010321179752215980 : Nat := 0
def PySem.W.Fast.tw6347689334617270702 : Nat := 0
def PySem.W.Fast.tw9777896284066918799 : Nat := 0
def PySem.W.Fast.tw625922318797188240 : Nat := 0
def PySem.W.Fast.tw3036933756345809456 : Nat := 0
def PySem.W.Fast.tw505794369953966481 : Nat := 0
def PySem.W.Fast.tw9233967235397086705 : Nat := 0
def PySem.W.Fast.tw528054944813920913 : Nat := 0
def PySem.W.Fast.tw12009496968926370994 : Nat := 0
def PySem.W.Fast.tw7219792940711778610 : Nat := 0
def PySem.W.Fast.tw6351531912990176372 : Nat := 0
def PySem.W.Fast.tw4297549086507704500 : Nat := 0
def PySem.W.Fast.tw15654974422089454229 : Nat := 0
def PySem.W.Fast.tw17298024645135137942 : Nat := 0
def PySem.W.Fast.tw9899790280373145719 : Nat := 0
def PySem.W.Fast.tw10239082919076753656 : Nat := 0
def PySem.W.Fast.tw7868119705060330424 : Nat := 0
def PySem.W.Fast.tw96503388632768537 : Nat := 0
def PySem.W.Fast.tw9999927715531490140 : Nat := 0
def PySem.W.Fast.tw1598062701879479165 : Nat := 0
def PySem.W.Fast.tw9531898483145013438 : Nat := 0
open_top hd72 for PySem.Challenge.rw_rungladders_k72_patterns_and_limits_judg
set_option maxRecDepth 100000
namespace Ev
open PySem L2
inductive TyN where
  | none_ | bool | int | str | tuple | list | dict
  deriving DecidableEq
def TyN.name : TyN → String
  | .none_ => "NoneType" | .bool => "bool" | .int => "int" | .str => "str" | .tuple => "tuple" | .list => "list" | .dict => "dict"
inductive D where
  | non | bl (b : Bool) | int (i : Int) | str (x : Str)
  | tup (ds : List D) | lst (ds : List D) | scr (ds : List D)
  | dct (ks : List Key) (ds : List D)
  | ins (c : Nat) (ds : List D)
  | ref (n : Nat)
  | ty (t : TyN) | cls (c : Nat)
  deriving Inhabited
inductive Ob where
  | lst (ds : List D) | dct (ks : List Key) (ds : List D) | ins (c : Nat) (ds : List D)
  deriving Inhabited
structure Exn where
  cls : Nat
  arg : Option D
  deriving Inhabited
structure Sg where
  K : PySem.W.Frag
  ca : Nat → Addr
  fn : Nat → List Str
  xc : Nat → Value
  xf : Nat → Str
  gd : Bool := true
structure Wd where
  m : List Addr
  F : Addr → Prop
  H : Hp
  x : Option Addr := none
def RdF (w : Wd) (a : Addr) (o : HO) : Prop := w.F a ∧ Rd w.H a o
def KTup (K : PySem.W.Frag) (a : Addr) (xs : List V) : Prop := ∃ (o : Obj) (its : Array Value) (n : Nat), K.lookup a = some o ∧ o.cls = .type "tuple" ∧ o.data = .seq its n ∧ its.size ≤ sizeLine ∧ Vals xs its.toList
def KLst (K : PySem.W.Frag) (a : Addr) (xs : List V) : Prop := ∃ (o : Obj) (its : Array Value) (n : Nat), K.lookup a = some o ∧ o.cls = .type "list" ∧ o.dict = none ∧ o.data = .seq its n ∧ its.size ≤ sizeLine ∧ Vals xs its.toList
mutual
def RepV (G : Sg) (w : Wd) : D → V → Prop
  | .non, v => v = .non
  | .bl b, v => v = .bl b
  | .int i, v => v = .int i
  | .str x, v => v = .str x
  | .tup ds, v => ∃ a vs, v = .ref a ∧ (RdF w a (.tup vs) ∨ KTup G.K a vs) ∧ RepVs G w ds vs
  | .lst ds, v => ∃ a vs, v = .ref a ∧ w.F a ∧ w.H a = some (.lst vs) ∧ RepVs G w ds vs
  | .scr ds, v => ∃ a vs, v = .ref a ∧ (RdF w a (.lst vs) ∨ KLst G.K a vs) ∧ RepVs G w ds vs
  | .dct ks ds, v => ∃ a vs, v = .ref a ∧ w.F a ∧ w.H a = some (.dK (ks.zip vs)) ∧ ks.length = vs.length ∧ RepVs G w ds vs
  | .ins c ds, v => ∃ a dx vs, v = .ref a ∧ w.F a ∧ w.H a = some (.ins (G.ca c) dx ((G.fn c).zip vs)) ∧ vs.length ≤ (G.fn c).length ∧ RepVs G w ds vs
  | .ref n, v => ∃ a, v = .ref a ∧ w.m[n]? = some a
  | .ty t, v => v = .ty t.name
  | .cls c, v => v = .ref (G.ca c)
def RepVs (G : Sg) (w : Wd) : List D → List V → Prop
  | [], vs => vs = []
  | d :: ds, vs => ∃ v r, vs = v :: r ∧ RepV G w d v ∧ RepVs G w ds r
end
def RepO (G : Sg) (w : Wd) (a : Addr) : Ob → Prop
  | .lst ds => ∃ vs, w.H a = some (.lst vs) ∧ RepVs G w ds vs
  | .dct ks ds => ∃ vs, w.H a = some (.dK (ks.zip vs)) ∧ ks.length = vs.length ∧ RepVs G w ds vs
  | .ins c ds => ∃ dx vs, w.H a = some (.ins (G.ca c) dx ((G.fn c).zip vs)) ∧ vs.length ≤ (G.fn c).length ∧ RepVs G w ds vs
def RepX (G : Sg) (w : Wd) (e : Exn) (cls : Value) (x : Option Addr) : Prop :=
  cls = G.xc e.cls ∧ match e.arg with
    | none => True
    | some d => ∃ a v, x = some a ∧ w.F a ∧ w.H a = some (.xd [(G.xf e.cls, v)]) ∧ RepV G w d v
structure Ext (w w' : Wd) : Prop where
  m : ∃ r, w'.m = w.m ++ r
  F : ∀ a, w.F a → w'.F a
  H : ∀ b o, b ∉ w.m → w.H b = some o → w'.H b = some o
  nm : ∀ b, b ∈ w'.m → b ∈ w.m ∨ w.H b = none
  nF : ∀ b, w'.F b → w.F b ∨ w.H b = none
  al : ∀ b, w'.H b = none → w.H b = none
theorem Ext.refl (w : Wd) : Ext w w := ⟨⟨[], by simp⟩, fun _ h => h, fun _ _ _ h => h, fun _ h => .inl h, fun _ h => .inl h, fun _ h => h⟩
theorem Ext.trans {w w1 w2 : Wd} (a : Ext w w1) (b : Ext w1 w2) : Ext w w2 := by
  obtain ⟨r, er⟩ := a.m
  obtain ⟨r', er'⟩ := b.m
  refine ⟨⟨r ++ r', by rw [er', er, List.append_assoc]⟩, fun x h => b.F x (a.F x h), fun x o hm h => b.H x o (fun z => ?_) (a.H x o hm h), fun x h => ?_, fun x h => ?_, fun x h => a.al x (b.al x h)⟩
  · rcases a.nm x z with z | z
    · exact hm z
    · rw [h] at z; cases z
  · rcases b.nm x h with z | z
    · exact a.nm x z
    · exact .inr (a.al x z)
  · rcases b.nF x h with z | z
    · exact a.nF x z
    · exact .inr (a.al x z)
structure Stay (w w' : Wd) : Prop where
  m : ∃ r, w'.m = w.m ++ r
  F : ∀ a, w.F a → w'.F a
  H : ∀ a o, w.F a → w.H a = some o → w'.H a = some o
theorem Stay.refl (w : Wd) : Stay w w := ⟨⟨[], by simp⟩, fun _ h => h, fun _ _ _ h => h⟩
theorem Stay.trans {w w1 w2 : Wd} (a : Stay w w1) (b : Stay w1 w2) : Stay w w2 := by
  obtain ⟨r, er⟩ := a.m
  obtain ⟨r', er'⟩ := b.m
  exact ⟨⟨r ++ r', by rw [er', er, List.append_assoc]⟩, fun x h => b.F x (a.F x h), fun x o f h => b.H x o (a.F x f) (a.H x o f h)⟩
theorem Ext.stay {w w' : Wd} (e : Ext w w') (dj : ∀ a, w.F a → a ∉ w.m) : Stay w w' := ⟨e.m, e.F, fun a o f h => e.H a o (dj a f) h⟩
section
variable {G : Sg} {w w' : Wd}
theorem RdF.stay (e : Stay w w') {a : Addr} {o : HO} (h : RdF w a o) : RdF w' a o := by
  obtain ⟨f, h⟩ := h
  refine ⟨e.F a f, ?_⟩
  rcases h with h | ⟨u, h⟩
  · exact .inl (e.H a _ f h)
  · exact .inr ⟨u, e.H a _ f h⟩
mutual
theorem RepV.stay (e : Stay w w') : ∀ (d : D) (v : V), RepV G w d v → RepV G w' d v
  | .non, _, h => h
  | .bl _, _, h => h
  | .int _, _, h => h
  | .str _, _, h => h
  | .tup ds, _, h => by
    obtain ⟨a, vs, e1, h1, h2⟩ := h
    exact ⟨a, vs, e1, h1.imp (fun z => z.stay e) id, RepVs.stay e ds vs h2⟩
  | .lst ds, _, h => by
    obtain ⟨a, vs, e1, f, h1, h2⟩ := h
    exact ⟨a, vs, e1, e.F a f, e.H a _ f h1, RepVs.stay e ds vs h2⟩
  | .scr ds, _, h => by
    obtain ⟨a, vs, e1, h1, h2⟩ := h
    exact ⟨a, vs, e1, h1.imp (fun z => z.stay e) id, RepVs.stay e ds vs h2⟩
  | .dct ks ds, _, h => by
    obtain ⟨a, vs, e1, f, h1, h2, h3⟩ := h
    exact ⟨a, vs, e1, e.F a f, e.H a _ f h1, h2, RepVs.stay e ds vs h3⟩
  | .ins c ds, _, h => by
    obtain ⟨a, dx, vs, e1, f, h1, h2, h3⟩ := h
    exact ⟨a, dx, vs, e1, e.F a f, e.H a _ f h1, h2, RepVs.stay e ds vs h3⟩
  | .ref n, _, h => by
    obtain ⟨a, e1, h1⟩ := h
    obtain ⟨r, er⟩ := e.m
    refine ⟨a, e1, ?_⟩
    rw [er, List.getElem?_append_left (List.getElem?_eq_some_iff.mp h1).1]
    exact h1
  | .ty _, _, h => h
  | .cls _, _, h => h
theorem RepVs.stay (e : Stay w w') : ∀ (ds : List D) (vs : List V), RepVs G w ds vs → RepVs G w' ds vs
  | [], _, h => h
  | d :: ds, _, h => by
    obtain ⟨v, r, e1, h1, h2⟩ := h
    exact ⟨v, r, e1, RepV.stay e d v h1, RepVs.stay e ds r h2⟩
end
theorem RepV.mono (e : Ext w w') (dj : ∀ a, w.F a → a ∉ w.m) (d : D) (v : V) : RepV G w d v → RepV G w' d v := RepV.stay (e.stay dj) d v
theorem RepVs.mono (e : Ext w w') (dj : ∀ a, w.F a → a ∉ w.m) (ds : List D) (vs : List V) : RepVs G w ds vs → RepVs G w' ds vs := RepVs.stay (e.stay dj) ds vs
theorem RepO.mono (e : Ext w w') (dj : ∀ a, w.F a → a ∉ w.m) {a : Addr} (ha : a ∉ w.m) : ∀ (o : Ob), RepO G w a o → RepO G w' a o
  | .lst ds, ⟨vs, h1, h2⟩ => ⟨vs, e.H a _ ha h1, RepVs.mono e dj _ _ h2⟩
  | .dct ks ds, ⟨vs, h1, h2, h3⟩ => ⟨vs, e.H a _ ha h1, h2, RepVs.mono e dj _ _ h3⟩
  | .ins c ds, ⟨dx, vs, h1, h2, h3⟩ => ⟨dx, vs, e.H a _ ha h1, h2, RepVs.mono e dj _ _ h3⟩
theorem RepVs.length : ∀ {ds : List D} {vs : List V}, RepVs G w ds vs → ds.length = vs.length
  | [], _, h => by cases (show _ = _ from h); rfl
  | _ :: ds, _, ⟨_, _, e, _, h⟩ => by rw [e, List.length_cons, List.length_cons, RepVs.length h]
theorem RepVs.get : ∀ {ds : List D} {vs : List V} {i : Nat} {d : D}, RepVs G w ds vs → ds[i]? = some d → ∃ v, vs[i]? = some v ∧ RepV G w d v
  | [], _, _, _, _, e => by simp at e
  | d :: ds, _, 0, _, ⟨v, r, e, h, _⟩, q => by
    subst e
    simp at q
    subst q
    exact ⟨v, rfl, h⟩
  | _ :: ds, _, i + 1, _, ⟨v, r, e, _, h⟩, q => by
    subst e
    simpa using RepVs.get (i := i) h (by simpa using q)
theorem RepVs.append : ∀ {ds es : List D} {vs us : List V}, RepVs G w ds vs → RepVs G w es us → RepVs G w (ds ++ es) (vs ++ us)
  | [], _, _, _, h, q => by cases (show _ = _ from h); exact q
  | d :: ds, _, _, _, ⟨v, r, e, h, t⟩, q => by subst e; exact ⟨v, _, rfl, h, RepVs.append t q⟩
theorem RepVs.take : ∀ (n : Nat) {ds : List D} {vs : List V}, RepVs G w ds vs → RepVs G w (ds.take n) (vs.take n)
  | 0, _, _, _ => rfl
  | n + 1, [], _, h => by cases (show _ = _ from h); rfl
  | n + 1, d :: ds, _, ⟨v, r, e, h, t⟩ => by subst e; exact ⟨v, _, rfl, h, RepVs.take n t⟩
theorem RepVs.drop : ∀ (n : Nat) {ds : List D} {vs : List V}, RepVs G w ds vs → RepVs G w (ds.drop n) (vs.drop n)
  | 0, _, _, h => h
  | n + 1, [], _, h => by cases (show _ = _ from h); rfl
  | n + 1, d :: ds, _, ⟨v, r, e, h, t⟩ => by subst e; exact RepVs.drop n t
theorem RepVs.reverse : ∀ {ds : List D} {vs : List V}, RepVs G w ds vs → RepVs G w ds.reverse vs.reverse
  | [], _, h => by cases (show _ = _ from h); rfl
  | d :: ds, _, ⟨v, r, e, h, t⟩ => by
    subst e
    rw [List.reverse_cons, List.reverse_cons]
    exact RepVs.append (RepVs.reverse t) ⟨v, [], rfl, h, rfl⟩
theorem RepVs.set : ∀ (i : Nat) {ds : List D} {vs : List V} {d : D} {v : V}, RepVs G w ds vs → RepV G w d v → RepVs G w (ds.set i d) (vs.set i v)
  | _, [], _, _, _, h, _ => by cases (show _ = _ from h); rfl
  | 0, d :: ds, _, _, _, ⟨v, r, e, h, t⟩, q => by subst e; exact ⟨_, _, rfl, q, t⟩
  | i + 1, d :: ds, _, _, _, ⟨v, r, e, h, t⟩, q => by subst e; exact ⟨_, _, rfl, h, RepVs.set i t q⟩
theorem RepVs.one {d : D} {v : V} (h : RepV G w d v) : RepVs G w [d] [v] := ⟨v, [], rfl, h, rfl⟩
theorem RepVs.rep : ∀ (k : Nat) {ds : List D} {vs : List V}, RepVs G w ds vs → RepVs G w (List.replicate k ds).flatten (List.replicate k vs).flatten
  | 0, _, _, _ => rfl
  | k + 1, _, _, h => by
    rw [List.replicate_succ, List.replicate_succ, List.flatten_cons, List.flatten_cons]
    exact RepVs.append h (RepVs.rep k h)
end
structure RepS (G : Sg) (w : Wd) (S : List Ob) : Prop where
  len : w.m.length = S.length
  nd : w.m.Nodup
  dj : ∀ a, w.F a → a ∉ w.m
  fh : ∀ a, w.F a → w.H a ≠ none
  ob : ∀ (n : Nat) (a : Addr) (o : Ob), w.m[n]? = some a → S[n]? = some o → RepO G w a o
inductive SV where
  | no | val (d : D) | own (o : Ob)
  deriving Inhabited
structure R (G : Sg) (w0 w : Wd) (sd : List SV) (S : List Ob) (σ : St) : Prop where
  ex : Ext w0 w
  st : RepS G w S
  ln : σ.length = sd.length
  vl : ∀ (i : Nat) (d : D), sd[i]? = some (.val d) → ∃ v, σ[i]? = some (some v) ∧ RepV G w d v
  ow : ∀ (i : Nat) (o : Ob), sd[i]? = some (.own o) → ∃ a, σ[i]? = some (some (.ref a)) ∧ RepO G w a o ∧ ¬ w.F a ∧ a ∉ w.m ∧ w0.H a = none
  ap : ∀ (i j : Nat) (o o' : Ob) (a : Addr), sd[i]? = some (.own o) → sd[j]? = some (.own o') → σ[i]? = some (some (.ref a)) → σ[j]? = some (some (.ref a)) → i = j
  sf : ∀ a o, w0.x = some a → sd[0]? = some (.own o) → σ[0]? = some (some (.ref a))
theorem RepO.there {G : Sg} {w : Wd} {a : Addr} {o : Ob} (h : RepO G w a o) : w.H a ≠ none := by
  cases o with
  | lst ds => obtain ⟨_, e, _⟩ := h; rw [e]; exact fun z => nomatch z
  | dct ks ds => obtain ⟨_, e, _⟩ := h; rw [e]; exact fun z => nomatch z
  | ins c ds => obtain ⟨_, _, e, _⟩ := h; rw [e]; exact fun z => nomatch z
theorem R.step {G : Sg} {w0 w w1 : Wd} {sd : List SV} {S S1 : List Ob} {σ : St} (r : R G w0 w sd S σ) (e : Ext w w1) (s : RepS G w1 S1) : R G w0 w1 sd S1 σ := by
  refine ⟨r.ex.trans e, s, r.ln, fun i d h => ?_, fun i o h => ?_, r.ap, r.sf⟩
  · obtain ⟨v, h1, h2⟩ := r.vl i d h
    exact ⟨v, h1, RepV.mono e r.st.dj d v h2⟩
  · obtain ⟨a, h1, h2, h3, h4, h5⟩ := r.ow i o h
    refine ⟨a, h1, RepO.mono e r.st.dj h4 o h2, fun z => ?_, fun z => ?_, h5⟩
    · rcases e.nF a z with z | z
      · exact h3 z
      · exact h2.there z
    · rcases e.nm a z with z | z
      · exact h4 z
      · exact h2.there z
def M (α : Type) : Type := List Ob → Option (Except Exn α × List Ob)
namespace M
variable {α β γ : Type}
def pure (a : α) : M α := fun S => some (.ok a, S)
def err (e : Exn) : M α := fun S => some (.error e, S)
def stuck : M α := fun _ => none
def bind (f : M α) (k : α → M β) : M β := fun S => match f S with
  | none => none
  | some (.error e, S1) => some (.error e, S1)
  | some (.ok a, S1) => k a S1
theorem bind_assoc (f : M α) (k : α → M β) (l : β → M γ) : bind (bind f k) l = bind f fun a => bind (k a) l := by
  funext S
  unfold bind
  rcases f S with _ | ⟨_ | _, _⟩ <;> rfl
theorem bind_ite (c : Prop) [Decidable c] (f g : M α) (k : α → M β) : bind (if c then f else g) k = if c then bind f k else bind g k := by split <;> rfl
end M
def FinG {α β : Type} (G : Sg) (rep : Wd → α → β → Prop) (W : Value → Option Addr → Hp → Prop) (w : Wd) (Q : β → Hp → Prop) : Option (Except Exn α × List Ob) → Prop
  | none => False
  | some (.ok d, S) => ∀ w' v, Ext w w' → RepS G w' S → rep w' d v → Q v w'.H
  | some (.error e, S) => ∀ w' cls x, Ext w w' → RepS G w' S → RepX G w' e cls x → W cls x w'.H
section
variable {α β γ δ : Type} {G : Sg} {rep : Wd → α → β → Prop} {rep' : Wd → γ → δ → Prop} {W : Value → Option Addr → Hp → Prop} {w w1 : Wd} {Q : β → Hp → Prop} {Q' : δ → Hp → Prop}
theorem FinG.ext {r : Option (Except Exn α × List Ob)} (e : Ext w w1) (h : FinG G rep W w Q r) : FinG G rep W w1 Q r := by
  rcases r with _ | ⟨_ | _, _⟩
  · exact h
  · exact fun w' c x e' => h w' c x (e.trans e')
  · exact fun w' v e' => h w' v (e.trans e')
theorem fin_pure {a : α} {b : β} {S : List Ob} (h : FinG G rep W w Q (M.pure a S)) (s : RepS G w S) (r : rep w a b) : Q b w.H := h w b (Ext.refl w) s r
end
def teG {α β : Type} (G : Sg) (rep : Wd → α → β → Prop) (W : WX) (f : List SV → M α) : St → Hp → (β → Hp → Prop) → Prop := fun σ H Q =>
  ∃ w0 w sd S, w.H = H ∧ R G w0 w sd S σ ∧ FinG G rep (fun c x H => W c x σ H) w Q (f sd S)
def repB : Wd → Bool → Bool → Prop := fun _ a b => b = a
abbrev teV (G : Sg) (W : WX) (f : List SV → M D) : TE := teG G (RepV G) W f
abbrev teB (G : Sg) (W : WX) (f : List SV → M Bool) : TT := teG G repB W f
abbrev teA (G : Sg) (W : WX) (f : List SV → M (List D)) : TA := teG G (RepVs G) W f
abbrev PV (G : Sg) (X : Cx) (W : WX) (e : Expr) (f : List SV → M D) : Prop := PE X e (teV G W f)
abbrev PB (G : Sg) (X : Cx) (W : WX) (e : Expr) (f : List SV → M Bool) : Prop := PT X e (teB G W f)
abbrev PL (G : Sg) (X : Cx) (W : WX) (es : List Expr) (f : List SV → M (List D)) : Prop := PA X es (teA G W f)
theorem PE.imp {X : Cx} {e : Expr} {t t' : TE} (h : PE X e t) (i : ∀ σ H Q, t' σ H Q → t σ H Q) : PE X e t' := ⟨fun p s σ H Q I q => h.run p s σ H Q I (i σ H Q q)⟩
theorem PT.imp {X : Cx} {e : Expr} {t t' : TT} (h : PT X e t) (i : ∀ σ H Q, t' σ H Q → t σ H Q) : PT X e t' := ⟨fun p s σ H Q I q => h.run p s σ H Q I (i σ H Q q)⟩
theorem PW.imp {X : Cx} {e : Expr} {t t' : TT} (h : PW X e t) (i : ∀ σ H Q, t' σ H Q → t σ H Q) : PW X e t' := ⟨fun wh p s σ H Q I q => h.run wh p s σ H Q I (i σ H Q q)⟩
theorem PA.imp {X : Cx} {e : List Expr} {t t' : TA} (h : PA X e t) (i : ∀ σ H Q, t' σ H Q → t σ H Q) : PA X e t' := ⟨fun ps p s σ H Q I q => h.run ps p s σ H Q I (i σ H Q q)⟩
theorem PS.imp {X : Cx} {e : Stmt} {t t' : TS} (h : PS X e t) (i : ∀ D σ H, t' D σ H → t D σ H) : PS X e t' := ⟨fun p s σ H D I q => h.run p s σ H D I (i D σ H q)⟩
theorem PSs.imp {X : Cx} {e : List Stmt} {t t' : TS} (h : PSs X e t) (i : ∀ D σ H, t' D σ H → t D σ H) : PSs X e t' := ⟨fun p s σ H D I q => h.run p s σ H D I (i D σ H q)⟩
theorem fin_step {α β γ δ : Type} {G : Sg} {rep : Wd → α → β → Prop} {rep' : Wd → γ → δ → Prop} {W : Value → Option Addr → Hp → Prop} {w : Wd} {Q : β → Hp → Prop} {Q' : δ → Hp → Prop} {f : M α} {k : α → M γ} {S : List Ob}
    (h : FinG G rep' W w Q' (M.bind f k S)) (c : ∀ w1 S1 d v, Ext w w1 → RepS G w1 S1 → rep w1 d v → FinG G rep' W w1 Q' (k d S1) → Q v w1.H) : FinG G rep W w Q (f S) := by
  unfold M.bind at h
  rcases hf : f S with _ | ⟨_ | d, S1⟩
  · rw [hf] at h; exact h
  · rw [hf] at h; exact h
  · rw [hf] at h
    exact fun w' v e s r => c w' S1 d v e s r (FinG.ext e h)
end Ev
set_option maxRecDepth 100000
set_option maxHeartbeats 2000000
namespace Ev
open PySem L2
theorem RepO.to {G : Sg} {w w' : Wd} {a : Addr} (h : w'.H a = w.H a) (e : Stay w w') : ∀ {o : Ob}, RepO G w a o → RepO G w' a o
  | .lst _, ⟨vs, h1, h2⟩ => ⟨vs, h.trans h1, RepVs.stay e _ _ h2⟩
  | .dct _ _, ⟨vs, h1, h2, h3⟩ => ⟨vs, h.trans h1, h2, RepVs.stay e _ _ h3⟩
  | .ins _ _, ⟨dx, vs, h1, h2, h3⟩ => ⟨dx, vs, h.trans h1, h2, RepVs.stay e _ _ h3⟩
theorem RepS.there {G : Sg} {w : Wd} {S : List Ob} (s : RepS G w S) {a : Addr} (h : a ∈ w.m) : w.H a ≠ none := by
  obtain ⟨n, hn⟩ := List.getElem?_of_mem h
  have l : n < S.length := by rw [← s.len]; exact (List.getElem?_eq_some_iff.mp hn).1
  exact (s.ob n a S[n] hn (List.getElem?_eq_getElem l)).there
def Wd.frz (w : Wd) (p : Addr) (o : HO) : Wd := ⟨w.m, fun a => w.F a ∨ a = p, upd w.H p o, w.x⟩
def Wd.new (w : Wd) (p : Addr) (o : HO) : Wd := ⟨w.m, w.F, upd w.H p o, w.x⟩
section
variable {G : Sg} {w : Wd} {S : List Ob} {p : Addr} {o : HO}
theorem Ext.frz (hp : w.H p = none) : Ext w (w.frz p o) := by
  refine ⟨⟨[], by simp [Wd.frz]⟩, fun _ h => .inl h, fun b u _ h => ?_, fun _ h => .inl h, fun b h => ?_, fun b h => ?_⟩
  · show upd w.H p o b = some u
    rw [upd_ne (ne_of_none h hp)]; exact h
  · rcases h with h | h
    · exact .inl h
    · exact .inr (h ▸ hp)
  · have h : upd w.H p o b = none := h
    by_cases e : b = p
    · rw [e]; exact hp
    · rw [upd_ne e] at h; exact h
theorem Ext.new (hp : w.H p = none) : Ext w (w.new p o) := by
  have e := Ext.frz (o := o) hp
  exact ⟨e.m, fun _ h => h, e.H, e.nm, fun _ h => .inl h, e.al⟩
theorem RepS.frz (s : RepS G w S) (hp : w.H p = none) : RepS G (w.frz p o) S := by
  refine ⟨s.len, s.nd, fun a h => ?_, fun a h => ?_, fun n a u h1 h2 => ?_⟩
  · rcases h with h | h
    · exact s.dj a h
    · exact fun z => s.there z (h ▸ hp)
  · show upd w.H p o a ≠ none
    by_cases e : a = p
    · rw [e, upd_same]; exact fun z => nomatch z
    · rw [upd_ne e]
      rcases h with h | h
      · exact s.fh a h
      · exact absurd h e
  · have ne : a ≠ p := fun z => s.there (List.mem_of_getElem? h1) (z ▸ hp)
    exact RepO.to (upd_ne ne) ((Ext.frz hp).stay s.dj) (s.ob n a u h1 h2)
theorem RepS.new (s : RepS G w S) (hp : w.H p = none) : RepS G (w.new p o) S := by
  refine ⟨s.len, s.nd, s.dj, fun a h => ?_, fun n a u h1 h2 => ?_⟩
  · show upd w.H p o a ≠ none
    rw [upd_ne (fun e => s.fh a h (by rw [e]; exact hp))]
    exact s.fh a h
  · have ne : a ≠ p := fun z => s.there (List.mem_of_getElem? h1) (z ▸ hp)
    exact RepO.to (upd_ne ne) ((Ext.new hp).stay s.dj) (s.ob n a u h1 h2)
end
def getv (i : Nat) : List SV → M D := fun sd => match sd[i]? with
  | some (.val d) => M.pure d
  | _ => M.stuck
def repL (G : Sg) (n : Nat) : Wd → List D → List V → Prop := fun w ds vs => RepVs G w ds vs ∧ vs.length = n
abbrev PLn (G : Sg) (X : Cx) (W : WX) (n : Nat) (es : List Expr) (f : List SV → M (List D)) : Prop := PA X es (teG G (repL G n) W f)
def notStar : Expr → Bool
  | .Starred _ _ => false
  | _ => true
theorem starEach_cons {e : Expr} {es : List Expr} {env : Env} (h : notStar e = true) : starEach (e :: es) env = (false, eval e env) :: starEach es env := by
  cases e <;> first | rfl | cases h
theorem starEach_all {env : Env} : ∀ {es : List Expr}, es.all notStar = true → ∀ pos, (backTo pos (starEach es env)).any (·.1) = false
  | [], _, _ => rfl
  | e :: es, h, pos => by
    simp only [List.all_cons, Bool.and_eq_true] at h
    rw [starEach_cons h.1]
    show (false || (backTo pos (starEach es env)).any (·.1)) = false
    rw [starEach_all h.2]
    rfl
section
variable {G : Sg} {X : Cx} {W : WX}
theorem v_var {i : Nat} {x : Str} {pos : Pos} (hN : X.N[i]? = some x) (hv : Vis X.env.scope x) (hd : (x == ("__debug__" : Str)) = false) (hcd : (x == ("__classdict__" : Str)) = false) : PV G X W (.Name x pos) (getv i) := by
  refine PE.imp (pe_var hN hv hd hcd) fun σ H Q h => ?_
  obtain ⟨w0, w, sd, S, e, r, q⟩ := h
  subst e
  unfold getv at q
  rcases hx : sd[i]? with _ | _ | d | o
  · rw [hx] at q; exact False.elim q
  · rw [hx] at q; exact False.elim q
  · rw [hx] at q
    obtain ⟨v, h1, h2⟩ := r.vl i d hx
    exact ⟨v, h1, fin_pure q r.st h2⟩
  · rw [hx] at q; exact False.elim q
theorem v_lit {e : Expr} {v : V} {d : D} (h : PE X e (tC v)) (r : ∀ w S, RepS G w S → RepV G w d v) : PV G X W e (fun _ => M.pure d) := by
  refine PE.imp h fun σ H Q h => ?_
  obtain ⟨w0, w, sd, S, e, rr, q⟩ := h
  subst e
  exact fin_pure q rr.st (r w S rr.st)
theorem l_nil : PLn G X W 0 [] (fun _ => M.pure []) := by
  refine PA.imp pa_nil fun σ H Q h => ?_
  obtain ⟨w0, w, sd, S, e, r, q⟩ := h
  subst e
  exact fin_pure q r.st ⟨rfl, rfl⟩
theorem l_cons {n : Nat} {e : Expr} {es : List Expr} {f : List SV → M D} {g : List SV → M (List D)} (he : PV G X W e f) (hr : PLn G X W n es g) (hs : notStar e = true) :
    PLn G X W (n + 1) (e :: es) (fun sd => M.bind (f sd) fun d => M.bind (g sd) fun ds => M.pure (d :: ds)) := by
  refine PA.imp (pa_cons he hr (starEach_cons hs)) fun σ H Q h => ?_
  obtain ⟨w0, w, sd, S, e, r, q⟩ := h
  refine ⟨w0, w, sd, S, e, r, fin_step q fun w1 S1 d v e1 s1 rv q1 => ⟨w0, w1, sd, S1, rfl, r.step e1 s1, fin_step q1 fun w2 S2 ds vs e2 s2 rvs q2 => ?_⟩⟩
  exact fin_pure q2 s2 ⟨⟨v, vs, rfl, RepV.mono e2 s1.dj d v rv, rvs.1⟩, by rw [List.length_cons, rvs.2]⟩
theorem v_tup {n : Nat} {es : List Expr} {g : List SV → M (List D)} {x1 : Nat} {pos : Pos} (h : PLn G X W n es g) (hn : n ≤ sizeLine) : PV G X W (.Tuple es x1 pos) (fun sd => M.bind (g sd) fun ds => M.pure (.tup ds)) := by
  refine PE.imp (pe_tup h) fun σ H Q h => ?_
  obtain ⟨w0, w, sd, S, e, r, q⟩ := h
  refine ⟨w0, w, sd, S, e, r, fin_step q fun w1 S1 ds vs e1 s1 rv q1 => ⟨by rw [rv.2]; exact hn, fun p hp => ?_⟩⟩
  exact q1 (w1.frz p (.tup vs)) _ (Ext.frz hp) (s1.frz hp) ⟨p, vs, rfl, .inl ⟨.inr rfl, .inl upd_same⟩, RepVs.mono (Ext.frz hp) s1.dj _ _ rv.1⟩
theorem v_lst {n : Nat} {es : List Expr} {g : List SV → M (List D)} {pos : Pos} (h : PLn G X W n es g) (hn : n ≤ sizeLine) : PV G X W (.List es pos) (fun sd => M.bind (g sd) fun ds => M.pure (.lst ds)) := by
  refine PE.imp (pe_lst h) fun σ H Q h => ?_
  obtain ⟨w0, w, sd, S, e, r, q⟩ := h
  refine ⟨w0, w, sd, S, e, r, fin_step q fun w1 S1 ds vs e1 s1 rv q1 => ⟨by rw [rv.2]; exact hn, fun p hp => ?_⟩⟩
  exact q1 (w1.frz p (.lst vs)) _ (Ext.frz hp) (s1.frz hp) ⟨p, vs, rfl, .inr rfl, upd_same, RepVs.mono (Ext.frz hp) s1.dj _ _ rv.1⟩
def rD2 (G : Sg) (g : D → D → M D) : R2 := fun v u H Q => ∃ W w S d e, w.H = H ∧ RepS G w S ∧ RepV G w d v ∧ RepV G w e u ∧ FinG G (RepV G) W w Q (g d e S)
theorem v_bin {op : Operator} {g : D → D → M D} {a b : Expr} {fa fb : List SV → M D} {pos : Pos} (ho : OpR X (binaryOp op) (rD2 G g)) (ha : PV G X W a fa) (hb : PV G X W b fb) :
    PV G X W (.BinOp a op b pos) (fun sd => M.bind (fa sd) fun x => M.bind (fb sd) fun y => g x y) := by
  refine PE.imp (pe_op ho ha hb) fun σ H Q h => ?_
  obtain ⟨w0, w, sd, S, e, r, q⟩ := h
  refine ⟨w0, w, sd, S, e, r, fin_step q fun w1 S1 d v e1 s1 rv q1 => ⟨w0, w1, sd, S1, rfl, r.step e1 s1, fin_step q1 fun w2 S2 d2 v2 e2 s2 rv2 q2 => ?_⟩⟩
  exact ⟨_, w2, S2, d, d2, rfl, s2, RepV.mono e2 s1.dj d v rv, rv2, q2⟩
theorem v_cmp {op : CmpOp} {g : D → D → M D} {a b : Expr} {fa fb : List SV → M D} {pos : Pos} (ho : OpR X (compareOp op) (rD2 G g)) (ha : PV G X W a fa) (hb : PV G X W b fb) (hm : behindInMarks op b = false) :
    PV G X W (.Compare a [op] [b] pos) (fun sd => M.bind (fa sd) fun x => M.bind (fb sd) fun y => g x y) := by
  refine PE.imp (pe_cmpR ho ha hb hm) fun σ H Q h => ?_
  obtain ⟨w0, w, sd, S, e, r, q⟩ := h
  refine ⟨w0, w, sd, S, e, r, fin_step q fun w1 S1 d v e1 s1 rv q1 => ⟨w0, w1, sd, S1, rfl, r.step e1 s1, fin_step q1 fun w2 S2 d2 v2 e2 s2 rv2 q2 => ?_⟩⟩
  exact ⟨_, w2, S2, d, d2, rfl, s2, RepV.mono e2 s1.dj d v rv, rv2, q2⟩
def toB : D → M Bool
  | .bl b => M.pure b
  | _ => M.stuck
theorem toB_fin {W' : Value → Option Addr → Hp → Prop} {w : Wd} {Q : Bool → Hp → Prop} {d : D} {v : V} {S : List Ob} (h : FinG G repB W' w Q (toB d S)) (s : RepS G w S) (r : RepV G w d v) : ∃ k, v = .bl k ∧ Q k w.H := by
  cases d with
  | bl b =>
    cases (show v = .bl b from r)
    exact ⟨b, rfl, fin_pure h s rfl⟩
  | _ => exact False.elim h
theorem b_cmp {op : CmpOp} {g : D → D → M D} {a b : Expr} {fa fb : List SV → M D} {pos : Pos} (ho : OpR X (compareOp op) (rD2 G g)) (ha : PV G X W a fa) (hb : PV G X W b fb) (hm : behindInMarks op b = false) :
    PB G X W (.Compare a [op] [b] pos) (fun sd => M.bind (fa sd) fun x => M.bind (fb sd) fun y => M.bind (g x y) toB) := by
  refine PT.imp (pt_cmpR ho ha hb hm) fun σ H Q h => ?_
  obtain ⟨w0, w, sd, S, e, r, q⟩ := h
  refine ⟨w0, w, sd, S, e, r, fin_step q fun w1 S1 d v e1 s1 rv q1 => ⟨w0, w1, sd, S1, rfl, r.step e1 s1, fin_step q1 fun w2 S2 d2 v2 e2 s2 rv2 q2 => ?_⟩⟩
  exact ⟨_, w2, S2, d, d2, rfl, s2, RepV.mono e2 s1.dj d v rv, rv2, fin_step q2 fun w3 S3 d3 v3 e3 s3 rv3 q3 => toB_fin q3 s3 rv3⟩
theorem b_val {e : Expr} {f : List SV → M D} (h : PV G X W e f) (he : ∀ whole, isTrue e X.env whole = (do let v ← whole; standAt e.pos; holding [v] (truthy v))) : PB G X W e (fun sd => M.bind (f sd) toB) := by
  refine PT.imp (pt_val h he) fun σ H Q h => ?_
  obtain ⟨w0, w, sd, S, e, r, q⟩ := h
  exact ⟨w0, w, sd, S, e, r, fin_step q fun w1 S1 d v e1 s1 rv q1 => toB_fin q1 s1 rv⟩
theorem b_not {a : Expr} {f : List SV → M Bool} {pos : Pos} (ha : PB G X W a f) : PB G X W (.UnaryOp .Not a pos) (fun sd => M.bind (f sd) fun b => M.pure (!b)) := by
  refine PT.imp (pt_not ha) fun σ H Q h => ?_
  obtain ⟨w0, w, sd, S, e, r, q⟩ := h
  exact ⟨w0, w, sd, S, e, r, fin_step q fun w1 S1 d v e1 s1 rv q1 => by cases rv; exact fin_pure q1 s1 rfl⟩
abbrev PBW (G : Sg) (X : Cx) (W : WX) (e : Expr) (f : List SV → M Bool) : Prop := PW X e (teB G W f)
theorem w_and1 {a : Expr} {f : List SV → M Bool} {pos : Pos} (ha : PB G X W a f) : PBW G X W (.BoolOp .And [a] pos) f := pw_and1 ha
theorem w_or1 {a : Expr} {f : List SV → M Bool} {pos : Pos} (ha : PB G X W a f) : PBW G X W (.BoolOp .Or [a] pos) f := pw_or1 ha
theorem w_and {a b : Expr} {rest : List Expr} {f g : List SV → M Bool} {pos : Pos} (ha : PB G X W a f) (hb : PBW G X W (.BoolOp .And (b :: rest) pos) g) :
    PBW G X W (.BoolOp .And (a :: b :: rest) pos) (fun sd => M.bind (f sd) fun k => if k = true then g sd else M.pure false) := by
  refine PW.imp (pw_and ha hb) fun σ H Q h => ?_
  obtain ⟨w0, w, sd, S, e, r, q⟩ := h
  refine ⟨w0, w, sd, S, e, r, fin_step q fun w1 S1 d v e1 s1 rv q1 => ?_⟩
  cases (show v = d from rv)
  cases d with
  | true => exact ⟨w0, w1, sd, S1, rfl, r.step e1 s1, q1⟩
  | false => exact fin_pure q1 s1 rfl
theorem w_or {a b : Expr} {rest : List Expr} {f g : List SV → M Bool} {pos : Pos} (ha : PB G X W a f) (hb : PBW G X W (.BoolOp .Or (b :: rest) pos) g) :
    PBW G X W (.BoolOp .Or (a :: b :: rest) pos) (fun sd => M.bind (f sd) fun k => if k = true then M.pure true else g sd) := by
  refine PW.imp (pw_or ha hb) fun σ H Q h => ?_
  obtain ⟨w0, w, sd, S, e, r, q⟩ := h
  refine ⟨w0, w, sd, S, e, r, fin_step q fun w1 S1 d v e1 s1 rv q1 => ?_⟩
  cases (show v = d from rv)
  cases d with
  | true => exact fin_pure q1 s1 rfl
  | false => exact ⟨w0, w1, sd, S1, rfl, r.step e1 s1, q1⟩
theorem v_one {op : BoolOp} {a : Expr} {f : List SV → M D} {pos : Pos} (ha : PV G X W a f) : PV G X W (.BoolOp op [a] pos) f := pe_one ha
theorem v_and {a b : Expr} {rest : List Expr} {f g : List SV → M D} {pos : Pos} (ha : PV G X W a f) (hb : PV G X W (.BoolOp .And (b :: rest) pos) g) :
    PV G X W (.BoolOp .And (a :: b :: rest) pos) (fun sd => M.bind (f sd) fun d => M.bind (toB d) fun k => if k = true then g sd else M.pure (.bl false)) := by
  refine PE.imp (pe_and ha hb) fun σ H Q h => ?_
  obtain ⟨w0, w, sd, S, e, r, q⟩ := h
  refine ⟨w0, w, sd, S, e, r, fin_step q fun w1 S1 d v e1 s1 rv q1 => ?_⟩
  cases d with
  | bl b =>
    cases (show v = .bl b from rv)
    refine ⟨b, rfl, ?_⟩
    cases b with
    | true => exact ⟨w0, w1, sd, S1, rfl, r.step e1 s1, q1⟩
    | false => exact fin_pure (b := V.bl false) q1 s1 rfl
  | _ => exact False.elim q1
theorem v_or {a b : Expr} {rest : List Expr} {f g : List SV → M D} {pos : Pos} (ha : PV G X W a f) (hb : PV G X W (.BoolOp .Or (b :: rest) pos) g) :
    PV G X W (.BoolOp .Or (a :: b :: rest) pos) (fun sd => M.bind (f sd) fun d => M.bind (toB d) fun k => if k = true then M.pure (.bl true) else g sd) := by
  refine PE.imp (pe_or ha hb) fun σ H Q h => ?_
  obtain ⟨w0, w, sd, S, e, r, q⟩ := h
  refine ⟨w0, w, sd, S, e, r, fin_step q fun w1 S1 d v e1 s1 rv q1 => ?_⟩
  cases d with
  | bl b =>
    cases (show v = .bl b from rv)
    refine ⟨b, rfl, ?_⟩
    cases b with
    | true => exact fin_pure (b := V.bl true) q1 s1 rfl
    | false => exact ⟨w0, w1, sd, S1, rfl, r.step e1 s1, q1⟩
  | _ => exact False.elim q1
theorem v_not {a : Expr} {f : List SV → M D} {pos : Pos} (ha : PV G X W a f) : PV G X W (.UnaryOp .Not a pos) (fun sd => M.bind (f sd) fun d => M.bind (toB d) fun k => M.pure (.bl (!k))) := by
  refine PE.imp (pe_not ha) fun σ H Q h => ?_
  obtain ⟨w0, w, sd, S, e, r, q⟩ := h
  refine ⟨w0, w, sd, S, e, r, fin_step q fun w1 S1 d v e1 s1 rv q1 => ?_⟩
  cases d with
  | bl b =>
    cases (show v = .bl b from rv)
    exact ⟨b, rfl, fin_pure (b := V.bl (!b)) q1 s1 rfl⟩
  | _ => exact False.elim q1
theorem v_ite {c a b : Expr} {f : List SV → M Bool} {fa fb : List SV → M D} {pos : Pos} (hc : PB G X W c f) (ha : PV G X W a fa) (hb : PV G X W b fb) : PV G X W (.IfExp c a b pos) (fun sd => M.bind (f sd) fun k => if k = true then fa sd else fb sd) := by
  refine PE.imp (pe_ifExp hc ha hb) fun σ H Q h => ?_
  obtain ⟨w0, w, sd, S, e, r, q⟩ := h
  refine ⟨w0, w, sd, S, e, r, fin_step q fun w1 S1 d v e1 s1 rv q1 => ?_⟩
  cases (show v = d from rv)
  cases d with
  | true => exact ⟨w0, w1, sd, S1, rfl, r.step e1 s1, q1⟩
  | false => exact ⟨w0, w1, sd, S1, rfl, r.step e1 s1, q1⟩
end
end Ev
set_option maxRecDepth 100000
set_option maxHeartbeats 2000000
namespace Ev
open PySem L2
theorem OpR.imp {X : Cx} {f : Value → Value → Sem Value} {r r' : R2} (h : OpR X f r) (i : ∀ v u H Q, r' v u H Q → r v u H Q) : OpR X f r' := fun pins s σ H x y v u Q I rx ry q => h pins s σ H x y v u Q I rx ry (i _ _ _ _ q)
section
variable {G : Sg} {X : Cx} {w : Wd} {a : Addr} {vs : List V}
theorem sqT_of (cK : G.K = X.K) (h : RdF w a (.tup vs) ∨ KTup G.K a vs) : SqT X.K w.H a vs := by
  rw [← cK]
  exact h.imp (fun z => z.2) id
theorem sqL_of (cK : G.K = X.K) (h : RdF w a (.lst vs) ∨ KLst G.K a vs) : SqL X.K w.H a vs := by
  rw [← cK]
  exact h.imp (fun z => z.2) id
end
def lim : Nat := 16777216
theorem lim_eq : lim = sizeLine := by decide
def dAdd : D → D → M D
  | .int i, .int j => M.pure (.int (i + j))
  | .str x, .str y => if x.length + y.length ≤ lim then M.pure (.str (x ++ y)) else M.stuck
  | .lst a, .lst b => if a.length + b.length ≤ lim then M.pure (.lst (a ++ b)) else M.stuck
  | .tup a, .tup b => if a.length + b.length ≤ lim then M.pure (.tup (a ++ b)) else M.stuck
  | _, _ => M.stuck
def dSub : D → D → M D
  | .int i, .int j => M.pure (.int (i - j))
  | _, _ => M.stuck
def mulOk (i j : Int) : Bool := decide ((Builtin.Int.intBits i : Int) + (Builtin.Int.intBits j : Int) ≤ 134217728)
theorem mulOk_of {i j : Int} (h : mulOk i j = true) : CMulX i j := by
  have z : (Builtin.Int.intBits i : Int) + (Builtin.Int.intBits j : Int) ≤ 134217728 := of_decide_eq_true h
  exact z
theorem mulOk_by {i j : Int} {a b : Nat} (ha : i.natAbs < 2 ^ a) (hb : j.natAbs < 2 ^ b) (h : a + b ≤ 134217728) : mulOk i j = true := by
  unfold mulOk
  exact decide_eq_true (mulx_ok ha hb h)
def dMul : D → D → M D
  | .int i, .int j => if mulOk i j = true then M.pure (.int (i * j)) else M.stuck
  | .lst a, .int k => if a.length * k.toNat ≤ lim ∧ -(2 ^ 63) ≤ k ∧ k < 2 ^ 63 then M.pure (.lst (List.replicate k.toNat a).flatten) else M.stuck
  | .tup a, .int k => if 2 ≤ k ∧ k ≤ 1000 ∧ a.length ≤ 1000 ∧ a.isEmpty = false then M.pure (.tup (List.replicate k.toNat a).flatten) else M.stuck
  | _, _ => M.stuck
def divOk (j : Int) : Bool := decide (0 < j) && decide (j.natAbs.log2 < 9000)
def dFdiv : D → D → M D
  | .int i, .int j => if divOk j = true then M.pure (.int (i / j)) else M.stuck
  | _, _ => M.stuck
def dMod : D → D → M D
  | .int i, .int j => if 0 < j then M.pure (.int (i % j)) else M.stuck
  | _, _ => M.stuck
def dPow : D → D → M D
  | .int i, .int j => if 0 ≤ j ∧ j ≤ 1000000 ∧ i.natAbs < 2 ^ 64 then M.pure (.int (i ^ j.toNat)) else M.stuck
  | _, _ => M.stuck
def dCmpI (p : Int → Int → Bool) : D → D → M D
  | .int i, .int j => M.pure (.bl (p i j))
  | _, _ => M.stuck
section
variable {G : Sg} {X : Cx}
theorem FinG.ite {α β : Type} {rep : Wd → α → β → Prop} {W : Value → Option Addr → Hp → Prop} {w : Wd} {Q : β → Hp → Prop} {c : Prop} [Decidable c] {f : M α} {S : List Ob} (h : FinG G rep W w Q ((if c then f else M.stuck) S)) : c ∧ FinG G rep W w Q (f S) := by
  by_cases hc : c
  · rw [if_pos hc] at h; exact ⟨hc, h⟩
  · rw [if_neg hc] at h; exact h.elim
theorem o_int {f : Value → Value → Sem Value} {C : Int → Int → Prop} {g : Int → Int → V} {g' : Int → Int → D} {dg : D → D → M D} (h : OpR X f (rI C g)) (hg : ∀ w i j, RepV G w (g' i j) (g i j))
    (hd : ∀ d e S W w Q, FinG G (RepV G) W w Q (dg d e S) → ∃ i j, d = .int i ∧ e = .int j ∧ C i j ∧ dg d e S = M.pure (g' i j) S) : OpR X f (rD2 G dg) := by
  refine OpR.imp h fun v u H Q q => ?_
  obtain ⟨W, w, S, d, e, rfl, s, r1, r2, q⟩ := q
  obtain ⟨i, j, rfl, rfl, c, eq⟩ := hd d e S W w Q q
  rw [eq] at q
  exact ⟨i, j, r1, r2, c, fin_pure q s (hg w i j)⟩
theorem o_int0 {f : Value → Value → Sem Value} {g : Int → Int → V} {g' : Int → Int → D} {dg : D → D → M D} (h : OpR X f (rI0 g)) (hg : ∀ w i j, RepV G w (g' i j) (g i j))
    (hd : ∀ d e S W w Q, FinG G (RepV G) W w Q (dg d e S) → ∃ i j, d = .int i ∧ e = .int j ∧ dg d e S = M.pure (g' i j) S) : OpR X f (rD2 G dg) := by
  refine OpR.imp h fun v u H Q q => ?_
  obtain ⟨W, w, S, d, e, rfl, s, r1, r2, q⟩ := q
  obtain ⟨i, j, rfl, rfl, eq⟩ := hd d e S W w Q q
  rw [eq] at q
  exact ⟨i, j, r1, r2, fin_pure q s (hg w i j)⟩
theorem o_cmpI {op : CmpOp} {p : Int → Int → Bool} (h : OpR X (compareOp op) (rI0 fun i j => .bl (p i j))) : OpR X (compareOp op) (rD2 G (dCmpI p)) :=
  o_int0 (g' := fun i j => .bl (p i j)) h (fun _ _ _ => rfl) fun d e S W w Q q => by
    cases d <;> cases e <;> first | exact ⟨_, _, rfl, rfl, rfl⟩ | exact q.elim
theorem o_lt : OpR X (compareOp .Lt) (rD2 G (dCmpI fun i j => decide (i < j))) := o_cmpI op_lt
theorem o_le : OpR X (compareOp .LtE) (rD2 G (dCmpI fun i j => decide (i ≤ j))) := o_cmpI op_le
theorem o_gt : OpR X (compareOp .Gt) (rD2 G (dCmpI fun i j => decide (j < i))) := o_cmpI op_gt
theorem o_ge : OpR X (compareOp .GtE) (rD2 G (dCmpI fun i j => decide (j ≤ i))) := o_cmpI op_ge
theorem o_sub : OpR X (binaryOp .Sub) (rD2 G dSub) := o_int0 (g' := fun i j => .int (i - j)) op_sub (fun _ _ _ => rfl) fun d e S W w Q q => by
    cases d <;> cases e <;> first | exact ⟨_, _, rfl, rfl, rfl⟩ | exact q.elim
theorem o_fdiv : OpR X (binaryOp .FloorDiv) (rD2 G dFdiv) := o_int (g' := fun i j => .int (i / j)) (C := fun i j => CDivW i j) op_fdivW (fun _ _ _ => rfl) fun d e S W w Q q => by
    cases d <;> cases e <;> first
      | exact q.elim
      | (obtain ⟨c, q⟩ := FinG.ite q
         refine ⟨_, _, rfl, rfl, ?_, congrFun (if_pos c) S⟩
         unfold divOk at c
         rw [Bool.and_eq_true] at c
         exact ⟨of_decide_eq_true c.1, of_decide_eq_true c.2⟩)
instance {i j : Int} : Decidable (CDivW i j) := by unfold CDivW; infer_instance
theorem o_mod : OpR X (binaryOp .Mod) (rD2 G dMod) := o_int (g' := fun i j => .int (i % j)) (C := fun _ j => 0 < j) op_mod (fun _ _ _ => rfl) fun d e S W w Q q => by
    cases d <;> cases e <;> first
      | exact q.elim
      | (obtain ⟨c, q⟩ := FinG.ite q
         exact ⟨_, _, rfl, rfl, c, congrFun (if_pos c) S⟩)
instance {i j : Int} : Decidable (CPow i j) := by unfold CPow; infer_instance
theorem o_pow : OpR X (binaryOp .Pow) (rD2 G dPow) := o_int (g' := fun i j => .int (i ^ j.toNat)) (C := CPow) op_pow (fun _ _ _ => rfl) fun d e S W w Q q => by
    cases d <;> cases e <;> first
      | exact q.elim
      | (obtain ⟨c, q⟩ := FinG.ite q
         exact ⟨_, _, rfl, rfl, c, congrFun (if_pos c) S⟩)
theorem o_add (cK : G.K = X.K) : OpR X (binaryOp .Add) (rD2 G dAdd) := by
  refine OpR.imp (op_add.or (op_add_str.or (op_cat.or op_catA))) fun v u H Q q => ?_
  obtain ⟨W, w, S, d, e, rfl, s, r1, r2, q⟩ := q
  cases d <;> cases e <;> first | exact q.elim | skip
  · exact .inl ⟨_, _, r1, r2, fin_pure (b := V.int _) q s rfl⟩
  · obtain ⟨c, q⟩ := FinG.ite q
    exact .inr (.inl ⟨_, _, r1, r2, by rw [← lim_eq]; exact c, fin_pure (b := V.str _) q s rfl⟩)
  · rename_i ds es
    obtain ⟨c, q⟩ := FinG.ite q
    obtain ⟨a, va, ea, ha, ra⟩ := r1
    obtain ⟨b, vb, eb, hb, rb⟩ := r2
    rw [ra.length, rb.length, lim_eq] at c
    refine .inr (.inr (.inr ⟨a, b, va, vb, ea, eb, sqT_of cK ha, sqT_of cK hb, c, fun e => ?_, fun n e => ?_, fun _ _ p hp => ?_⟩))
    · subst e
      have e : ds = [] := List.eq_nil_of_length_eq_zero (by rw [ra.length]; rfl)
      subst e
      exact fin_pure q s ⟨b, vb, rfl, hb, rb⟩
    · subst e
      have e : es = [] := List.eq_nil_of_length_eq_zero (by rw [rb.length]; rfl)
      subst e
      rw [List.append_nil] at q
      exact fin_pure q s ⟨a, va, rfl, ha, ra⟩
    · exact q (w.frz p (.tup (va ++ vb))) _ (Ext.frz hp) (s.frz hp) ⟨p, _, rfl, .inl ⟨.inr rfl, .inl upd_same⟩, RepVs.mono (Ext.frz hp) s.dj _ _ (RepVs.append ra rb)⟩
  · rename_i ds es
    obtain ⟨c, q⟩ := FinG.ite q
    obtain ⟨a, va, ea, fa, ha, ra⟩ := r1
    obtain ⟨b, vb, eb, fb, hb, rb⟩ := r2
    rw [ra.length, rb.length, lim_eq] at c
    refine .inr (.inr (.inl ⟨a, b, va, vb, ea, eb, ha, hb, c, fun p hp => ?_⟩))
    exact q (w.frz p (.lst (va ++ vb))) _ (Ext.frz hp) (s.frz hp) ⟨p, _, rfl, .inr rfl, upd_same, RepVs.mono (Ext.frz hp) s.dj _ _ (RepVs.append ra rb)⟩
instance {i j : Int} : Decidable (CMulW i j) := by unfold CMulW; infer_instance
theorem o_mul (cK : G.K = X.K) : OpR X (binaryOp .Mult) (rD2 G dMul) := by
  refine OpR.imp (op_mulX.or (op_rep.or op_repT)) fun v u H Q q => ?_
  obtain ⟨W, w, S, d, e, rfl, s, r1, r2, q⟩ := q
  cases d <;> cases e <;> first | exact q.elim | skip
  · obtain ⟨c, q⟩ := FinG.ite q
    exact .inl ⟨_, _, r1, r2, mulOk_of c, fin_pure (b := V.int _) q s rfl⟩
  · rename_i ds k
    have q : FinG G (RepV G) W w Q ((if 2 ≤ k ∧ k ≤ 1000 ∧ ds.length ≤ 1000 ∧ ds.isEmpty = false then M.pure (.tup (List.replicate k.toNat ds).flatten) else M.stuck) S) := q
    obtain ⟨⟨c1, c2, c, c3⟩, q⟩ := FinG.ite q
    obtain ⟨a, va, ea, ha, ra⟩ := r1
    rw [ra.length] at c
    refine .inr (.inr ⟨a, k, va, ea, r2, sqT_of cK ha, fun e => ?_, c1, c2, c, fun p hp => ?_⟩)
    · subst e
      have e : ds = [] := List.eq_nil_of_length_eq_zero (by rw [ra.length]; rfl)
      rw [e] at c3
      cases c3
    · exact q (w.frz p _) _ (Ext.frz hp) (s.frz hp) ⟨p, _, rfl, .inl ⟨.inr rfl, .inl upd_same⟩, RepVs.mono (Ext.frz hp) s.dj _ _ (RepVs.rep _ ra)⟩
  · rename_i ds k
    obtain ⟨⟨c, c1, c2⟩, q⟩ := FinG.ite q
    obtain ⟨a, va, ea, fa, ha, ra⟩ := r1
    rw [ra.length, lim_eq] at c
    refine .inr (.inl ⟨a, k, va, ea, r2, ha, c1, c2, c, fun p hp => ?_⟩)
    exact q (w.frz p _) _ (Ext.frz hp) (s.frz hp) ⟨p, _, rfl, .inr rfl, upd_same, RepVs.mono (Ext.frz hp) s.dj _ _ (RepVs.rep _ ra)⟩
end
end Ev
set_option maxRecDepth 100000
set_option maxHeartbeats 2000000
namespace Ev
open PySem PySem.Spec PyProof.Rows L2
structure Rm (b : Bool) (k : Nat) (A : Around) : Prop where
  room : Room k A
  gd : b = true → A.guards = some []
theorem Rm.mono {b : Bool} {j k : Nat} {A : Around} (h : Rm b k A) (l : j ≤ k) : Rm b j A := ⟨h.room.mono l, h.gd⟩
theorem Rm.deeper {b : Bool} {k : Nat} {A : Around} (h : Rm b (k + 1) A) (env : Env) : Rm b k (A.deeper env) := ⟨h.room.deeper env, h.gd⟩
theorem Rm.in1 {b : Bool} {k : Nat} {A : Around} (h : Rm b (k + 1) A) : Rm b k A.in1 := ⟨h.room.in1, h.gd⟩
theorem make_guards {A : Around} {C : Addr} {us : List Value} {kw : List (Str × Value)} (h : A.guards = some []) :
    (A.under (.builtin "type.__call__" ⟨.ref C :: us, kw⟩)).guards = some [] := by
  show pushGuards (Code.guards (.builtin "type.__call__" ⟨.ref C :: us, kw⟩)) A.guards = some []
  rw [h]
  have e : Code.guards (.builtin "type.__call__" ⟨.ref C :: us, kw⟩) = [] := by
    show (if guardIds.contains "type.__call__" = true then _ else _) = _
    rw [if_neg (by decide +kernel)]
  rw [e]
  rfl
theorem Rm.make {b : Bool} {k : Nat} {A : Around} (h : Rm b (k + 1) A) (C : Addr) (us : List Value) (kw : List (Str × Value)) :
    Rm b k (A.under (.builtin "type.__call__" ⟨.ref C :: us, kw⟩)) := ⟨h.room.make C us kw, fun z => make_guards (h.gd z)⟩
structure Gn (P : Program) (w : World) (K : PySem.W.Frag) (mg : Str → Option Value) (base : Heap) (b : Bool) (k : Nat) (f : Addr) (fd : FuncData) (ps : List Str) (sp : Sp) : Prop where
  len : ∀ vs H Q E, sp vs H Q E → vs.length = ps.length
  run : ∀ (A : Around) (fr : List Env) (s : Shared) (H : Hp) (args : Args) (us : List Value) (vs : List V) (Q : VK) (E : XK),
    Rm b k A → Env0 P w K mg base A fr s H → BindsTo s fd args (ps.zip us) → Vals vs us → sp vs H Q E →
    codeAny (model P w) A (.call (.ref f) args) (CR (L2.CX P w) fr P w H s Q E) s
section
variable {P : Program} {w : World} {K : PySem.W.Frag} {mg : Str → Option Value} {base : Heap} {b : Bool} {j k : Nat} {f : Addr} {fd : FuncData} {sp : Sp} {N ps : List Str}
theorem Gn.mono (F : Gn P w K mg base b j f fd ps sp) (h : j ≤ k) : Gn P w K mg base b k f fd ps sp :=
  ⟨F.len, fun A fr s H args us vs Q E hr => F.run A fr s H args us vs Q E (hr.mono h)⟩
theorem gn_of {name qual : Str} {params : Arguments} {body : List Stmt} {scope : Scope} {dV kV doc pm cdv ct oc : Value} {an od : Option Addr} {osl : Array (Option Value)}
    (lk : K.lookup f = some ⟨oc, od, .func (PySem.W.fnOf name qual params body scope dV kV doc pm an cdv ct), osl⟩) (hcd : PySem.W.codeIn K cdv qual = true) (SC : FnScope N ps scope)
    (len : ∀ vs H Q E, sp vs H Q E → vs.length = ps.length)
    (hb : ∀ (A : Around) (fr : List Env) (s : Shared) (H : Hp) (vs : List V) (Q : VK) (E : XK),
      Rm b k (A.deeper (envOfC qual scope s.heap.objs.size f cdv)) → sp vs H Q E →
      ∃ t, PSs (cxOf (L2.CX P w) P w K mg base N qual scope f cdv A fr s H E) body t ∧ t { nx := fun _ H' => Q .non H', rt := Q } (start N vs) H) :
    Gn P w K mg base b (k + 1) f (PySem.W.fnOf name qual params body scope dV kV doc pm an cdv ct) ps sp := by
  refine ⟨len, ?_⟩
  intro A fr s H args us vs Q E hr e0 hbind rv hsp
  have inK : K.In s.heap := by
    refine e0.mod.kin.keeps ?_
    exact fun b o e => (e0.bs b o e).1
  have noL : s.heap.NoLimit := by
    refine e0.mod.nolimit.keeps ?_
    exact fun b o e => (e0.bs b o e).1
  have kinds : ∀ y ∈ ps.zip us, scope.names.lookup y.1 = some .local ∨
      (scope.names.lookup y.1 = some .cell ∧ ((cellsFrom (s.heap.objs.size + 1) scope.names []).lookup y.1).isSome = true) := by
    rintro ⟨n, v⟩ hy
    have hn := SC.par n (List.of_mem_zip hy).1
    exact hn.imp id fun q => ⟨q, PySem.W.cellsFrom_some _ _ _ (.inl q)⟩
  refine codeAny_call_function hr.room.depth (inK _ _ lk) rfl SC.co SC.gen rfl ?_ (hbind _ _ _ _ ?_)
  · exact PySem.W.codeRec_of inK hcd
  refine wpAny_newFunctionEnv_cells SC.kind kinds ?_
  rintro env rfl s1 x
  refine ⟨noL.keeps x.toInCall.keep, codeAny_func ?_⟩
  obtain ⟨t, ht, hq⟩ := hb A fr s H vs Q E (hr.deeper _) hsp
  have I := inv_start (CX := L2.CX P w) (P := P) (w := w) (E := E) SC hr.room.hd e0 (len _ _ _ _ hsp) rv x
  have run := ht.run [] s1 _ H _ I hq
  refine wpAny_mono run ?_ (fun e s' hs => hs)
  intro fl s' hs
  cases fl with
  | ret u =>
    obtain ⟨v, σ', H', J, r', q⟩ := hs
    exact ⟨v, H', J.os, J.bare, J.base, J.hok, r', q⟩
  | next =>
    obtain ⟨σ', H', J, q⟩ := hs
    exact ⟨V.non, H', J.os, J.bare, J.base, J.hok, rfl, q⟩
  | brk =>
    obtain ⟨_, _, _, q⟩ := hs
    exact q.elim
  | cont =>
    obtain ⟨_, _, _, q⟩ := hs
    exact q.elim
end
def spV (G : Sg) (g : List D → M D) : Sp := fun vs H Q E => ∃ w ds S, w.H = H ∧ RepS G w S ∧ RepVs G w ds vs ∧ FinG G (RepV G) E w Q (g ds S)
abbrev PassS (X : Cx) (W : WX) : Prop := ∀ σ, PassesAt (L2.CX X.prog X.w) X σ (WE W σ)
end Ev
set_option maxRecDepth 100000
set_option maxHeartbeats 2000000
namespace Ev
open PySem PySem.Spec PyProof.Rows L2
structure Ctx (G : Sg) (X : Cx) (W : WX) (k : Nat) : Prop where
  cK : G.K = X.K
  calm : X.calm = true
  rm : Rm G.gd (k + 1) X.A
  nd : X.N.Nodup
  px : PassS X W
  po : PassesOwn (model X.prog X.w) X.A X.env X.xe
theorem Ctx.rm0 {G : Sg} {X : Cx} {W : WX} {k : Nat} (c : Ctx G X W k) : Rm G.gd k X.A := c.rm.mono (Nat.le_succ _)
structure FnA (P : Program) (w : World) (K : PySem.W.Frag) (mg : Str → Option Value) (base : Heap) (G : Sg) (k : Nat) (f : Addr) (sem : List D → M D) : Prop where
  run : ∀ (A : Around) (fr : List Env) (s : Shared) (H : Hp) (us : List Value) (vs : List V) (Q : VK) (E : XK),
    Rm G.gd k A → Env0 P w K mg base A fr s H → Vals vs us → spV G sem vs H Q E → codeAny (model P w) A (.call (.ref f) ⟨us, []⟩) (CR (L2.CX P w) fr P w H s Q E) s
  kp : PySem.W.keepIn K (.ref f) = true
theorem FnA.of {P : Program} {w : World} {K : PySem.W.Frag} {mg : Str → Option Value} {base : Heap} {G : Sg} {k : Nat} {f : Addr} {fd : FuncData} {ps : List Str} {sem : List D → M D} (g : Gn P w K mg base G.gd k f fd ps (spV G sem)) (b : Binds K fd ps [])
    (kp : PySem.W.keepIn K (.ref f) = true) : FnA P w K mg base G k f sem := by
  refine ⟨fun A fr s H us vs Q E hr e0 r h => ?_, kp⟩
  have hl : us.length = ps.length := r.length.symm.trans (g.len _ _ _ _ h)
  have inK : K.In s.heap := e0.mod.kin.keeps fun b o e => (e0.bs b o e).1
  have hb := b s us inK (by rw [List.append_nil]; exact hl)
  rw [List.append_nil] at hb
  exact g.run A fr s H ⟨us, []⟩ us vs Q E hr e0 hb r h
theorem FnA.mono {P : Program} {w : World} {K : PySem.W.Frag} {mg : Str → Option Value} {base : Heap} {G : Sg} {j k : Nat} {f : Addr} {sem : List D → M D} (F : FnA P w K mg base G j f sem) (h : j ≤ k) : FnA P w K mg base G k f sem :=
  ⟨fun A fr s H us vs Q E hr => F.run A fr s H us vs Q E (hr.mono h), F.kp⟩
abbrev FnX (X : Cx) (G : Sg) (k : Nat) (f : Addr) (sem : List D → M D) : Prop := FnA X.prog X.w X.K X.mg X.base G k f sem
section
variable {G : Sg} {X : Cx} {W : WX} {k n : Nat} {f : Addr} {sem : List D → M D} {x : Str} {p pos apos : Pos} {e o : Expr} {es : List Expr} {fa : List SV → M (List D)} {σ : L2.St}
theorem run_fa {pins : List (Addr × Obj)} {H : Hp} {s : Shared} {Q : VK} {us : List Value} {vs : List V} (c : Ctx G X W k) (F : FnX X G k f sem) (I : Inv X pins σ H s) (r : Vals vs us)
    (h : spV G sem vs H Q (WE W σ)) : wpAny (model X.prog X.w) X.A (call (.ref f) us) (EP X pins σ Q) X.xe s := by
  have body := F.run X.A X.stack s H us vs Q (WE W σ) c.rm0 I.env0 r h
  refine wpAny_call (codeAny_mono body ?_)
  intro res s' hq
  rcases res with e | fl
  · exact c.px σ pins H s e s' I hq
  · cases fl with
    | ret u => exact I.after hq
    | next => exact hq.elim
    | brk => exact hq.elim
    | cont => exact hq.elim
theorem lookup_zip_some {m : Str} : ∀ {fs : List Str} {vs : List V} {i : Nat} {v : V}, fs.Nodup → fs[i]? = some m → vs[i]? = some v → (fs.zip vs).lookup m = some v
  | [], _, _, _, _, h, _ => by simp at h
  | _ :: _, [], _, _, _, _, h => by simp at h
  | f :: fs, u :: vs, 0, v, _, h1, h2 => by
    simp at h1 h2
    subst h1 h2
    simp
  | f :: fs, u :: vs, i + 1, v, nd, h1, h2 => by
    have nd := List.nodup_cons.mp nd
    have hm : fs[i]? = some m := by simpa using h1
    have hne : (m == f) = false := by
      have : ¬ m = f := fun e => nd.1 (e ▸ List.mem_of_getElem? hm)
      simpa using this
    rw [List.zip_cons_cons, List.lookup_cons, hne]
    exact lookup_zip_some nd.2 hm (by simpa using h2)
def plainBase : Expr → Bool
  | .Call (.Name _ _) [] [] _ => false
  | _ => true
theorem attr_base {env : Env} {m : Str} {whole : Sem Value} (h : plainBase o = true) : attributeBase o m env whole = whole := by
  unfold attributeBase
  split
  · cases h
  · rfl
def fldsOf (d : D) : M (Nat × List D) := fun S => match d with
  | .ins c ds => some (.ok (c, ds), S)
  | .ref n => match S[n]? with
    | some (.ins c ds) => some (.ok (c, ds), S)
    | _ => none
  | _ => none
theorem fldsOf_rep {w : Wd} {S : List Ob} {d : D} {v : V} {c : Nat} {ds : List D} {S' : List Ob} (s : RepS G w S) (r : RepV G w d v) (h : fldsOf d S = some (.ok (c, ds), S')) :
    S' = S ∧ ∃ a dx vs, v = .ref a ∧ w.H a = some (.ins (G.ca c) dx ((G.fn c).zip vs)) ∧ RepVs G w ds vs := by
  unfold fldsOf at h
  cases d with
  | ins c' es =>
    simp only [Option.some.injEq, Prod.mk.injEq, Except.ok.injEq] at h
    obtain ⟨⟨rfl, rfl⟩, rfl⟩ := h
    obtain ⟨a, dx, vs, e1, _, h1, _, h3⟩ := r
    exact ⟨rfl, a, dx, vs, e1, h1, h3⟩
  | ref n =>
    obtain ⟨a, e1, h1⟩ := r
    rcases hn : S[n]? with _ | ⟨_ | _ | ⟨c', es⟩⟩
    · simp [hn] at h
    · simp [hn] at h
    · simp [hn] at h
    · simp only [hn, Option.some.injEq, Prod.mk.injEq, Except.ok.injEq] at h
      obtain ⟨⟨rfl, rfl⟩, rfl⟩ := h
      obtain ⟨dx, vs, h2, _, h3⟩ := s.ob n a _ h1 hn
      exact ⟨rfl, a, dx, vs, e1, h2, h3⟩
  | _ => simp at h
theorem fldsOf_noerr {d : D} {S S' : List Ob} {x : Exn} : fldsOf d S ≠ some (.error x, S') := by
  intro h
  unfold fldsOf at h
  split at h
  · simp at h
  · split at h <;> simp at h
  · simp at h
inductive At where
  | fld (i : Nat)
  | prop (g : List D → M D)
def noErr {α : Type} (f : M α) : M α := fun S => match f S with
  | some (.ok a, S') => some (.ok a, S')
  | _ => none
def attr (tbl : Nat → Option At) (d : D) : M D := M.bind (fldsOf d) fun cd => match tbl cd.1 with
  | some (.fld i) => match cd.2[i]? with
    | some x => M.pure x
    | none => M.stuck
  | some (.prop g) => noErr (g [d])
  | none => M.stuck
structure AttrT (X : Cx) (G : Sg) (k : Nat) (m : Str) (tbl : Nat → Option At) : Prop where
  fld : ∀ c i, tbl c = some (.fld i) → Cls X.K (G.ca c) ∧ NoAttr X.K (G.ca c) m ∧ (G.fn c).Nodup ∧ (G.fn c)[i]? = some m
  prop : ∀ c g, tbl c = some (.prop g) → ∃ p f, Cls X.K (G.ca c) ∧ PropOf X.K (G.ca c) m p f ∧ FnX X G k f g
theorem run_prop {pins : List (Addr × Obj)} {H : Hp} {s : Shared} {Q : VK} {b : Bool} {E' : Value → Shared → Prop} {a C dx p : Addr} {fs : List (Str × V)} {m : Str} (hr : Rm G.gd (k + 1) X.A) (I : Inv X pins σ H s) (ea : H a = some (.ins C dx fs)) (cl : Cls X.K C)
    (hp : PropOf X.K C m p f) (F : FnX X G k f sem) (h : spV G sem [.ref a] H Q (fun _ _ _ => False)) : wpAny (model X.prog X.w) X.A (getAttr (.ref a) m b) (EP X pins σ Q) E' s := by
  obtain ⟨mA, O, _, _, _, _⟩ := ins_get I.hok ea
  obtain ⟨od, J, _⟩ := O.look
  obtain ⟨rest, hrec⟩ := hp.rec_
  have I1 := I.tok (s.toks + 1)
  have hc : (PySem.W.clsIn X.K C).isSome = true := by
    obtain ⟨cd, hc, _⟩ := PySem.W.any_some cl.hd
    exact hc ▸ rfl
  have pg := PySem.W.plainGet_of (cl.get m)
  have body := F.run X.A.in1 X.stack { s with toks := s.toks + 1 } H [.ref a] [.ref a] Q (fun _ _ _ => False) hr.in1 I1.env0.in1 (.cons rfl .nil) h
  refine PySem.W.get_bind I.kIn J pg.1 (PySem.W.findObj_data hc hp.at_ hp.get hp.tak) pg.2 (wpAny_call (PySem.W.prop_get (s := { s with toks := s.toks + 1 }) I.kIn hrec (codeAny_mono body ?_)))
  intro res s' hq
  rcases res with er | fl
  · obtain ⟨_, _, _, _, _, _, _, _, _, _, _, _, z⟩ := hq
    exact z.elim
  · cases fl with
    | ret u =>
      obtain ⟨v, H', I3, rv, q3⟩ := I1.after hq
      show wpAny _ _ (handedOut u) _ _ _
      rw [PySem.W.handedOut_of (handed_of rv)]
      exact wpAny_pure ⟨v, H', I3, rv, q3⟩
    | next => exact hq.elim
    | brk => exact hq.elim
    | cont => exact hq.elim
theorem noErr_fin {W' W'' : Value → Option Addr → Hp → Prop} {α β : Type} {rep : Wd → α → β → Prop} {w : Wd} {Q : β → Hp → Prop} {S : List Ob} {g : M α} (h : FinG G rep W' w Q (noErr g S)) : FinG G rep W'' w Q (g S) := by
  unfold noErr at h
  rcases hg : g S with _ | ⟨x | a, S2⟩
  · rw [hg] at h; exact h.elim
  · rw [hg] at h; exact h.elim
  · rw [hg] at h; exact h
theorem v_attr {m : Str} {tbl : Nat → Option At} {fo : List SV → M D} (c : Ctx G X W k) (T : AttrT X G k m tbl) (ho : PV G X W o fo) (hb : plainBase o = true) : PV G X W (.Attribute o m pos) (fun sd => M.bind (fo sd) (attr tbl)) := by
  constructor
  intro pins s σ H Q I ⟨w0, w, sd, S, eH, r, q⟩
  refine attr_of (attr_base hb) (thn (ho.run pins s σ H (fun v H1 => ∃ w1 S1 d, w1.H = H1 ∧ RepS G w1 S1 ∧ RepV G w1 d v ∧ FinG G (RepV G) (fun c x H => W c x σ H) w1 Q (attr tbl d S1)) I ?_) ?_)
  · exact ⟨w0, w, sd, S, eH, r, fin_step q fun w1 S1 d v e1 s1 rv q1 => ⟨w1, S1, d, rfl, s1, rv, q1⟩⟩
  · rintro u s1 ⟨v, H1, I1, rv, w1, S1, d, eH1, s1', rd, q1⟩
    subst eH1
    unfold attr M.bind at q1
    rcases hc : fldsOf d S1 with _ | ⟨x | ⟨c', ds⟩, S2⟩
    · rw [hc] at q1; exact q1.elim
    · exact absurd hc fldsOf_noerr
    · obtain ⟨rfl, a, dx, vs, ev, hv, hds⟩ := fldsOf_rep s1' rd hc
      subst ev
      obtain rfl : u = Value.ref a := rv
      rw [hc] at q1
      simp only at q1
      rcases ht : tbl c' with _ | ⟨i | g⟩
      · rw [ht] at q1; exact q1.elim
      · rw [ht] at q1
        simp only at q1
        obtain ⟨cl, na, nd, hi⟩ := T.fld c' i ht
        rcases hx : ds[i]? with _ | y
        · rw [hx] at q1; exact q1.elim
        · rw [hx] at q1
          obtain ⟨z, hz, rz⟩ := hds.get hx
          refine getattr_ok I1 hv cl na (lookup_zip_some nd hi hz) fun u2 s2 I2 r2 => ?_
          exact ⟨z, w1.H, I2, r2, fin_pure q1 s1' rz⟩
      · rw [ht] at q1
        obtain ⟨p, f, cl, hp, F⟩ := T.prop c' g ht
        exact run_prop c.rm I1 hv cl hp F ⟨w1, [d], S2, rfl, s1', ⟨_, _, rfl, rd, rfl⟩, noErr_fin q1⟩
end
end Ev
set_option maxRecDepth 100000
set_option maxHeartbeats 2000000
namespace Ev
open PySem PySem.Spec PyProof.Rows L2
inductive Out where
  | next (sd : List SV) | ret (d : D) | brk (sd : List SV) | cont (sd : List SV) | err (e : Exn) (sd : List SV)
abbrev MS : Type := List SV → List Ob → Option (Out × List Ob)
def FinS (G : Sg) (W : WX) (w0 w : Wd) (D : Ends) : Option (Out × List Ob) → Prop
  | none => False
  | some (.next sd, S) => ∀ w' σ', Stay w w' → R G w0 w' sd S σ' → D.nx σ' w'.H
  | some (.ret d, S) => ∀ w' v, Ext w0 w' → RepS G w' S → RepV G w' d v → D.rt v w'.H
  | some (.brk sd, S) => ∀ w' σ', Stay w w' → R G w0 w' sd S σ' → D.bk σ' w'.H
  | some (.cont sd, S) => ∀ w' σ', Stay w w' → R G w0 w' sd S σ' → D.ct σ' w'.H
  | some (.err e sd, S) => ∀ w' σ' cls x, Stay w w' → R G w0 w' sd S σ' → RepX G w' e cls x → W cls x σ' w'.H
def tsV (G : Sg) (W : WX) (f : MS) : TS := fun D σ H => ∃ w0 w sd S, w.H = H ∧ R G w0 w sd S σ ∧ FinS G W w0 w D (f sd S)
abbrev PSV (G : Sg) (X : Cx) (W : WX) (st : Stmt) (f : MS) : Prop := PS X st (tsV G W f)
abbrev PSsV (G : Sg) (X : Cx) (W : WX) (st : List Stmt) (f : MS) : Prop := PSs X st (tsV G W f)
theorem FinS.stay {G : Sg} {W : WX} {w0 w w1 : Wd} {D : Ends} {r : Option (Out × List Ob)} (e : Stay w w1) (h : FinS G W w0 w D r) : FinS G W w0 w1 D r := by
  rcases r with _ | ⟨_ | _ | _ | _ | _, _⟩
  · exact h
  · exact fun w' σ' s => h w' σ' (e.trans s)
  · exact h
  · exact fun w' σ' s => h w' σ' (e.trans s)
  · exact fun w' σ' s => h w' σ' (e.trans s)
  · exact fun w' σ' c x s => h w' σ' c x (e.trans s)
def exS {α : Type} (f : List SV → M α) (k : α → MS) : MS := fun sd S => match f sd S with
  | none => none
  | some (.error e, S1) => some (.err e sd, S1)
  | some (.ok d, S1) => k d sd S1
def seqS (f g : MS) : MS := fun sd S => match f sd S with
  | some (.next sd', S') => g sd' S'
  | o => o
def nextS : MS := fun sd S => some (.next sd, S)
def stuckS : MS := fun _ _ => none
section
variable {G : Sg} {X : Cx} {W : WX} {k : Nat} {w0 w : Wd} {En : Ends}
theorem exS_step {α β : Type} {rep : Wd → α → β → Prop} {f : List SV → M α} {kk : α → MS} {sd : List SV} {S : List Ob} {σ : L2.St} {Q : β → Hp → Prop} (h : FinS G W w0 w En (exS f kk sd S)) (r : R G w0 w sd S σ)
    (c : ∀ w1 S1 d v, Ext w w1 → R G w0 w1 sd S1 σ → rep w1 d v → FinS G W w0 w1 En (kk d sd S1) → Q v w1.H) : FinG G rep (fun c x H => W c x σ H) w Q (f sd S) := by
  unfold exS at h
  rcases hf : f sd S with _ | ⟨_ | d, S1⟩
  · rw [hf] at h; exact h
  · rw [hf] at h
    exact fun w' cls x e s rx => h w' σ cls x (e.stay r.st.dj) (r.step e s) rx
  · rw [hf] at h
    exact fun w' v e s rv => c w' S1 d v e (r.step e s) rv (FinS.stay (e.stay r.st.dj) h)
theorem ss_nil : PSsV G X W [] nextS := by
  refine PSs.imp pss_nil fun D σ H h => ?_
  obtain ⟨w0, w, sd, S, e, r, q⟩ := h
  subst e
  exact q w σ (Stay.refl w) r
theorem ss_cons {st : Stmt} {rest : List Stmt} {f g : MS} (h1 : PSV G X W st f) (h2 : PSsV G X W rest g) : PSsV G X W (st :: rest) (seqS f g) := by
  refine PSs.imp (pss_cons h1 h2) fun D σ H h => ?_
  obtain ⟨w0, w, sd, S, e, r, q⟩ := h
  refine ⟨w0, w, sd, S, e, r, ?_⟩
  unfold seqS at q
  rcases hf : f sd S with _ | ⟨_ | _ | _ | _ | _, S1⟩
  · rw [hf] at q; exact q
  · rw [hf] at q
    exact fun w' σ' s r' => ⟨w0, w', _, S1, rfl, r', FinS.stay s q⟩
  · rw [hf] at q; exact q
  · rw [hf] at q; exact q
  · rw [hf] at q; exact q
  · rw [hf] at q; exact q
theorem ss_never {sts : List Stmt} : PSsV G X W sts stuckS := ⟨fun _ _ _ _ _ _ ⟨_, _, _, _, _, _, q⟩ => q.elim⟩
def retS (f : List SV → M D) : MS := exS f fun d _ S => some (.ret d, S)
theorem s_ret {e : Expr} {f : List SV → M D} {pos : Pos} (h : PV G X W e f) : PSV G X W (.Return (some e) pos) (retS f) := by
  refine PS.imp (ps_ret h) fun D σ H q => ?_
  obtain ⟨w0, w, sd, S, e, r, q⟩ := q
  exact ⟨w0, w, sd, S, e, r, exS_step q r fun w1 S1 d v _ r1 rv q1 => q1 w1 v r1.ex r1.st rv⟩
def swapFree : Expr → Bool
  | .ListComp .. | .SetComp .. | .DictComp .. => false
  | _ => true
theorem swap_free {e : Expr} {t : Option Expr} {l : Nat} {env : Env} (h : swapFree e = true) : swapsWith e t l env = pure false := by
  cases e <;> first | rfl | cases h
theorem s_expr {e : Expr} {f : List SV → M D} {pos : Pos} (h : PV G X W e f) (hs : swapFree e = true) : PSV G X W (.Expr e pos) (exS f fun _ => nextS) := by
  refine PS.imp (ps_expr h (swap_free hs)) fun D σ H q => ?_
  obtain ⟨w0, w, sd, S, e, r, q⟩ := q
  exact ⟨w0, w, sd, S, e, r, exS_step q r fun w1 S1 d v _ r1 rv q1 => q1 w1 σ (Stay.refl w1) r1⟩
theorem s_if {c : Expr} {a b : List Stmt} {fc : List SV → M Bool} {fa fb : MS} {pos : Pos} (hc : PB G X W c fc) (ha : PSsV G X W a fa) (hb : PSsV G X W b fb) :
    PSV G X W (.If c a b pos) (exS fc fun k => if k = true then fa else fb) := by
  refine PS.imp (ps_if hc ha hb) fun D σ H q => ?_
  obtain ⟨w0, w, sd, S, e, r, q⟩ := q
  refine ⟨w0, w, sd, S, e, r, exS_step q r fun w1 S1 d v _ r1 rv q1 => ?_⟩
  cases (show v = d from rv)
  cases d with
  | true => exact ⟨w0, w1, sd, S1, rfl, r1, q1⟩
  | false => exact ⟨w0, w1, sd, S1, rfl, r1, q1⟩
theorem R.setv {sd : List SV} {S : List Ob} {σ : L2.St} {d : D} {v : V} (r : R G w0 w sd S σ) (rv : RepV G w d v) (i : Nat) : R G w0 w (sd.set i (.val d)) S (σ.set i (some v)) := by
  have key : ∀ {j : Nat} {x : SV}, (sd.set i (.val d))[j]? = some x → (j = i ∧ i < sd.length ∧ x = .val d) ∨ (j ≠ i ∧ sd[j]? = some x) := fun {j x} h => by
    by_cases e : i = j
    · subst e
      by_cases l : i < sd.length
      · rw [List.getElem?_set_self l] at h
        cases h
        exact .inl ⟨rfl, l, rfl⟩
      · rw [List.getElem?_eq_none (by simpa using l)] at h
        cases h
    · rw [List.getElem?_set_ne e] at h
      exact .inr ⟨fun z => e z.symm, h⟩
  refine ⟨r.ex, r.st, by rw [List.length_set, List.length_set]; exact r.ln, fun j x h => ?_, fun j o h => ?_, fun j1 j2 o o' a h1 h2 h3 h4 => ?_, fun a o e h => by
    rcases key h with ⟨_, _, e⟩ | ⟨ne, h⟩
    · cases e
    · rw [List.getElem?_set_ne (fun z => ne z.symm)]
      exact r.sf a o e h⟩
  · rcases key h with ⟨rfl, l, e⟩ | ⟨ne, h⟩
    · cases e
      exact ⟨v, List.getElem?_set_self (by rw [r.ln]; exact l), rv⟩
    · rw [List.getElem?_set_ne (fun z => ne z.symm)]
      exact r.vl j x h
  · rcases key h with ⟨_, _, e⟩ | ⟨ne, h⟩
    · cases e
    · rw [List.getElem?_set_ne (fun z => ne z.symm)]
      exact r.ow j o h
  · rcases key h1 with ⟨_, _, e⟩ | ⟨n1, h1⟩
    · cases e
    · rcases key h2 with ⟨_, _, e⟩ | ⟨n2, h2⟩
      · cases e
      · rw [List.getElem?_set_ne (fun z => n1 z.symm)] at h3
        rw [List.getElem?_set_ne (fun z => n2 z.symm)] at h4
        exact r.ap j1 j2 o o' a h1 h2 h3 h4
abbrev Tgt : Type := D → List SV → List Ob → Option (List SV × List Ob)
abbrev Tgts : Type := List D → List SV → List Ob → Option (List SV × List Ob)
def FinT (G : Sg) (w0 w : Wd) (σ : L2.St) (ts : List Nat) (Q : L2.St → Hp → Prop) : Option (List SV × List Ob) → Prop
  | none => False
  | some (sd, S) => ∀ w' σ', Stay w w' → R G w0 w' sd S σ' → (∀ i, i ∉ ts → σ'[i]? = σ[i]?) → Q σ' w'.H
def tgV (G : Sg) (ts : List Nat) (f : Tgt) : TG := fun v σ H Q => ∃ w0 w sd S d, w.H = H ∧ R G w0 w sd S σ ∧ RepV G w d v ∧ FinT G w0 w σ ts Q (f d sd S)
def tgsV (G : Sg) (ts : List Nat) (n : Nat) (f : Tgts) : TGs := fun vs σ H Q => ∃ w0 w sd S ds, w.H = H ∧ R G w0 w sd S σ ∧ RepVs G w ds vs ∧ ds.length = n ∧ FinT G w0 w σ ts Q (f ds sd S)
abbrev PGV (G : Sg) (X : Cx) (ts : List Nat) (t : Expr) (f : Tgt) : Prop := PG X t (tgV G ts f)
abbrev PGsV (G : Sg) (X : Cx) (ts : List Nat) (n : Nat) (t : List Expr) (f : Tgts) : Prop := PGs X t (tgsV G ts n f)
theorem PG.imp {t : Expr} {g g' : TG} (h : PG X t g) (i : ∀ v σ H Q, g' v σ H Q → g v σ H Q) : PG X t g' := ⟨fun p s σ H v u Q I r q => h.run p s σ H v u Q I r (i _ _ _ _ q)⟩
theorem PGs.imp {t : List Expr} {g g' : TGs} (h : PGs X t g) (i : ∀ v σ H Q, g' v σ H Q → g v σ H Q) : PGs X t g' := ⟨fun p s σ H v u Q I r q => h.run p s σ H v u Q I r (i _ _ _ _ q)⟩
theorem PG.or {t : Expr} {g g' : TG} (h : PG X t g) (h' : PG X t g') : PG X t (fun v σ H Q => g v σ H Q ∨ g' v σ H Q) := ⟨fun p s σ H v u Q I r q => q.elim (h.run p s σ H v u Q I r) (h'.run p s σ H v u Q I r)⟩
def setT (i : Nat) : Tgt := fun d sd S => some (sd.set i (.val d), S)
theorem g_name {i : Nat} {x : Str} {pos : Pos} (hN : X.N.Nodup) (hi : X.N[i]? = some x) (hx : Loc X.env.scope x) (hf : X.fn x = true ∨ X.env.scope.names.lookup x = some .local) : PGV G X [i] (.Name x pos) (setT i) := by
  refine PG.imp (pg_name hN hi hx hf) fun v σ H Q q => ?_
  obtain ⟨w0, w, sd, S, d, e, r, rv, q⟩ := q
  subst e
  refine q w (σ.set i (some v)) (Stay.refl w) (r.setv rv i) fun j hj => ?_
  rw [List.getElem?_set_ne (fun z => hj (by rw [z]; exact List.mem_cons_self))]
theorem gs_nil : PGsV G X [] 0 [] (fun _ sd S => some (sd, S)) := by
  refine PGs.imp pgs_nil fun vs σ H Q q => ?_
  obtain ⟨w0, w, sd, S, ds, e, r, rv, hl, q⟩ := q
  subst e
  have ed : ds = [] := List.eq_nil_of_length_eq_zero hl
  subst ed
  exact ⟨rv, q w σ (Stay.refl w) r fun _ _ => rfl⟩
def consT (f : Tgt) (g : Tgts) : Tgts := fun ds sd S => match ds with
  | [] => none
  | d :: ds => match f d sd S with
    | none => none
    | some (sd1, S1) => g ds sd1 S1
theorem assignEach_cons {e : Expr} {es : List Expr} {env : Env} (h : notStar e = true) : assignEach (e :: es) env = (false, assign e env) :: assignEach es env := by
  cases e <;> first | rfl | cases h
theorem gs_cons {ts us : List Nat} {n : Nat} {e : Expr} {es : List Expr} {f : Tgt} {g : Tgts} (h1 : PGV G X ts e f) (h2 : PGsV G X us n es g) (hs : notStar e = true) : PGsV G X (ts ++ us) (n + 1) (e :: es) (consT f g) := by
  refine PGs.imp (pgs_cons h1 h2 (by rw [assignEach_cons hs]; rfl)) fun vs σ H Q q => ?_
  obtain ⟨w0, w, sd, S, ds, e, r, rv, hl, q⟩ := q
  subst e
  cases ds with
  | nil => exact q.elim
  | cons d ds =>
    obtain ⟨v, vr, ev, rd, rr⟩ := rv
    refine ⟨v, vr, ev, w0, w, sd, S, d, rfl, r, rd, ?_⟩
    unfold consT at q
    simp only at q
    rcases hf : f d sd S with _ | ⟨sd1, S1⟩
    · rw [hf] at q; exact q
    · rw [hf] at q
      simp only at q
      intro w1 σ1 s1 r1 k1
      refine ⟨w0, w1, sd1, S1, ds, rfl, r1, RepVs.stay s1 _ _ rr, by simpa using hl, ?_⟩
      rcases hg : g ds sd1 S1 with _ | ⟨sd2, S2⟩
      · rw [hg] at q; exact q
      · rw [hg] at q
        intro w2 σ2 s2 r2 k2
        refine q w2 σ2 (s1.trans s2) r2 fun i hi => ?_
        rw [k2 i (fun z => hi (List.mem_append_right _ z)), k1 i (fun z => hi (List.mem_append_left _ z))]
def tupT (n : Nat) (g : Tgts) : Tgt := fun d sd S => match d with
  | .tup ds => if ds.length = n then g ds sd S else none
  | .lst ds => if ds.length = n then g ds sd S else none
  | _ => none
theorem assignEach_len {env : Env} : ∀ {es : List Expr}, es.all notStar = true → (assignEach es env).length = es.length ∧ (assignEach es env).findIdx? (·.1) = none
  | [], _ => ⟨rfl, rfl⟩
  | e :: es, h => by
    have h : notStar e = true ∧ es.all notStar = true := by simpa using h
    obtain ⟨h1, h2⟩ := assignEach_len (env := env) h.2
    rw [assignEach_cons h.1]
    refine ⟨by rw [List.length_cons, List.length_cons, h1], ?_⟩
    rw [List.findIdx?_cons]
    show (if false = true then _ else _) = none
    rw [if_neg Bool.false_ne_true, h2]
    rfl
theorem g_tup {ts : List Nat} {es : List Expr} {j n : Nat} {g : Tgts} {pos : Pos} (cK : G.K = X.K) (hc : X.calm = true) (h : PGsV G X ts n es g) (hs : es.all notStar = true) (hn : es.length = n) : PGV G X ts (.Tuple es j pos) (tupT n g) := by
  have hl := assignEach_len (env := X.env) hs
  refine PG.imp (PG.or (pg_tup hc h (hl.1.trans hn) hl.2) (pg_lst hc h (hl.1.trans hn) hl.2)) fun v σ H Q q => ?_
  obtain ⟨w0, w, sd, S, d, e, r, rv, q⟩ := q
  subst e
  cases d with
  | tup ds =>
    obtain ⟨a, vs, ev, ha, rs⟩ := rv
    by_cases hd : ds.length = n
    · simp only [tupT, if_pos hd] at q
      exact .inl ⟨a, vs, ev, sqT_of cK ha, by rw [← rs.length]; exact hd, w0, w, sd, S, ds, rfl, r, rs, hd, q⟩
    · simp only [tupT, if_neg hd] at q
      exact q.elim
  | lst ds =>
    obtain ⟨a, vs, ev, fa, ha, rs⟩ := rv
    by_cases hd : ds.length = n
    · simp only [tupT, if_pos hd] at q
      exact .inr ⟨a, vs, ev, .of ha, by rw [← rs.length]; exact hd, w0, w, sd, S, ds, rfl, r, rs, hd, q⟩
    · simp only [tupT, if_neg hd] at q
      exact q.elim
  | _ => exact q.elim
def asgS (f : List SV → M D) (t : Tgt) : MS := exS f fun d sd S => match t d sd S with
  | some (sd', S') => some (.next sd', S')
  | none => none
theorem asg_fin {ts : List Nat} {t : Tgt} {d : D} {sd : List SV} {S : List Ob} {σ : L2.St} {v : V} (q : FinS G W w0 w En (match t d sd S with | some (sd', S') => some (.next sd', S') | none => none)) (r : R G w0 w sd S σ) (rv : RepV G w d v) : tgV G ts t v σ w.H En.nx := by
  refine ⟨w0, w, sd, S, d, rfl, r, rv, ?_⟩
  rcases ht : t d sd S with _ | ⟨sd1, S1⟩
  · rw [ht] at q; exact q
  · rw [ht] at q
    exact fun w' σ' s r' _ => q w' σ' s r'
theorem s_asg {ts : List Nat} {tg e : Expr} {f : List SV → M D} {t : Tgt} {pos : Pos} (he : PV G X W e f) (hg : PGV G X ts tg t) (hs : swapsWithSole [tg] e pos.line X.env = pure false) (hw : swappedStores [tg] e X.env = pure none) (hst : notStar tg = true) :
    PSV G X W (.Assign [tg] e pos) (asgS f t) := by
  refine PS.imp (ps_asg he hg hs hw (by rw [assignEach_cons hst]; rfl)) fun D σ H q => ?_
  obtain ⟨w0, w, sd, S, e, r, q⟩ := q
  exact ⟨w0, w, sd, S, e, r, exS_step q r fun w1 S1 d v e1 r1 rv q1 => asg_fin q1 r1 rv⟩
theorem s_set {i : Nat} {x : Str} {e : Expr} {f : List SV → M D} {pos pos' : Pos} (c : Ctx G X W k) (hi : X.N[i]? = some x) (hx : Loc X.env.scope x) (he : PV G X W e f) (hs : swapFree e = true) (hf : X.fn x = true ∨ X.env.scope.names.lookup x = some .local) :
    PSV G X W (.Assign [.Name x pos'] e pos) (asgS f (setT i)) := by
  refine PS.imp (ps_set c.nd hi hx he (swap_free hs) hf) fun D σ H q => ?_
  obtain ⟨w0, w, sd, S, e, r, q⟩ := q
  exact ⟨w0, w, sd, S, e, r, exS_step q r fun w1 S1 d v e1 r1 rv q1 => q1 w1 (σ.set i (some v)) (Stay.refl w1) (r1.setv rv i)⟩
def parS (i j : Nat) (f : List SV → M (List D)) : MS := exS f fun ds sd S => match ds with
  | [a, b] => some (.next ((sd.set i (.val a)).set j (.val b)), S)
  | _ => none
theorem s_par {n i j : Nat} {x y : Str} {a b : Expr} {f : List SV → M (List D)} {px py pt pos : Pos} {kt k2 : Nat} {pt2 : Pos} (c : Ctx G X W k) (hi : X.N[i]? = some x) (hj : X.N[j]? = some y) (hij : i ≠ j)
    (hx : X.env.scope.names.lookup x = some .local) (hy : X.env.scope.names.lookup y = some .local) (ha : PLn G X W n [a, b] f) (hw : swappedStores [.Tuple [.Name x px, .Name y py] kt pt] (.Tuple [a, b] k2 pt2) X.env = pure (some [x, y])) :
    PSV G X W (.Assign [.Tuple [.Name x px, .Name y py] kt pt] (.Tuple [a, b] k2 pt2) pos) (parS i j f) := by
  refine PS.imp (ps_par c.calm c.nd hi hj hij hx hy ha hw rfl) fun D σ H q => ?_
  obtain ⟨w0, w, sd, S, e, r, q⟩ := q
  refine ⟨w0, w, sd, S, e, r, exS_step q r fun w1 S1 ds vs e1 r1 rv q1 => ?_⟩
  rcases ds with _ | ⟨d1, _ | ⟨d2, _ | ⟨d3, ds⟩⟩⟩
  · exact q1.elim
  · exact q1.elim
  · obtain ⟨⟨v1, t1, e1, h1, v2, t2, e2, h2, e3⟩, _⟩ := rv
    subst e1 e2
    cases (show t2 = [] from e3)
    exact ⟨v1, v2, rfl, q1 w1 _ (Stay.refl w1) ((r1.setv h1 i).setv h2 j)⟩
  · exact q1.elim
end
end Ev
set_option maxRecDepth 100000
set_option maxHeartbeats 2000000
namespace Ev
open PySem PySem.Spec PyProof.Rows L2
structure Yld (G : Sg) (w : Wd) (ds : List D) (J : It) : Prop where
  stop : ∀ w' i, Stay w w' → ds.length ≤ i → J.stop i w'.H
  go : ∀ w' i, Stay w w' → i < ds.length → J.go i w'.H
  yld : ∀ w' i d x H' S, Stay w w' → RepS G w' S → ds[i]? = some d → J.yld i w'.H x H' → ∃ w'', w''.H = H' ∧ Ext w' w'' ∧ RepS G w'' S ∧ RepV G w'' d x
abbrev PIV (G : Sg) (X : Cx) (W : WX) (tg iter : Expr) (f : List SV → M (List D)) : Prop := PI X tg iter (fun σ H Rr => teG G (Yld G) W f σ H Rr)
theorem PI.imp {X : Cx} {t e : Expr} {g g' : TI} (h : PI X t e g) (i : ∀ σ H Q, g' σ H Q → g σ H Q) : PI X t e g' := ⟨fun p s σ H R I q => h.run p s σ H R I (i _ _ _ q)⟩
def seqOf : D → M (List D)
  | .lst ds => M.pure ds
  | .tup ds => M.pure ds
  | .scr ds => M.pure ds
  | _ => M.stuck
section
variable {G : Sg} {X : Cx} {W : WX} {k : Nat} {w : Wd}
theorem RepVs.get_len {ds : List D} {vs : List V} (h : RepVs G w ds vs) {i : Nat} : i < ds.length → ∃ v, vs[i]? = some v := fun hi => by
  obtain ⟨v, e, _⟩ := h.get (List.getElem?_eq_getElem hi)
  exact ⟨v, e⟩
theorem yld_list (cK : G.K = X.K) {ds : List D} {vs : List V} {a : Addr} (h : RdF w a (.lst vs) ∨ KLst G.K a vs) (r : RepVs G w ds vs) : Yld G w ds (Itl X.K a) := by
  have sq : ∀ w', Stay w w' → SqL X.K w'.H a vs := fun w' s => sqL_of cK (h.imp (fun z => z.stay s) id)
  refine ⟨fun w' i s hi => ⟨vs, sq w' s, by rw [← r.length]; exact hi⟩, fun w' i s hi => ?_, fun w' i d x H' S s st hd hy => ?_⟩
  · obtain ⟨v, e⟩ := r.get_len hi
    exact ⟨vs, v, sq w' s, e⟩
  · obtain ⟨e, hx⟩ := hy
    obtain ⟨v, ev, rv⟩ := r.get hd
    have := hx vs (sq w' s)
    rw [ev] at this
    cases this
    exact ⟨w', e.symm, Ext.refl _, st, RepV.stay s _ _ rv⟩
theorem yld_tup (cK : G.K = X.K) {ds : List D} {vs : List V} {a : Addr} (h : RdF w a (.tup vs) ∨ KTup G.K a vs) (r : RepVs G w ds vs) : Yld G w ds (Itt X.K a) := by
  have sq : ∀ w', Stay w w' → SqT X.K w'.H a vs := fun w' s => sqT_of cK (h.imp (fun z => z.stay s) id)
  refine ⟨fun w' i s hi => ⟨vs, sq w' s, by rw [← r.length]; exact hi⟩, fun w' i s hi => ?_, fun w' i d x H' S s st hd hy => ?_⟩
  · obtain ⟨v, e⟩ := r.get_len hi
    exact ⟨vs, v, sq w' s, e⟩
  · obtain ⟨e, hx⟩ := hy
    obtain ⟨v, ev, rv⟩ := r.get hd
    have := hx vs (sq w' s)
    rw [ev] at this
    cases this
    exact ⟨w', e.symm, Ext.refl _, st, RepV.stay s _ _ rv⟩
theorem PI.or {t e : Expr} {g g' : TI} (h : PI X t e g) (h' : PI X t e g') : PI X t e (fun σ H Q => g σ H Q ∨ g' σ H Q) := ⟨fun p s σ H R I q => q.elim (h.run p s σ H R I) (h'.run p s σ H R I)⟩
theorem i_seq {tg e : Expr} {f : List SV → M D} (c : Ctx G X W k) (he : PV G X W e f) : PIV G X W tg e (fun sd => M.bind (f sd) seqOf) := by
  refine PI.imp (PI.or (pi_list he) (pi_tup he)) fun σ H Q q => ?_
  obtain ⟨w0, w, sd, S, e, r, q⟩ := q
  rcases hf : f sd S with _ | ⟨x | d, S1⟩
  · simp only [M.bind, hf] at q; exact q.elim
  · refine .inl ⟨w0, w, sd, S, e, r, ?_⟩
    simp only [M.bind, hf] at q
    rw [hf]
    exact q
  · simp only [M.bind, hf] at q
    cases d with
    | lst ds =>
      refine .inl ⟨w0, w, sd, S, e, r, ?_⟩
      rw [hf]
      intro w' v e1 s1 rv
      obtain ⟨a, vs, ev, fa, ha, rs⟩ := rv
      have hh : RdF w' a (.lst vs) ∨ KLst G.K a vs := .inl ⟨fa, .inl ha⟩
      exact ⟨a, ev, ⟨vs, sqL_of c.cK hh⟩, q w' _ e1 s1 (yld_list c.cK hh rs)⟩
    | scr ds =>
      refine .inl ⟨w0, w, sd, S, e, r, ?_⟩
      rw [hf]
      intro w' v e1 s1 rv
      obtain ⟨a, vs, ev, hh, rs⟩ := rv
      exact ⟨a, ev, ⟨vs, sqL_of c.cK hh⟩, q w' _ e1 s1 (yld_list c.cK hh rs)⟩
    | tup ds =>
      refine .inr ⟨w0, w, sd, S, e, r, ?_⟩
      rw [hf]
      intro w' v e1 s1 rv
      obtain ⟨a, vs, ev, hh, rs⟩ := rv
      exact ⟨a, ev, ⟨vs, sqT_of c.cK hh⟩, q w' _ e1 s1 (yld_tup c.cK hh rs)⟩
    | _ => exact q.elim
def rngD (lo : Int) (n : Nat) : List D := (List.range n).map fun i => .int (lo + (i : Nat))
theorem yld_rng {lo : Int} {n : Nat} : Yld G w (rngD lo n) (Itr lo n) := by
  have hl : (rngD lo n).length = n := by unfold rngD; rw [List.length_map, List.length_range]
  refine ⟨fun w' i s hi => by rw [hl] at hi; exact hi, fun w' i s hi => by rw [hl] at hi; exact hi, fun w' i d x H' S s st hd hy => ?_⟩
  obtain ⟨e1, e2⟩ := hy
  refine ⟨w', e1.symm, Ext.refl _, st, ?_⟩
  unfold rngD at hd
  rw [List.getElem?_map] at hd
  rcases hr : (List.range n)[i]? with _ | j
  · rw [hr] at hd; cases hd
  · rw [hr] at hd
    have hj : i = j := by
      have h2 := List.getElem?_eq_some_iff.mp hr
      obtain ⟨h3, h4⟩ := h2
      rw [List.getElem_range] at h4
      exact h4
    cases hd
    rw [hj] at e2
    exact e2
def rng1 : List D → M (List D)
  | [.int j] => if -(2 ^ 62) ≤ j ∧ j < 2 ^ 62 then M.pure (rngD 0 j.toNat) else M.stuck
  | _ => M.stuck
def rng2 : List D → M (List D)
  | [.int i, .int j] => if (-(2 ^ 62) ≤ i ∧ i < 2 ^ 62) ∧ -(2 ^ 62) ≤ j ∧ j < 2 ^ 62 then M.pure (rngD i (j - i).toNat) else M.stuck
  | _ => M.stuck
theorem i_rng1 {tg a : Expr} {n : Nat} {f : List SV → M (List D)} {p pos : Pos} (hg : Gl X "range") (hm : X.mg "range" = none) (ha : PLn G X W n [a] f) (hs : notStar a = true) : PIV G X W tg (.Call (.Name "range" p) [a] [] pos) (fun sd => M.bind (f sd) rng1) := by
  refine PI.imp (pi_range1 hg hm ha (starEach_cons hs)) fun σ H Q q => ?_
  obtain ⟨w0, w, sd, S, e, r, q⟩ := q
  refine ⟨w0, w, sd, S, e, r, fin_step q fun w1 S1 ds vs e1 s1 rv q1 => ?_⟩
  rcases ds with _ | ⟨d, _ | ⟨d2, ds⟩⟩
  · exact q1.elim
  · cases d with
    | int j =>
      obtain ⟨v, t, ev, h1, h2⟩ := rv.1
      cases (show t = [] from h2)
      cases (show v = .int j from h1)
      obtain ⟨⟨c1, c2⟩, q1⟩ := FinG.ite q1
      exact ⟨j, ev, c1, c2, fin_pure q1 s1 yld_rng⟩
    | _ => exact q1.elim
  · cases d <;> exact q1.elim
def loopS (t : Tgt) (body : MS) : List D → MS
  | [] => nextS
  | d :: ds => fun sd S => match t d sd S with
    | none => none
    | some (sd1, S1) => match body sd1 S1 with
      | some (.next sd2, S2) => loopS t body ds sd2 S2
      | some (.cont sd2, S2) => loopS t body ds sd2 S2
      | some (.brk sd2, S2) => some (.next sd2, S2)
      | o => o
def forS (f : List SV → M (List D)) (t : Tgt) (body : MS) : MS := exS f (loopS t body)
def setFree : Expr → Bool
  | .Set .. => false
  | _ => true
theorem set_free {e : Expr} {env : Env} (h : setFree e = true) : ∀ x, foldedSetIterable e env x = pure x := by
  intro x
  cases e <;> first | rfl | cases h
theorem drop_cons {α : Type} {l : List α} {i : Nat} (h : i < l.length) : ∃ d, l[i]? = some d ∧ l.drop i = d :: l.drop (i + 1) := ⟨l[i], List.getElem?_eq_getElem h, List.drop_eq_getElem_cons h⟩
theorem s_for {ts : List Nat} {tg iter : Expr} {body : List Stmt} {f : List SV → M (List D)} {t : Tgt} {fb : MS} {pos : Pos} (c : Ctx G X W k) (hi : PIV G X W tg iter f) (hg : PGV G X ts tg t) (hb : PSsV G X W body fb) (hs : setFree iter = true) :
    PSV G X W (.For tg iter body [] pos) (forS f t fb) := by
  refine PS.imp (ps_for c.po c.calm hi hg hb (set_free hs)) fun En σ H q => ?_
  obtain ⟨w0, w, sd, S, e, r, q⟩ := q
  refine ⟨w0, w, sd, S, e, r, exS_step q r fun w1 S1 ds J e1 r1 Y q1 => ?_⟩
  refine ⟨fun i m σ H => m = ds.length - i ∧ i ≤ ds.length ∧ ∃ w sd S, w.H = H ∧ Stay w1 w ∧ R G w0 w sd S σ ∧ FinS G W w0 w En (loopS t fb (ds.drop i) sd S), ⟨_, rfl, Nat.zero_le _, w1, sd, S1, rfl, Stay.refl _, r1, q1⟩, ?_⟩
  rintro i m σ2 H2 ⟨rfl, hi2, w2, sd2, S2, rfl, st2, r2, q2⟩
  by_cases hlt : i < ds.length
  · obtain ⟨d, hd, hdr⟩ := drop_cons hlt
    rw [hdr] at q2
    refine .inr ⟨Y.go w2 i st2 hlt, _, fun σ' H' hN => ⟨ds.length - (i + 1), by omega, hN⟩, fun x H' hy => ?_⟩
    obtain ⟨w3, rfl, e3, s3, rx⟩ := Y.yld w2 i d x H' S2 st2 r2.st hd hy
    have r3 := r2.step e3 s3
    refine ⟨w0, w3, sd2, S2, d, rfl, r3, rx, ?_⟩
    unfold loopS at q2
    rcases ht : t d sd2 S2 with _ | ⟨sd4, S4⟩
    · rw [ht] at q2; exact q2
    · rw [ht] at q2
      simp only at q2
      intro w4 σ4 st4 r4 _
      refine ⟨w0, w4, sd4, S4, rfl, r4, ?_⟩
      have st24 : Stay w2 w4 := (e3.stay r2.st.dj).trans st4
      rcases hb : fb sd4 S4 with _ | ⟨_ | _ | _ | _ | _, S5⟩
      · rw [hb] at q2; exact q2
      · rw [hb] at q2
        exact fun w5 σ5 st5 r5 => ⟨rfl, hlt, w5, _, S5, rfl, st2.trans (st24.trans st5), r5, FinS.stay (st24.trans st5) q2⟩
      · rw [hb] at q2; exact q2
      · rw [hb] at q2
        exact fun w5 σ5 st5 r5 => q2 w5 σ5 (st24.trans st5) r5
      · rw [hb] at q2
        exact fun w5 σ5 st5 r5 => ⟨rfl, hlt, w5, _, S5, rfl, st2.trans (st24.trans st5), r5, FinS.stay (st24.trans st5) q2⟩
      · rw [hb] at q2
        exact fun w5 σ5 cl y st5 r5 => q2 w5 σ5 cl y (st24.trans st5) r5
  · have e : i = ds.length := by omega
    subst e
    rw [List.drop_length] at q2
    exact .inl ⟨Y.stop w2 _ st2 (Nat.le_refl _), q2 w2 σ2 (Stay.refl _) r2⟩
def iterS (c : List SV → M Bool) (body : MS) : Nat → MS
  | 0 => stuckS
  | n + 1 => exS c fun b => if b = true then (fun sd S => match body sd S with
      | some (.next sd2, S2) => iterS c body n sd2 S2
      | some (.cont sd2, S2) => iterS c body n sd2 S2
      | some (.brk sd2, S2) => some (.next sd2, S2)
      | o => o) else nextS
def bigW : Nat := 2 ^ 64
def whileS (c : List SV → M Bool) (body : MS) : MS := iterS c body bigW
theorem s_while {cond : Expr} {body : List Stmt} {f : List SV → M Bool} {fb : MS} {pos : Pos} (c : Ctx G X W k) (hc : PB G X W cond f) (hb : PSsV G X W body fb) : PSV G X W (.While cond body [] pos) (whileS f fb) := by
  refine PS.imp (ps_while c.po hc hb) fun En σ H q => ?_
  obtain ⟨w0, w, sd, S, e, r, q⟩ := q
  refine ⟨fun m σ H => ∃ w sd S, w.H = H ∧ R G w0 w sd S σ ∧ FinS G W w0 w En (iterS f fb m sd S), ⟨bigW, w, sd, S, e, r, q⟩, ?_⟩
  rintro m σ1 H1 ⟨w1, sd1, S1, rfl, r1, q1⟩
  cases m with
  | zero => exact q1.elim
  | succ m =>
    unfold iterS at q1
    refine ⟨w0, w1, sd1, S1, rfl, r1, exS_step q1 r1 fun w2 S2 d v e2 r2 rv q2 => ?_⟩
    cases (show v = d from rv)
    cases d with
    | false => exact q2 w2 σ1 (Stay.refl _) r2
    | true =>
      refine ⟨_, fun σ' H' hN => ⟨m, Nat.lt_succ_self _, hN⟩, w0, w2, sd1, S2, rfl, r2, ?_⟩
      have q2 : FinS G W w0 w2 En (match fb sd1 S2 with
        | some (.next sd2, S2) => iterS f fb m sd2 S2
        | some (.cont sd2, S2) => iterS f fb m sd2 S2
        | some (.brk sd2, S2) => some (.next sd2, S2)
        | o => o) := q2
      rcases hb : fb sd1 S2 with _ | ⟨_ | _ | _ | _ | _, S5⟩
      · rw [hb] at q2; exact q2
      · rw [hb] at q2
        exact fun w5 σ5 st5 r5 => ⟨w5, _, S5, rfl, r5, FinS.stay st5 q2⟩
      · rw [hb] at q2; exact q2
      · rw [hb] at q2
        exact fun w5 σ5 st5 r5 => q2 w5 σ5 st5 r5
      · rw [hb] at q2
        exact fun w5 σ5 st5 r5 => ⟨w5, _, S5, rfl, r5, FinS.stay st5 q2⟩
      · rw [hb] at q2
        exact fun w5 σ5 cl y st5 r5 => q2 w5 σ5 cl y st5 r5
end
end Ev
set_option maxRecDepth 100000
set_option maxHeartbeats 2000000
namespace Ev
open PySem PySem.Spec PyProof.Rows L2
def Wd.wr (w : Wd) (p : Addr) (o : HO) : Wd := ⟨w.m, w.F, upd w.H p o, w.x⟩
def Wd.fz (w : Wd) (p : Addr) : Wd := ⟨w.m, fun a => w.F a ∨ a = p, w.H, w.x⟩
section
variable {G : Sg} {w w1 : Wd} {S : List Ob} {p : Addr} {o : HO}
theorem Stay.wr (h : ¬ w.F p) : Stay w (w.wr p o) := ⟨⟨[], by simp [Wd.wr]⟩, fun _ z => z, fun a u f z => by
  show upd w.H p o a = some u
  rw [upd_ne (fun e => h (by rw [← e]; exact f))]; exact z⟩
theorem RepS.wr (s : RepS G w S) (hf : ¬ w.F p) (hm : p ∉ w.m) : RepS G (w.wr p o) S := by
  refine ⟨s.len, s.nd, s.dj, fun a h => ?_, fun n a u h1 h2 => ?_⟩
  · show upd w.H p o a ≠ none
    rw [upd_ne (fun e => hf (by rw [← e]; exact h))]
    exact s.fh a h
  · have ne : a ≠ p := fun z => hm (z ▸ List.mem_of_getElem? h1)
    exact RepO.to (upd_ne ne) (Stay.wr hf) (s.ob n a u h1 h2)
theorem Ext.wr (e : Ext w1 w) (hp : w1.H p = none) : Ext w1 (w.wr p o) := by
  refine ⟨e.m, e.F, fun b u hm h => ?_, e.nm, e.nF, fun b h => ?_⟩
  · show upd w.H p o b = some u
    rw [upd_ne (fun z => by rw [z, hp] at h; cases h)]
    exact e.H b u hm h
  · have h : upd w.H p o b = none := h
    by_cases z : b = p
    · rw [z]; exact hp
    · rw [upd_ne z] at h
      exact e.al b h
theorem Stay.fz : Stay w (w.fz p) := ⟨⟨[], by simp [Wd.fz]⟩, fun _ z => .inl z, fun _ _ _ z => z⟩
theorem RepS.fz (s : RepS G w S) (hm : p ∉ w.m) (hh : w.H p ≠ none) : RepS G (w.fz p) S := by
  refine ⟨s.len, s.nd, fun a h => ?_, fun a h => ?_, fun n a u h1 h2 => RepO.to (w := w) (w' := w.fz p) rfl Stay.fz (s.ob n a u h1 h2)⟩
  · rcases h with h | h
    · exact s.dj a h
    · rw [h]; exact hm
  · rcases h with h | h
    · exact s.fh a h
    · rw [h]; exact hh
theorem Ext.fz (e : Ext w1 w) (hp : w1.H p = none) : Ext w1 (w.fz p) := by
  refine ⟨e.m, fun a h => .inl (e.F a h), e.H, e.nm, fun b h => ?_, e.al⟩
  rcases h with h | h
  · exact e.nF b h
  · exact .inr (h ▸ hp)
end
abbrev TgP : Type := D → List SV → Option (List SV)
def FinP (G : Sg) (w0 w : Wd) (S : List Ob) (σ : L2.St) (ts : List Nat) (Q : L2.St → Hp → Prop) : Option (List SV) → Prop
  | none => False
  | some sd => ∀ σ', R G w0 w sd S σ' → (∀ i, i ∉ ts → σ'[i]? = σ[i]?) → σ'.length = σ.length → Q σ' w.H
def tgP (G : Sg) (ts : List Nat) (f : TgP) : TG := fun v σ H Q => ∃ w0 w sd S d, w.H = H ∧ R G w0 w sd S σ ∧ RepV G w d v ∧ FinP G w0 w S σ ts Q (f d sd)
abbrev PGP (G : Sg) (X : Cx) (ts : List Nat) (t : Expr) (f : TgP) : Prop := PG X t (tgP G ts f)
def nmP (i : Nat) : TgP := fun d sd => some (sd.set i (.val d))
section
variable {G : Sg} {X : Cx} {W : WX} {k : Nat} {w0 w : Wd}
theorem p_name {i : Nat} {x : Str} {pos : Pos} (hN : X.N.Nodup) (hi : X.N[i]? = some x) (hx : Loc X.env.scope x) (hf : X.fn x = true ∨ X.env.scope.names.lookup x = some .local) : PGP G X [i] (.Name x pos) (nmP i) := by
  refine PG.imp (pg_name hN hi hx hf) fun v σ H Q q => ?_
  obtain ⟨w0, w, sd, S, d, e, r, rv, q⟩ := q
  subst e
  refine q (σ.set i (some v)) (r.setv rv i) (fun j hj => ?_) (List.length_set ..)
  rw [List.getElem?_set_ne (fun z => hj (by rw [z]; exact List.mem_cons_self))]
def wipeD (sd : List SV) : List Nat → List SV
  | [] => sd
  | v :: vs => (wipeD sd vs).set v .no
theorem R.setno {sd : List SV} {S : List Ob} {σ : L2.St} (r : R G w0 w sd S σ) (i : Nat) : R G w0 w (sd.set i .no) S (σ.set i none) := by
  have key : ∀ {j : Nat} {x : SV}, (sd.set i .no)[j]? = some x → x ≠ .no → j ≠ i ∧ sd[j]? = some x := fun {j x} h hx => by
    by_cases e : i = j
    · subst e
      by_cases l : i < sd.length
      · rw [List.getElem?_set_self l] at h
        cases h
        exact absurd rfl hx
      · rw [List.getElem?_eq_none (by simpa using l)] at h
        cases h
    · rw [List.getElem?_set_ne e] at h
      exact ⟨fun z => e z.symm, h⟩
  refine ⟨r.ex, r.st, by rw [List.length_set, List.length_set]; exact r.ln, fun j x h => ?_, fun j o h => ?_, fun j1 j2 o o' a h1 h2 h3 h4 => ?_, fun a o e h => by
    obtain ⟨ne, h⟩ := key h (fun z => nomatch z)
    rw [List.getElem?_set_ne (fun z => ne z.symm)]
    exact r.sf a o e h⟩
  · obtain ⟨ne, h⟩ := key h (fun z => nomatch z)
    rw [List.getElem?_set_ne (fun z => ne z.symm)]
    exact r.vl j x h
  · obtain ⟨ne, h⟩ := key h (fun z => nomatch z)
    rw [List.getElem?_set_ne (fun z => ne z.symm)]
    exact r.ow j o h
  · obtain ⟨n1, h1⟩ := key h1 (fun z => nomatch z)
    obtain ⟨n2, h2⟩ := key h2 (fun z => nomatch z)
    rw [List.getElem?_set_ne (fun z => n1 z.symm)] at h3
    rw [List.getElem?_set_ne (fun z => n2 z.symm)] at h4
    exact r.ap j1 j2 o o' a h1 h2 h3 h4
theorem R.wipe {sd : List SV} {S : List Ob} {σ : L2.St} (r : R G w0 w sd S σ) : ∀ vs : List Nat, R G w0 w (wipeD sd vs) S (wipe σ vs)
  | [] => r
  | v :: vs => (R.wipe r vs).setno v
theorem wipe_get (σ : L2.St) : ∀ (vs : List Nat) (j : Nat), (wipe σ vs)[j]? = if j ∈ vs then (if j < σ.length then some none else none) else σ[j]?
  | [], j => by simp [wipe]
  | v :: vs, j => by
    unfold wipe
    by_cases e : v = j
    · subst e
      rw [if_pos List.mem_cons_self]
      by_cases l : v < σ.length
      · rw [List.getElem?_set_self (by rw [wipe_length]; exact l), if_pos l]
      · rw [List.getElem?_eq_none (by rw [List.length_set, wipe_length]; omega), if_neg l]
    · rw [List.getElem?_set_ne e, wipe_get σ vs j]
      have : (j ∈ v :: vs) ↔ j ∈ vs := by simp [Ne.symm e, eq_comm, show ¬ j = v from fun z => e z.symm]
      by_cases hj : j ∈ vs
      · rw [if_pos hj, if_pos (this.mpr hj)]
      · rw [if_neg hj, if_neg (fun z => hj (this.mp z))]
theorem wipe_same {σ σ' : L2.St} {ts vs : List Nat} (h : ∀ i, i ∉ ts → σ'[i]? = (wipe σ vs)[i]?) (hl : σ'.length = (wipe σ vs).length) (hs : ∀ i ∈ ts, i ∈ vs) : wipe σ' vs = wipe σ vs := by
  refine List.ext_getElem? fun j => ?_
  rw [wipe_get σ' vs j, hl, wipe_length]
  by_cases hj : j ∈ vs
  · rw [if_pos hj, wipe_get σ vs j, if_pos hj]
  · rw [if_neg hj]
    exact h j fun z => hj (hs j z)
theorem fin_split {α β γ δ : Type} {G : Sg} {rep : Wd → α → β → Prop} {rep' : Wd → γ → δ → Prop} {W W' : Value → Option Addr → Hp → Prop} {wA wB : Wd} {Q : β → Hp → Prop} {Q' : δ → Hp → Prop} {f : M α} {k : α → M γ} {S : List Ob}
    (h : FinG G rep' W wA Q' (M.bind (noErr f) k S)) (c : ∀ w' S1 d v, Ext wB w' → RepS G w' S1 → rep w' d v → FinG G rep' W wA Q' (k d S1) → Q v w'.H) : FinG G rep W' wB Q (f S) := by
  unfold M.bind noErr at h
  rcases hf : f S with _ | ⟨_ | d, S1⟩
  · rw [hf] at h; exact h.elim
  · rw [hf] at h; exact h.elim
  · rw [hf] at h
    exact fun w' v e s r => c w' S1 d v e s r h
abbrev NoW : WX := fun _ _ _ _ => False
def compS (t : TgP) (tt : List SV → M Bool) (fe : List SV → M D) (sdw : List SV) : List D → List D → M (List D)
  | [], acc => M.pure acc
  | d :: ds, acc => match t d sdw with
    | none => M.stuck
    | some sd1 => M.bind (noErr (tt sd1)) fun b => if b = true then M.bind (noErr (fe sd1)) fun y => if acc.length < lim then compS t tt fe sdw ds (acc ++ [y]) else M.stuck else compS t tt fe sdw ds acc
def lcS (fi : List SV → M (List D)) (vs : List Nat) (t : TgP) (tt : List SV → M Bool) (fe : List SV → M D) : List SV → M D := fun sd => M.bind (fi sd) fun ds => M.bind (compS t tt fe (wipeD sd vs) ds []) fun acc => M.pure (.lst acc)
abbrev PTsV (G : Sg) (X : Cx) (W : WX) (es : List Expr) (f : List SV → M Bool) : Prop := PTs X es (teB G W f)
theorem PTs.imp {X : Cx} {e : List Expr} {t t' : TT} (h : PTs X e t) (i : ∀ σ H Q, t' σ H Q → t σ H Q) : PTs X e t' := ⟨fun p s σ H Q I q => h.run p s σ H Q I (i σ H Q q)⟩
theorem t_nil : PTsV G X W [] (fun _ => M.pure true) := by
  refine PTs.imp pts_nil fun σ H Q h => ?_
  obtain ⟨w0, w, sd, S, e, r, q⟩ := h
  subst e
  exact fin_pure q r.st rfl
theorem lc_read {fi : List SV → M (List D)} {ts vs : List Nat} {t : TgP} {tt : List SV → M Bool} {fe : List SV → M D} (hts : ∀ i ∈ ts, i ∈ vs) {σ : L2.St} {H : Hp} {Q : VK} (h : teV G W (lcS fi vs t tt fe) σ H Q) :
    tLc (fun σ H Rr => teG G (Yld G) W fi σ H Rr) (tgP G ts t) (teB G NoW tt) (teV G NoW fe) vs σ H Q := by
  obtain ⟨w0, w, sd, S, e, r, q⟩ := h
  refine ⟨w0, w, sd, S, e, r, fin_step q fun w1 S1 ds J e1 s1 Y q1 => ?_⟩
  intro L hL
  have r1 := (r.step e1 s1).wipe vs
  have dj1 := s1.dj
  refine ⟨fun i m H => m = ds.length - i ∧ i ≤ ds.length ∧ ∃ w2 S2 acc xs, w2.H = H ∧ Ext w1 w2 ∧ RepS G w2 S2 ∧ w2.H L = some (.lst xs) ∧ RepVs G w2 acc xs ∧ ¬ w2.F L ∧ L ∉ w2.m ∧
    FinG G (RepV G) (fun c x H => W c x σ H) w1 Q (M.bind (compS t tt fe (wipeD sd vs) (ds.drop i) acc) (fun acc => M.pure (.lst acc)) S2),
    ⟨_, rfl, Nat.zero_le _, w1.new L (.lst []), S1, [], [], rfl, Ext.new hL, s1.new hL, upd_same, rfl, fun z => s1.fh L z hL, fun z => s1.there z hL, q1⟩, ?_⟩
  rintro i m H2 ⟨rfl, hi2, w2, S2, acc, xs, rfl, e2, s2, hx2, ra, nF, nm, q2⟩
  by_cases hlt : i < ds.length
  · obtain ⟨d, hd, hdr⟩ := drop_cons hlt
    rw [hdr] at q2
    have st2 := e2.stay dj1
    refine .inr ⟨Y.go w2 i st2 hlt, _, fun H' hN => ⟨ds.length - (i + 1), by omega, hN⟩, fun x H' hy => ?_⟩
    obtain ⟨w3, rfl, e3, s3, rx⟩ := Y.yld w2 i d x H' S2 st2 s2 hd hy
    have r3 := r1.step (e2.trans e3) s3
    refine ⟨w0, w3, _, S2, d, rfl, r3, rx, ?_⟩
    unfold compS at q2
    rcases ht : t d (wipeD sd vs) with _ | sd4
    · rw [ht] at q2; exact q2.elim
    · rw [ht] at q2
      simp only at q2
      intro σ4 r4 k4 l4
      refine ⟨wipe_same k4 l4 hts, ?_⟩
      rw [M.bind_assoc] at q2
      refine ⟨w0, w3, sd4, S2, rfl, r4, ?_⟩
      refine fin_split q2 fun w5 S5 b b' e5 s5 rb q5 => ?_
      cases (show b' = b from rb)
      have hx : ∀ {wz : Wd}, Ext w3 wz → wz.H L = some (.lst xs) ∧ RepVs G wz acc xs ∧ ¬ wz.F L ∧ L ∉ wz.m := fun {wz} ez => by
        have e23 := e3.trans ez
        refine ⟨e23.H L _ nm hx2, RepVs.mono e23 s2.dj _ _ ra, fun z => ?_, fun z => ?_⟩
        · rcases e23.nF L z with z | z
          · exact nF z
          · rw [hx2] at z; cases z
        · rcases e23.nm L z with z | z
          · exact nm z
          · rw [hx2] at z; cases z
      cases b with
      | false =>
        obtain ⟨h1, h2, h3, h4⟩ := hx e5
        exact ⟨rfl, hlt, w5, S5, acc, xs, rfl, e2.trans (e3.trans e5), s5, h1, h2, h3, h4, q5⟩
      | true =>
        have q5 : FinG G (RepV G) (fun c x H => W c x σ H) w1 Q (M.bind (M.bind (noErr (fe sd4)) fun y => if acc.length < lim then compS t tt fe (wipeD sd vs) (ds.drop (i + 1)) (acc ++ [y]) else M.stuck) (fun acc => M.pure (.lst acc)) S5) := q5
        rw [M.bind_assoc] at q5
        refine ⟨w0, w5, sd4, S5, rfl, r4.step e5 s5, fin_split q5 fun w6 S6 y v e6 s6 ry q6 => ?_⟩
        obtain ⟨h1, h2, h3, h4⟩ := hx (e5.trans e6)
        rw [M.bind_ite] at q6
        obtain ⟨c6, q6⟩ := FinG.ite q6
        have e16 : Ext w1 w6 := e2.trans (e3.trans (e5.trans e6))
        refine ⟨xs, h1, by rw [← h2.length, ← lim_eq]; exact c6, rfl, hlt, w6.wr L (.lst (xs ++ [v])), S6, acc ++ [y], xs ++ [v], rfl, Ext.wr e16 hL, s6.wr h3 h4, upd_same, ?_, h3, h4, q6⟩
        exact RepVs.append (RepVs.stay (Stay.wr h3) _ _ h2) (RepVs.one (RepV.stay (Stay.wr h3) _ _ ry))
  · have e : i = ds.length := by omega
    subst e
    rw [List.drop_length] at q2
    refine .inl ⟨Y.stop w2 _ (e2.stay dj1) (Nat.le_refl _), ?_⟩
    refine q2 (w2.fz L) _ (Ext.fz e2 hL) (s2.fz nm (by rw [hx2]; exact fun z => nomatch z)) ⟨L, xs, rfl, .inr rfl, hx2, RepVs.stay Stay.fz _ _ ra⟩
theorem v_lc {elt tg iter : Expr} {ifs : List Expr} {scope : Scope} {own : List (Str × Nat)} {pos : Pos} {fi : List SV → M (List D)} {ts : List Nat} {t : TgP} {tt : List SV → M Bool} {fe : List SV → M D} (c : Ctx G X W k) (hi : PIV G X W tg iter fi) (ok : BlkOk X.N X.env.scope scope own)
    (hg : ∀ (s : Shared) (H : Hp) (C : Addr) (cl : List (Str × Addr)) (fp : List Addr), PGP G (X.blk s H scope (compEnvC scope cl C X.env) fp) ts tg t) (ht : ∀ (s : Shared) (H : Hp) (C : Addr) (cl : List (Str × Addr)) (fp : List Addr), PTsV G (X.blk s H scope (compEnvC scope cl C X.env) fp) NoW ifs tt)
    (he : ∀ (s : Shared) (H : Hp) (C : Addr) (cl : List (Str × Addr)) (fp : List Addr), PV G (X.blk s H scope (compEnvC scope cl C X.env) fp) NoW elt fe) (hs : setFree iter = true) (hts : ∀ i ∈ ts, i ∈ own.map (·.2)) :
    PV G X W (.ListComp elt [⟨tg, iter, ifs, 0⟩] scope pos) (lcS fi (own.map (·.2)) t tt fe) :=
  PE.imp (pe_lc c.calm c.nd hi ok hg ht he (set_free hs)) fun σ H Q h => lc_read hts h
theorem Ctx.blk (c : Ctx G X W k) (s : Shared) (H : Hp) (scope : Scope) (cenv : Env) (fp : List Addr) : Ctx G (X.blk s H scope cenv fp) NoW k :=
  ⟨c.cK, c.calm, c.rm, c.nd, fun σ pins H s e s' I c => by
    obtain ⟨_, _, _, _, _, _, _, _, _, _, _, _, z⟩ := c
    exact z.elim, PassesOwn.never⟩
end
end Ev
set_option maxRecDepth 100000
set_option maxHeartbeats 2000000
namespace Ev
open PySem PySem.Spec PyProof.Rows L2
mutual
def toP : D → Option PyData
  | .non => some .none
  | .bl b => some (.bool b)
  | .int i => some (.int i)
  | .str x => some (.str x)
  | .tup ds => (toPs ds).map .tuple
  | .lst ds => (toPs ds).map .list
  | .scr ds => (toPs ds).map .list
  | .dct _ _ => none
  | .ins _ _ => none
  | .ref _ => none
  | .ty _ => none
  | .cls _ => none
def toPs : List D → Option (List PyData)
  | [] => some []
  | d :: ds => match toP d, toPs ds with
    | some p, some ps => some (p :: ps)
    | _, _ => none
end
section
variable {G : Sg} {X : Cx} {W : WX} {k : Nat} {w : Wd}
mutual
theorem toP_dp (cK : G.K = X.K) : ∀ (d : D) (v : V) (p : PyData), RepV G w d v → toP d = some p → Dp X.K w.H v p
  | .non, v, p, r, h => by cases h; cases (show v = .non from r); exact .non
  | .bl b, v, p, r, h => by cases h; cases (show v = .bl b from r); exact .bl b
  | .int i, v, p, r, h => by cases h; cases (show v = .int i from r); exact .int i
  | .str x, v, p, r, h => by cases h; cases (show v = .str x from r); exact .str x
  | .tup ds, v, p, r, h => by
    obtain ⟨a, vs, e, hh, rs⟩ := r
    subst e
    unfold toP at h
    obtain ⟨ps, h1, h2⟩ := Option.map_eq_some_iff.mp h
    subst h2
    exact .tup (sqT_of cK hh) (toPs_dp cK ds vs ps rs h1)
  | .lst ds, v, p, r, h => by
    obtain ⟨a, vs, e, fa, hh, rs⟩ := r
    subst e
    unfold toP at h
    obtain ⟨ps, h1, h2⟩ := Option.map_eq_some_iff.mp h
    subst h2
    exact .lst (.of hh) (toPs_dp cK ds vs ps rs h1)
  | .scr ds, v, p, r, h => by
    obtain ⟨a, vs, e, hh, rs⟩ := r
    subst e
    unfold toP at h
    obtain ⟨ps, h1, h2⟩ := Option.map_eq_some_iff.mp h
    subst h2
    exact .lst (sqL_of cK hh) (toPs_dp cK ds vs ps rs h1)
  | .dct _ _, _, _, _, h => by unfold toP at h; cases h
  | .ins _ _, _, _, _, h => by unfold toP at h; cases h
  | .ref _, _, _, _, h => by unfold toP at h; cases h
  | .ty _, _, _, _, h => by unfold toP at h; cases h
  | .cls _, _, _, _, h => by unfold toP at h; cases h
theorem toPs_dp (cK : G.K = X.K) : ∀ (ds : List D) (vs : List V) (ps : List PyData), RepVs G w ds vs → toPs ds = some ps → DpAll X.K w.H vs ps
  | [], vs, ps, r, h => by unfold toPs at h; cases h; cases (show vs = [] from r); exact .nil
  | d :: ds, vs, ps, r, h => by
    obtain ⟨v, t, e, h1, h2⟩ := r
    subst e
    unfold toPs at h
    rcases hp : toP d with _ | p
    · rw [hp] at h; cases h
    · rcases hq : toPs ds with _ | qs
      · rw [hp, hq] at h; cases h
      · rw [hp, hq] at h
        cases h
        exact .cons (toP_dp cK d v p h1 hp) (toPs_dp cK ds t qs h2 hq)
end
def dEq (neg : Bool) : D → D → M D
  | .int i, .int j => M.pure (.bl (if neg then !decide (i = j) else decide (i = j)))
  | .str i, .str j => M.pure (.bl (if neg then !decide (i = j) else decide (i = j)))
  | .bl i, .bl j => M.pure (.bl (if neg then !decide (i = j) else decide (i = j)))
  | d, e => match toP d, toP e with
    | some p, some q => if SeqAt.shaped p = true ∧ SeqAt.shaped q = true then M.pure (.bl (if neg then !PyData.eqv p q else PyData.eqv p q)) else M.stuck
    | _, _ => M.stuck
theorem FinG.stuck {α β : Type} {rep : Wd → α → β → Prop} {W : Value → Option Addr → Hp → Prop} {w : Wd} {Q : β → Hp → Prop} {S : List Ob} {P : Prop} (h : FinG G rep W w Q ((M.stuck : M α) S)) : P := h.elim
theorem eq_gen (cK : G.K = X.K) {W' : Value → Option Addr → Hp → Prop} {S : List Ob} {d e : D} {v u : V} {Q : VK} {neg : Bool} (s : RepS G w S) (r1 : RepV G w d v) (r2 : RepV G w e u)
    (q : FinG G (RepV G) W' w Q ((match toP d, toP e with
      | some p, some q => if SeqAt.shaped p = true ∧ SeqAt.shaped q = true then M.pure (.bl (if neg then !PyData.eqv p q else PyData.eqv p q)) else M.stuck
      | _, _ => M.stuck : M D) S)) : ∃ p q, Dp X.K w.H v p ∧ Dp X.K w.H u q ∧ SeqAt.shaped p = true ∧ SeqAt.shaped q = true ∧ Q (.bl (if neg then !PyData.eqv p q else PyData.eqv p q)) w.H := by
  rcases hp : toP d with _ | p
  · rw [hp] at q; exact q.elim
  · rcases hq : toP e with _ | p'
    · rw [hp, hq] at q; exact q.elim
    · rw [hp, hq] at q
      obtain ⟨⟨c1, c2⟩, q⟩ := FinG.ite q
      exact ⟨p, p', toP_dp cK d v p r1 hp, toP_dp cK e u p' r2 hq, c1, c2, fin_pure (b := V.bl _) q s rfl⟩
theorem o_eq (cK : G.K = X.K) (hr : Rm G.gd k X.A) : OpR X (compareOp .Eq) (rD2 G (dEq false)) := by
  refine OpR.imp (op_eq.or (op_eqD hr.room.units)) fun v u H Q q => ?_
  obtain ⟨W, w, S, d, e, rfl, s, r1, r2, q⟩ := q
  cases d <;> cases e <;> first
    | (refine .inr ?_
       obtain ⟨p, p', h1, h2, h3, h4, h5⟩ := eq_gen (neg := false) cK s r1 r2 q
       exact ⟨p, p', h1, h2, h3, h4, h5⟩)
    | (cases (show v = _ from r1)
       cases (show u = _ from r2)
       refine .inl ⟨rfl, ?_⟩
       have q2 := fin_pure (b := V.bl _) q s rfl
       simpa using q2)
theorem o_ne (cK : G.K = X.K) (hr : Rm G.gd k X.A) : OpR X (compareOp .NotEq) (rD2 G (dEq true)) := by
  refine OpR.imp (op_ne.or (op_neD hr.room.units)) fun v u H Q q => ?_
  obtain ⟨W, w, S, d, e, rfl, s, r1, r2, q⟩ := q
  cases d <;> cases e <;> first
    | (refine .inr ?_
       obtain ⟨p, p', h1, h2, h3, h4, h5⟩ := eq_gen (neg := true) cK s r1 r2 q
       exact ⟨p, p', h1, h2, h3, h4, h5⟩)
    | (cases (show v = _ from r1)
       cases (show u = _ from r2)
       refine .inl ⟨rfl, ?_⟩
       have q2 := fin_pure (b := V.bl _) q s rfl
       simpa using q2)
def isNonD : D → Bool
  | .non => true
  | _ => false
theorem isNon_rep {d : D} {v : V} (r : RepV G w d v) : decide (v = .non) = isNonD d := by
  cases d with
  | non => cases (show v = .non from r); rfl
  | bl b => cases (show v = .bl b from r); rfl
  | int b => cases (show v = .int b from r); rfl
  | str b => cases (show v = .str b from r); rfl
  | tup ds => obtain ⟨a, vs, e, _⟩ := r; subst e; rfl
  | lst ds => obtain ⟨a, vs, e, _⟩ := r; subst e; rfl
  | scr ds => obtain ⟨a, vs, e, _⟩ := r; subst e; rfl
  | dct ks ds => obtain ⟨a, vs, e, _⟩ := r; subst e; rfl
  | ins c ds => obtain ⟨a, dx, vs, e, _⟩ := r; subst e; rfl
  | ref n => obtain ⟨a, e, _⟩ := r; subst e; rfl
  | ty t => cases (show v = .ty t.name from r); rfl
  | cls c => cases (show v = .ref (G.ca c) from r); rfl
def dIs (neg : Bool) : D → D → M D
  | d, .non => M.pure (.bl (if neg then !isNonD d else isNonD d))
  | _, _ => M.stuck
theorem o_is : OpR X (compareOp .Is) (rD2 G (dIs false)) := by
  refine OpR.imp op_isN fun v u H Q q => ?_
  obtain ⟨W, w, S, d, e, rfl, s, r1, r2, q⟩ := q
  cases e with
  | non =>
    have q2 := fin_pure (b := V.bl _) (show FinG G (RepV G) W w Q (M.pure (.bl (isNonD d)) S) by cases d <;> exact q) s rfl
    exact ⟨r2, by rw [isNon_rep r1]; exact q2⟩
  | _ => cases d <;> exact q.elim
def dIx (d e : D) : M D := fun S => match e with
  | .int i => match d with
    | .lst ds => match atI ds i with | some x => some (.ok x, S) | none => none
    | .tup ds => match atI ds i with | some x => some (.ok x, S) | none => none
    | .scr ds => match atI ds i with | some x => some (.ok x, S) | none => none
    | .str z => if z.length ≤ lim then (match atI z.cps.toList i with | some c => some (.ok (.str ⟨#[c]⟩), S) | none => none) else none
    | .ref n => match S[n]? with
      | some (.lst ds) => match atI ds i with | some x => some (.ok x, S) | none => none
      | _ => none
    | _ => none
  | _ => none
theorem atI_rep {ds : List D} {vs : List V} {i : Int} {x : D} (r : RepVs G w ds vs) (h : atI ds i = some x) : ∃ v, atI vs i = some v ∧ RepV G w x v := by
  unfold atI at h ⊢
  rw [r.length] at h
  obtain ⟨j, h1, h2⟩ := Option.bind_eq_some_iff.mp h
  obtain ⟨v, h3, h4⟩ := r.get h2
  exact ⟨v, by rw [h1]; exact h3, h4⟩
theorem ix_D (cK : G.K = X.K) : IxR X (rD2 G dIx) := by
  have base := (ix_list (X := X)).or ((ix_tup (X := X)).or (ix_str (X := X)))
  intro a b pins s σ H x y v u Q I rx ry q
  refine base a b pins s σ H x y v u Q I rx ry ?_
  obtain ⟨W, w, S, d, e, rfl, st, r1, r2, q⟩ := q
  unfold dIx at q
  cases e with
  | int i =>
    cases (show y = .int i from r2)
    cases d with
    | lst ds =>
      obtain ⟨p, vs, rfl, f, hh, rs⟩ := r1
      rcases hx : atI ds i with _ | z
      · simp only [hx] at q; exact q.elim
      · simp only [hx] at q
        obtain ⟨v1, h1, h2⟩ := atI_rep rs hx
        exact .inl ⟨p, vs, i, v1, rfl, rfl, .of hh, h1, fin_pure (a := z) q st h2⟩
    | tup ds =>
      obtain ⟨p, vs, rfl, hh, rs⟩ := r1
      rcases hx : atI ds i with _ | z
      · simp only [hx] at q; exact q.elim
      · simp only [hx] at q
        obtain ⟨v1, h1, h2⟩ := atI_rep rs hx
        exact .inr (.inl ⟨p, vs, i, v1, rfl, rfl, sqT_of cK hh, h1, fin_pure (a := z) q st h2⟩)
    | scr ds =>
      obtain ⟨p, vs, rfl, hh, rs⟩ := r1
      rcases hx : atI ds i with _ | z
      · simp only [hx] at q; exact q.elim
      · simp only [hx] at q
        obtain ⟨v1, h1, h2⟩ := atI_rep rs hx
        exact .inl ⟨p, vs, i, v1, rfl, rfl, sqL_of cK hh, h1, fin_pure (a := z) q st h2⟩
    | str z =>
      cases (show x = .str z from r1)
      by_cases hz : z.length ≤ lim
      · rcases hx : atI z.cps.toList i with _ | c
        · simp only [hx, if_pos hz] at q; exact q.elim
        · simp only [hx, if_pos hz] at q
          exact .inr (.inr ⟨z, i, c, rfl, rfl, by rw [← lim_eq]; exact hz, hx, fin_pure (a := D.str ⟨#[c]⟩) q st rfl⟩)
      · simp only [if_neg hz] at q; exact q.elim
    | ref n =>
      obtain ⟨p, rfl, hm⟩ := r1
      rcases hn : S[n]? with _ | ⟨ds | _ | _⟩
      · simp only [hn] at q; exact q.elim
      · simp only [hn] at q
        obtain ⟨vs, hh, rs⟩ := st.ob n p _ hm hn
        rcases hx : atI ds i with _ | z
        · simp only [hx] at q; exact q.elim
        · simp only [hx] at q
          obtain ⟨v1, h1, h2⟩ := atI_rep rs hx
          exact .inl ⟨p, vs, i, v1, rfl, rfl, .of hh, h1, fin_pure (a := z) q st h2⟩
      · simp only [hn] at q; exact q.elim
      · simp only [hn] at q; exact q.elim
    | _ => exact q.elim
  | _ => exact q.elim
def notSlice : Expr → Bool
  | .Slice .. => false
  | _ => true
theorem plain_ix {b : Expr} (h : notSlice b = true) : PlainIx b := by
  intro o i
  cases b <;> first | rfl | cases h
theorem v_ix {a b : Expr} {fa fb : List SV → M D} {pos : Pos} (cK : G.K = X.K) (ha : PV G X W a fa) (hb : PV G X W b fb) (hs : notSlice b = true) : PV G X W (.Subscript a b pos) (fun sd => M.bind (fa sd) fun x => M.bind (fb sd) fun y => dIx x y) := by
  refine PE.imp (pe_ix (ix_D cK) ha hb (plain_ix hs)) fun σ H Q h => ?_
  obtain ⟨w0, w, sd, S, e, r, q⟩ := h
  refine ⟨w0, w, sd, S, e, r, fin_step q fun w1 S1 d v e1 s1 rv q1 => ⟨w0, w1, sd, S1, rfl, r.step e1 s1, fin_step q1 fun w2 S2 d2 v2 e2 s2 rv2 q2 => ?_⟩⟩
  exact ⟨_, w2, S2, d, d2, rfl, s2, RepV.mono e2 s1.dj d v rv, rv2, q2⟩
end
end Ev
set_option maxRecDepth 100000
set_option maxHeartbeats 2000000
namespace Ev
open PySem PySem.Spec PyProof.Rows L2
def rDs (G : Sg) (g : List D → M D) : List V → Hp → VK → Prop := fun vs H Q => ∃ W w S ds, w.H = H ∧ RepS G w S ∧ RepVs G w ds vs ∧ FinG G (RepV G) W w Q (g ds S)
theorem CallR.imp {X : Cx} {f : Value} {r r' : List V → Hp → VK → Prop} (h : CallR X f r) (i : ∀ vs H Q, r' vs H Q → r vs H Q) : CallR X f r' := fun pins s σ H xs us Q I rx q => h pins s σ H xs us Q I rx (i _ _ _ q)
section
variable {G : Sg} {X : Cx} {W : WX} {k n : Nat} {w : Wd} {g : List D → M D}
theorem v_callB {id : String} {x : Str} {p pos : Pos} {e : Expr} {es : List Expr} {fa : List SV → M (List D)} (hc : CallR X (.builtin id) (rDs G g)) (hg : Gl X x) (hm : X.mg x = none) (hv : bootBuiltins x = some (.builtin id)) (ha : PLn G X W n (e :: es) fa) (hs : (e :: es).all notStar = true)
    (hn : x ≠ "__name__") (hd : (x == ("__debug__" : Str)) = false) : PV G X W (.Call (.Name x p) (e :: es) [] pos) (fun sd => M.bind (fa sd) g) := by
  have hs2 : notStar e = true ∧ es.all notStar = true := by simpa using hs
  refine PE.imp (pe_callB hc hg hm hv ha hn hd (starEach_cons hs2.1) (starEach_all hs2.2 pos)) fun σ H Q h => ?_
  obtain ⟨w0, w, sd, S, e, r, q⟩ := h
  exact ⟨w0, w, sd, S, e, r, fin_step q fun w1 S1 ds vs e1 s1 rv q1 => ⟨_, w1, S1, ds, rfl, s1, rv.1, q1⟩⟩
theorem v_callTy {T : String} {x : Str} {p pos : Pos} {e : Expr} {es : List Expr} {fa : List SV → M (List D)} (hc : CallR X (.type T) (rDs G g)) (hg : Gl X x) (hm : X.mg x = none) (hv : bootBuiltins x = some (.type T)) (ha : PLn G X W n (e :: es) fa) (hs : (e :: es).all notStar = true)
    (hn : x ≠ "__name__") (hd : (x == ("__debug__" : Str)) = false) : PV G X W (.Call (.Name x p) (e :: es) [] pos) (fun sd => M.bind (fa sd) g) := by
  have hs2 : notStar e = true ∧ es.all notStar = true := by simpa using hs
  refine PE.imp (pe_callTy hc hg hm hv ha hn hd (starEach_cons hs2.1) (starEach_all hs2.2 pos)) fun σ H Q h => ?_
  obtain ⟨w0, w, sd, S, e, r, q⟩ := h
  exact ⟨w0, w, sd, S, e, r, fin_step q fun w1 S1 ds vs e1 s1 rv q1 => ⟨_, w1, S1, ds, rfl, s1, rv.1, q1⟩⟩
def on1 (g : D → M D) : List D → M D
  | [d] => g d
  | _ => M.stuck
def on2 (g : D → D → M D) : List D → M D
  | [d, e] => g d e
  | _ => M.stuck
theorem on1_of {g : D → M D} {vs : List V} {H : Hp} {Q : VK} (h : rDs G (on1 g) vs H Q) : ∃ W w S d v, w.H = H ∧ RepS G w S ∧ vs = [v] ∧ RepV G w d v ∧ FinG G (RepV G) W w Q (g d S) := by
  obtain ⟨W, w, S, ds, e, s, r, q⟩ := h
  rcases ds with _ | ⟨d, _ | ⟨d2, ds⟩⟩
  · exact q.elim
  · obtain ⟨v, t, ev, h1, h2⟩ := r
    cases (show t = [] from h2)
    exact ⟨W, w, S, d, v, e, s, ev, h1, q⟩
  · exact q.elim
theorem on2_of {g : D → D → M D} {vs : List V} {H : Hp} {Q : VK} (h : rDs G (on2 g) vs H Q) : ∃ W w S d e v u, w.H = H ∧ RepS G w S ∧ vs = [v, u] ∧ RepV G w d v ∧ RepV G w e u ∧ FinG G (RepV G) W w Q (g d e S) := by
  obtain ⟨W, w, S, ds, e, s, r, q⟩ := h
  rcases ds with _ | ⟨d, _ | ⟨d2, _ | ⟨d3, ds⟩⟩⟩
  · exact q.elim
  · exact q.elim
  · obtain ⟨v, t, ev, h1, u, t2, eu, h2, h3⟩ := r
    cases (show t2 = [] from h3)
    exact ⟨W, w, S, d, d2, v, u, e, s, by rw [ev, eu], h1, h2, q⟩
  · exact q.elim
def dLen (d : D) : M D := fun S => match d with
  | .lst ds => some (.ok (.int ds.length), S)
  | .tup ds => some (.ok (.int ds.length), S)
  | .scr ds => some (.ok (.int ds.length), S)
  | .str x => if x.length ≤ lim then some (.ok (.int x.length), S) else none
  | .ref n => match S[n]? with
    | some (.lst ds) => some (.ok (.int ds.length), S)
    | _ => none
  | _ => none
theorem c_len (cK : G.K = X.K) : CallR X (.builtin "len") (rDs G (on1 dLen)) := by
  refine CallR.imp call_len fun vs H Q h => ?_
  obtain ⟨W, w, S, d, v, rfl, s, rfl, r, q⟩ := on1_of h
  unfold dLen at q
  cases d with
  | lst ds =>
    obtain ⟨a, vs, e, f, hh, rs⟩ := r
    exact ⟨v, ds.length, rfl, by subst e; exact .inl ⟨vs, .of hh, rs.length⟩, fin_pure (a := D.int ds.length) q s rfl⟩
  | tup ds =>
    obtain ⟨a, vs, e, hh, rs⟩ := r
    exact ⟨v, ds.length, rfl, by subst e; exact .inr ⟨vs, sqT_of cK hh, rs.length⟩, fin_pure (a := D.int ds.length) q s rfl⟩
  | scr ds =>
    obtain ⟨a, vs, e, hh, rs⟩ := r
    exact ⟨v, ds.length, rfl, by subst e; exact .inl ⟨vs, sqL_of cK hh, rs.length⟩, fin_pure (a := D.int ds.length) q s rfl⟩
  | str x =>
    by_cases hz : x.length ≤ lim
    · simp only [if_pos hz] at q
      exact ⟨v, x.length, rfl, by cases (show v = .str x from r); exact ⟨by rw [← lim_eq]; exact hz, rfl⟩, fin_pure (a := D.int x.length) q s rfl⟩
    · simp only [if_neg hz] at q; exact q.elim
  | ref m =>
    obtain ⟨p, rfl, hm⟩ := r
    rcases hn : S[m]? with _ | ⟨ds | _ | _⟩
    · simp only [hn] at q; exact q.elim
    · simp only [hn] at q
      obtain ⟨vs, hh, rs⟩ := s.ob m p _ hm hn
      exact ⟨.ref p, ds.length, rfl, .inl ⟨vs, .of hh, rs.length⟩, fin_pure (a := D.int ds.length) q s rfl⟩
    · simp only [hn] at q; exact q.elim
    · simp only [hn] at q; exact q.elim
  | _ => exact q.elim
def dAbs : D → M D
  | .int i => M.pure (.int (if i < 0 then -i else i))
  | _ => M.stuck
theorem c_abs : CallR X (.builtin "abs") (rDs G (on1 dAbs)) := by
  refine CallR.imp call_abs fun vs H Q h => ?_
  obtain ⟨W, w, S, d, v, rfl, s, rfl, r, q⟩ := on1_of h
  cases d with
  | int i => cases (show v = .int i from r); exact ⟨i, rfl, fin_pure q s rfl⟩
  | _ => exact q.elim
def dMax : D → D → M D
  | .int i, .int j => M.pure (.int (if j > i then j else i))
  | _, _ => M.stuck
def dMin : D → D → M D
  | .int i, .int j => M.pure (.int (if j < i then j else i))
  | _, _ => M.stuck
theorem c_max (hc : X.calm = true) : CallR X (.builtin "max") (rDs G (on2 dMax)) := by
  refine CallR.imp (call_max2 hc) fun vs H Q h => ?_
  obtain ⟨W, w, S, d, e, v, u, rfl, s, rfl, r, r', q⟩ := on2_of h
  cases d <;> cases e <;> first
    | exact q.elim
    | (cases (show v = _ from r)
       cases (show u = _ from r')
       exact ⟨_, _, rfl, fin_pure q s rfl⟩)
theorem c_min (hc : X.calm = true) : CallR X (.builtin "min") (rDs G (on2 dMin)) := by
  refine CallR.imp (call_min2 hc) fun vs H Q h => ?_
  obtain ⟨W, w, S, d, e, v, u, rfl, s, rfl, r, r', q⟩ := on2_of h
  cases d <;> cases e <;> first
    | exact q.elim
    | (cases (show v = _ from r)
       cases (show u = _ from r')
       exact ⟨_, _, rfl, fin_pure q s rfl⟩)
def dInt : D → M D
  | .int i => M.pure (.int i)
  | .bl b => M.pure (.int (if b then 1 else 0))
  | .str x => match PySem.intText? x with
    | some n => if x.length ≤ 640 then M.pure (.int n) else M.stuck
    | none => M.stuck
  | _ => M.stuck
theorem c_int : CallR X (.type "int") (rDs G (on1 dInt)) := by
  refine CallR.imp (call_int1.or call_int_str) fun vs H Q h => ?_
  obtain ⟨W, w, S, d, v, rfl, s, rfl, r, q⟩ := on1_of h
  cases d with
  | int i => cases (show v = .int i from r); exact .inl (.inl ⟨i, rfl, fin_pure q s rfl⟩)
  | bl b => cases (show v = .bl b from r); exact .inl (.inr ⟨b, rfl, fin_pure q s rfl⟩)
  | str x =>
    cases (show v = .str x from r)
    unfold dInt at q
    rcases hx : PySem.intText? x with _ | n
    · simp only [hx] at q; exact q.elim
    · simp only [hx] at q
      obtain ⟨c, q⟩ := FinG.ite q
      exact .inr ⟨x, n, rfl, hx, c, fin_pure q s rfl⟩
  | _ => exact q.elim
def divmOk (i j : Int) : Bool := decide (0 < j) && !Builtin.divisionGoesByPylong i j
def dDivmod : D → D → M D
  | .int i, .int j => if divmOk i j = true then M.pure (.tup [.int (i / j), .int (i % j)]) else M.stuck
  | _, _ => M.stuck
theorem c_divmod : CallR X (.builtin "divmod") (rDs G (on2 dDivmod)) := by
  refine CallR.imp call_divmodW fun vs H Q h => ?_
  obtain ⟨W, w, S, d, e, v, u, rfl, s, rfl, r, r', q⟩ := on2_of h
  cases d with
  | int i =>
    cases e with
    | int j =>
      cases (show v = .int i from r)
      cases (show u = .int j from r')
      obtain ⟨c, q⟩ := FinG.ite q
      unfold divmOk at c
      simp only [Bool.and_eq_true, decide_eq_true_eq, Bool.not_eq_true'] at c
      refine ⟨i, j, rfl, c, fun p hp => ?_⟩
      exact q (w.frz p _) _ (Ext.frz hp) (s.frz hp) ⟨p, _, rfl, .inl ⟨.inr rfl, .inl upd_same⟩, ⟨_, _, rfl, rfl, _, _, rfl, rfl, rfl⟩⟩
    | _ => exact q.elim
  | _ => cases e <;> exact q.elim
def dTuple : D → M D
  | .lst ds => M.pure (.tup ds)
  | .scr ds => M.pure (.tup ds)
  | .tup ds => M.pure (.tup ds)
  | _ => M.stuck
def dList : D → M D
  | .lst ds => M.pure (.lst ds)
  | .scr ds => M.pure (.lst ds)
  | .tup ds => M.pure (.lst ds)
  | _ => M.stuck
theorem c_tuple (cK : G.K = X.K) : CallR X (.type "tuple") (rDs G (on1 dTuple)) := by
  refine CallR.imp call_tuple_of fun vs H Q h => ?_
  obtain ⟨W, w, S, d, v, rfl, s, rfl, r, q⟩ := on1_of h
  cases d with
  | lst ds =>
    obtain ⟨a, vs, e, f, hh, rs⟩ := r
    subst e
    exact ⟨a, vs, rfl, .inl ⟨.of hh, fun p hp => q (w.frz p _) _ (Ext.frz hp) (s.frz hp) ⟨p, vs, rfl, .inl ⟨.inr rfl, .inl upd_same⟩, RepVs.mono (Ext.frz hp) s.dj _ _ rs⟩⟩⟩
  | scr ds =>
    obtain ⟨a, vs, e, hh, rs⟩ := r
    subst e
    exact ⟨a, vs, rfl, .inl ⟨sqL_of cK hh, fun p hp => q (w.frz p _) _ (Ext.frz hp) (s.frz hp) ⟨p, vs, rfl, .inl ⟨.inr rfl, .inl upd_same⟩, RepVs.mono (Ext.frz hp) s.dj _ _ rs⟩⟩⟩
  | tup ds =>
    have r2 := r
    obtain ⟨a, vs, e, hh, rs⟩ := r
    subst e
    exact ⟨a, vs, rfl, .inr ⟨sqT_of cK hh, fin_pure q s r2⟩⟩
  | _ => exact q.elim
theorem c_list (cK : G.K = X.K) : CallR X (.type "list") (rDs G (on1 dList)) := by
  refine CallR.imp call_list_of fun vs H Q h => ?_
  obtain ⟨W, w, S, d, v, rfl, s, rfl, r, q⟩ := on1_of h
  cases d with
  | lst ds =>
    obtain ⟨a, vs, e, f, hh, rs⟩ := r
    subst e
    exact ⟨a, vs, rfl, .inl (.of hh), fun p hp => q (w.frz p _) _ (Ext.frz hp) (s.frz hp) ⟨p, vs, rfl, .inr rfl, upd_same, RepVs.mono (Ext.frz hp) s.dj _ _ rs⟩⟩
  | scr ds =>
    obtain ⟨a, vs, e, hh, rs⟩ := r
    subst e
    exact ⟨a, vs, rfl, .inl (sqL_of cK hh), fun p hp => q (w.frz p _) _ (Ext.frz hp) (s.frz hp) ⟨p, vs, rfl, .inr rfl, upd_same, RepVs.mono (Ext.frz hp) s.dj _ _ rs⟩⟩
  | tup ds =>
    obtain ⟨a, vs, e, hh, rs⟩ := r
    subst e
    exact ⟨a, vs, rfl, .inr (sqT_of cK hh), fun p hp => q (w.frz p _) _ (Ext.frz hp) (s.frz hp) ⟨p, vs, rfl, .inr rfl, upd_same, RepVs.mono (Ext.frz hp) s.dj _ _ rs⟩⟩
  | _ => exact q.elim
def bls : List D → Option (List Bool)
  | [] => some []
  | .bl b :: ds => (bls ds).map (b :: ·)
  | _ :: _ => none
theorem bls_rep : ∀ {ds : List D} {bs : List Bool} {vs : List V}, bls ds = some bs → RepVs G w ds vs → vs = bs.map V.bl
  | [], bs, vs, h, r => by unfold bls at h; cases h; exact r
  | .bl b :: ds, bs, vs, h, r => by
    unfold bls at h
    obtain ⟨cs, h1, h2⟩ := Option.map_eq_some_iff.mp h
    subst h2
    obtain ⟨v, t, e, h3, h4⟩ := r
    rw [e, bls_rep h1 h4]
    cases (show v = .bl b from h3)
    rfl
  | .non :: _, _, _, h, _ => by cases h
  | .int _ :: _, _, _, h, _ => by cases h
  | .str _ :: _, _, _, h, _ => by cases h
  | .tup _ :: _, _, _, h, _ => by cases h
  | .lst _ :: _, _, _, h, _ => by cases h
  | .scr _ :: _, _, _, h, _ => by cases h
  | .dct _ _ :: _, _, _, h, _ => by cases h
  | .ins _ _ :: _, _, _, h, _ => by cases h
  | .ref _ :: _, _, _, h, _ => by cases h
  | .ty _ :: _, _, _, h, _ => by cases h
  | .cls _ :: _, _, _, h, _ => by cases h
def dAll : D → M D
  | .lst ds => match bls ds with
    | some bs => M.pure (.bl (bs.all id))
    | none => M.stuck
  | _ => M.stuck
def dAny : D → M D
  | .lst ds => match bls ds with
    | some bs => M.pure (.bl (bs.any id))
    | none => M.stuck
  | _ => M.stuck
theorem c_all (hc : X.calm = true) : CallR X (.builtin "all") (rDs G (on1 dAll)) := by
  refine CallR.imp (cr_all hc) fun vs H Q h => ?_
  obtain ⟨W, w, S, d, v, rfl, s, rfl, r, q⟩ := on1_of h
  cases d with
  | lst ds =>
    obtain ⟨a, vs, e, f, hh, rs⟩ := r
    unfold dAll at q
    rcases hb : bls ds with _ | bs
    · simp only [hb] at q; exact q.elim
    · simp only [hb] at q
      have ev := bls_rep hb rs
      subst e ev
      exact ⟨a, bs, rfl, .of hh, fin_pure q s rfl⟩
  | _ => exact q.elim
theorem c_any (hc : X.calm = true) : CallR X (.builtin "any") (rDs G (on1 dAny)) := by
  refine CallR.imp (cr_any hc) fun vs H Q h => ?_
  obtain ⟨W, w, S, d, v, rfl, s, rfl, r, q⟩ := on1_of h
  cases d with
  | lst ds =>
    obtain ⟨a, vs, e, f, hh, rs⟩ := r
    unfold dAny at q
    rcases hb : bls ds with _ | bs
    · simp only [hb] at q; exact q.elim
    · simp only [hb] at q
      have ev := bls_rep hb rs
      subst e ev
      exact ⟨a, bs, rfl, .of hh, fin_pure q s rfl⟩
  | _ => exact q.elim
def reprOk (p : PyData) : Bool := p.showable && !p.hasDict && decide (p.depth ≤ 60) && decide (p.shown.length ≤ lim)
def dRepr (d : D) : M D := match toP d with
  | some p => if reprOk p = true then M.pure (.str p.shown) else M.stuck
  | none => M.stuck
theorem c_repr (cK : G.K = X.K) (hr : Rm G.gd k X.A) (hg : G.gd = true := by rfl) : CallR X (.builtin "repr") (rDs G (on1 dRepr)) := by
  intro pins s σ H xs us Q I rx h
  obtain ⟨W, w, S, d, v, rfl, st, rfl, r, q⟩ := on1_of h
  unfold dRepr at q
  rcases hp : toP d with _ | p
  · simp only [hp] at q; exact q.elim
  · simp only [hp] at q
    obtain ⟨c, q⟩ := FinG.ite q
    unfold reprOk at c
    simp only [Bool.and_eq_true, decide_eq_true_eq, Bool.not_eq_true'] at c
    obtain ⟨⟨⟨c1, c2⟩, c3⟩, c4⟩ := c
    obtain ⟨u, rfl, rv⟩ := vals1 rx
    have dp := toP_dp cK d v p r hp
    obtain ⟨as, rd⟩ := Dp.reads I p v u dp rv
    have fin : Q (.str p.shown) w.H := fin_pure q st rfl
    have hz : p.shown.length ≤ sizeLine := by rw [← lim_eq]; exact c4
    cases rd with
    | none => exact PySem.P.repr_of_none ⟨.str _, w.H, I.tok _, ⟨_, rfl⟩, fin⟩
    | bool b => exact PySem.P.repr_of_bool ⟨.str _, w.H, I.tok _, ⟨_, rfl⟩, fin⟩
    | int i t => exact PySem.P.repr_of_int (by simpa [PyData.showable] using c1) ⟨.str _, w.H, I.tok _, ⟨_, rfl⟩, fin⟩
    | str x t => exact PySem.P.repr_of_str ⟨.str _, w.H, I.tok _, ⟨_, rfl⟩, fin⟩ hz
    | list h1 h2 h3 h4 =>
      refine repr_of_reads' (Reads.list h1 h2 h3 h4) c1 (fun z => by rw [c2] at z; cases z) (hr.gd hg) (by have := hr.room.units; omega) (fun _ _ z => z) (fun h' u tk kp => ?_) hz
      exact ⟨.str _, w.H, I.kept (t' := tk) kp, ⟨_, rfl⟩, fin⟩
    | tuple h1 h2 h3 h4 =>
      refine repr_of_reads' (Reads.tuple h1 h2 h3 h4) c1 (fun z => by rw [c2] at z; cases z) (hr.gd hg) (by have := hr.room.units; omega) (fun _ _ z => z) (fun h' u tk kp => ?_) hz
      exact ⟨.str _, w.H, I.kept (t' := tk) kp, ⟨_, rfl⟩, fin⟩
    | dict _ _ _ _ _ => cases c2
end
end Ev
set_option maxRecDepth 100000
set_option maxHeartbeats 2000000
namespace Ev
open PySem PySem.Spec PyProof.Rows L2
section
variable {G : Sg} {X : Cx} {W : WX} {k : Nat} {w0 w w1 : Wd} {S : List Ob} {sd : List SV} {σ : L2.St}
theorem R.wr {i : Nat} {a : Addr} {o o' : Ob} {h : HO} (r : R G w0 w sd S σ) (hi : sd[i]? = some (.own o)) (ha : σ[i]? = some (some (.ref a))) (hn : RepO G (w.wr a h) a o') : R G w0 (w.wr a h) (sd.set i (.own o')) S σ := by
  obtain ⟨a', e1, _, nF, nm, n0⟩ := r.ow i o hi
  rw [ha] at e1
  cases e1
  have il : i < sd.length := (List.getElem?_eq_some_iff.mp hi).1
  have st := Stay.wr (o := h) nF
  have key : ∀ {j : Nat} {x : SV}, (sd.set i (.own o'))[j]? = some x → (j = i ∧ x = .own o') ∨ (j ≠ i ∧ sd[j]? = some x) := fun {j x} z => by
    by_cases e : i = j
    · subst e
      rw [List.getElem?_set_self il] at z
      cases z
      exact .inl ⟨rfl, rfl⟩
    · rw [List.getElem?_set_ne e] at z
      exact .inr ⟨fun q => e q.symm, z⟩
  refine ⟨Ext.wr r.ex n0, r.st.wr nF nm, by rw [List.length_set]; exact r.ln, fun j x z => ?_, fun j o2 z => ?_, fun j1 j2 o1 o2 b h1 h2 h3 h4 => ?_, fun b o2 e z => by
    rcases key z with ⟨rfl, _⟩ | ⟨_, z⟩
    · exact r.sf b _ e hi
    · exact r.sf b _ e z⟩
  · rcases key z with ⟨_, e⟩ | ⟨_, z⟩
    · cases e
    · obtain ⟨v, h1, h2⟩ := r.vl j x z
      exact ⟨v, h1, RepV.stay st _ _ h2⟩
  · rcases key z with ⟨rfl, e⟩ | ⟨ne, z⟩
    · cases e
      exact ⟨a, ha, hn, nF, nm, n0⟩
    · obtain ⟨b, h1, h2, h3, h4, h5⟩ := r.ow j o2 z
      have nab : b ≠ a := fun e => by
        subst e
        exact ne (r.ap j i o2 o b z hi h1 ha)
      exact ⟨b, h1, RepO.to (upd_ne nab) st h2, h3, h4, h5⟩
  · have f1 : ∃ p1, sd[j1]? = some (.own p1) := (key h1).elim (fun z => ⟨o, z.1 ▸ hi⟩) fun z => ⟨o1, z.2⟩
    have f2 : ∃ p2, sd[j2]? = some (.own p2) := (key h2).elim (fun z => ⟨o, z.1 ▸ hi⟩) fun z => ⟨o2, z.2⟩
    obtain ⟨p1, q1⟩ := f1
    obtain ⟨p2, q2⟩ := f2
    exact r.ap j1 j2 p1 p2 b q1 q2 h3 h4
def frzO : Ob → D
  | .lst ds => .lst ds
  | .dct ks ds => .dct ks ds
  | .ins c ds => .ins c ds
theorem R.frz {i : Nat} {o : Ob} (r : R G w0 w sd S σ) (hi : sd[i]? = some (.own o)) : ∃ a, Stay w (w.fz a) ∧ R G w0 (w.fz a) (sd.set i (.val (frzO o))) S σ ∧ σ[i]? = some (some (.ref a)) ∧ RepV G (w.fz a) (frzO o) (.ref a) := by
  obtain ⟨a, ha, ho, nF, nm, n0⟩ := r.ow i o hi
  have il : i < sd.length := (List.getElem?_eq_some_iff.mp hi).1
  have rv : RepV G (w.fz a) (frzO o) (.ref a) := by
    cases o with
    | lst ds => obtain ⟨vs, h1, h2⟩ := ho; exact ⟨a, vs, rfl, .inr rfl, h1, RepVs.stay Stay.fz _ _ h2⟩
    | dct ks ds => obtain ⟨vs, h1, h2, h3⟩ := ho; exact ⟨a, vs, rfl, .inr rfl, h1, h2, RepVs.stay Stay.fz _ _ h3⟩
    | ins c ds => obtain ⟨dx, vs, h1, h2, h3⟩ := ho; exact ⟨a, dx, vs, rfl, .inr rfl, h1, h2, RepVs.stay Stay.fz _ _ h3⟩
  refine ⟨a, Stay.fz, ?_, ha, rv⟩
  have key : ∀ {j : Nat} {x : SV}, (sd.set i (.val (frzO o)))[j]? = some x → (j = i ∧ x = .val (frzO o)) ∨ (j ≠ i ∧ sd[j]? = some x) := fun {j x} z => by
    by_cases e : i = j
    · subst e
      rw [List.getElem?_set_self il] at z
      cases z
      exact .inl ⟨rfl, rfl⟩
    · rw [List.getElem?_set_ne e] at z
      exact .inr ⟨fun q => e q.symm, z⟩
  refine ⟨Ext.fz r.ex n0, r.st.fz nm ho.there, by rw [List.length_set]; exact r.ln, fun j x z => ?_, fun j o2 z => ?_, fun j1 j2 o1 o2 b h1 h2 h3 h4 => ?_, fun b o2 e z => by
    rcases key z with ⟨_, e⟩ | ⟨_, z⟩
    · cases e
    · exact r.sf b _ e z⟩
  · rcases key z with ⟨rfl, e⟩ | ⟨_, z⟩
    · cases e
      exact ⟨.ref a, ha, rv⟩
    · obtain ⟨v, h1, h2⟩ := r.vl j x z
      exact ⟨v, h1, RepV.stay Stay.fz _ _ h2⟩
  · rcases key z with ⟨_, e⟩ | ⟨ne, z⟩
    · cases e
    · obtain ⟨b, h1, h2, h3, h4, h5⟩ := r.ow j o2 z
      have nab : b ≠ a := fun e => by
        subst e
        exact ne (r.ap j i o2 o b z hi h1 ha)
      exact ⟨b, h1, RepO.to (w := w) (w' := w.fz a) rfl Stay.fz h2, fun q => q.elim h3 nab, h4, h5⟩
  · rcases key h1 with ⟨_, e⟩ | ⟨n1, h1⟩
    · cases e
    · rcases key h2 with ⟨_, e⟩ | ⟨n2, h2⟩
      · cases e
      · exact r.ap j1 j2 o1 o2 b h1 h2 h3 h4
def frzS (i : Nat) : MS := fun sd S => match sd[i]? with
  | some (.own o) => some (.next (sd.set i (.val (frzO o))), S)
  | _ => none
def FinO (G : Sg) (W : Value → Option Addr → Hp → Prop) (w : Wd) (Q : VK) : Option (Except Exn (List D) × List Ob) → Prop
  | none => False
  | some (.ok ds, S) => ∀ w' p vs, Ext w w' → RepS G w' S → w'.H p = some (.lst vs) → RepVs G w' ds vs → ¬ w'.F p → p ∉ w'.m → w.H p = none → Q (.ref p) w'.H
  | some (.error e, S) => ∀ w' cls x, Ext w w' → RepS G w' S → RepX G w' e cls x → W cls x w'.H
def teO (G : Sg) (W : WX) (f : List SV → M (List D)) : TE := fun σ H Q => ∃ w0 w sd S, w.H = H ∧ R G w0 w sd S σ ∧ FinO G (fun c x H => W c x σ H) w Q (f sd S)
abbrev PO_ (G : Sg) (X : Cx) (W : WX) (e : Expr) (f : List SV → M (List D)) : Prop := PE X e (teO G W f)
theorem FinO.ext {W : Value → Option Addr → Hp → Prop} {Q : VK} {r : Option (Except Exn (List D) × List Ob)} (e : Ext w w1) (h : FinO G W w Q r) : FinO G W w1 Q r := by
  rcases r with _ | ⟨_ | ds, S⟩
  · exact h
  · exact fun w' c x e' => h w' c x (e.trans e')
  · exact fun w' p vs e' s h1 h2 h3 h4 h5 => h w' p vs (e.trans e') s h1 h2 h3 h4 (e.al _ h5)
theorem finO_step {α β : Type} {rep : Wd → α → β → Prop} {W : Value → Option Addr → Hp → Prop} {Q : β → Hp → Prop} {Q' : VK} {f : M α} {k : α → M (List D)} (h : FinO G W w Q' (M.bind f k S))
    (c : ∀ w1 S1 d v, Ext w w1 → RepS G w1 S1 → rep w1 d v → FinO G W w1 Q' (k d S1) → Q v w1.H) : FinG G rep W w Q (f S) := by
  unfold M.bind at h
  rcases hf : f S with _ | ⟨_ | d, S1⟩
  · rw [hf] at h; exact h
  · rw [hf] at h; exact h
  · rw [hf] at h
    exact fun w' v e s r => c w' S1 d v e s r (h.ext e)
theorem finO_new {W : Value → Option Addr → Hp → Prop} {Q : VK} {ds : List D} {vs : List V} {p : Addr} (h : FinO G W w Q (M.pure ds S)) (s : RepS G w S) (r : RepVs G w ds vs) (hp : w.H p = none) : Q (.ref p) (upd w.H p (.lst vs)) :=
  h (w.new p (.lst vs)) p vs (Ext.new hp) (s.new hp) upd_same (RepVs.mono (Ext.new hp) s.dj _ _ r) (fun z => s.fh p z hp) (fun z => s.there z hp) hp
theorem o_lst {n : Nat} {es : List Expr} {g : List SV → M (List D)} {pos : Pos} (h : PLn G X W n es g) (hn : n ≤ sizeLine) : PO_ G X W (.List es pos) (fun sd => M.bind (g sd) M.pure) := by
  refine PE.imp (pe_lst h) fun σ H Q h => ?_
  obtain ⟨w0, w, sd, S, e, r, q⟩ := h
  exact ⟨w0, w, sd, S, e, r, finO_step q fun w1 S1 ds vs e1 s1 rv q1 => ⟨by rw [rv.2]; exact hn, fun p hp => finO_new q1 s1 rv.1 hp⟩⟩
def ownS (i : Nat) (f : List SV → M (List D)) : MS := exS f fun ds sd S => some (.next (sd.set i (.own (.lst ds))), S)
def newRef (o : Ob) : M D := fun S => some (.ok (.ref S.length), S ++ [o])
theorem share {o : Ob} {p : Addr} (s : RepS G w S) (ho : RepO G w p o) (nF : ¬ w.F p) (nm : p ∉ w.m) : Stay w ⟨w.m ++ [p], w.F, w.H, w.x⟩ ∧ RepS G ⟨w.m ++ [p], w.F, w.H, w.x⟩ (S ++ [o]) := by
  have st : Stay w ⟨w.m ++ [p], w.F, w.H, w.x⟩ := ⟨⟨[p], rfl⟩, fun _ z => z, fun _ _ _ z => z⟩
  refine ⟨st, by simp [s.len], ?_, fun a h => ?_, s.fh, fun n a u h1 h2 => ?_⟩
  · rw [List.nodup_append]
    exact ⟨s.nd, by simp, fun a ha b hb => by
      have : b = p := by simpa using hb
      subst this
      exact fun e => nm (e ▸ ha)⟩
  · show a ∉ w.m ++ [p]
    simp only [List.mem_append, List.mem_singleton, not_or]
    exact ⟨s.dj a h, fun e => nF (by rw [← e]; exact h)⟩
  · have h1 : (w.m ++ [p])[n]? = some a := h1
    by_cases hn : n < w.m.length
    · rw [List.getElem?_append_left hn] at h1
      rw [List.getElem?_append_left (by rw [← s.len]; exact hn)] at h2
      exact RepO.to (w := w) (w' := ⟨w.m ++ [p], w.F, w.H, w.x⟩) rfl st (s.ob n a u h1 h2)
    · rw [List.getElem?_append_right (by omega)] at h1
      rw [List.getElem?_append_right (by rw [← s.len]; omega)] at h2
      have e0 : n - w.m.length = 0 := by
        have := (List.getElem?_eq_some_iff.mp h1).1
        simp at this
        omega
      rw [e0] at h1
      rw [← s.len, e0] at h2
      simp at h1 h2
      subst h1 h2
      exact RepO.to (w := w) (w' := ⟨w.m ++ [p], w.F, w.H, w.x⟩) rfl st ho
theorem v_shr {e : Expr} {f : List SV → M (List D)} (h : PO_ G X W e f) : PV G X W e (fun sd => M.bind (f sd) fun ds => newRef (.lst ds)) := by
  refine PE.imp h fun σ H Q h => ?_
  obtain ⟨w0, w, sd, S, e, r, q⟩ := h
  refine ⟨w0, w, sd, S, e, r, ?_⟩
  have q : FinG G (RepV G) (fun c x H => W c x σ H) w Q (M.bind (f sd) (fun ds => newRef (.lst ds)) S) := q
  unfold M.bind at q
  rcases hf : f sd S with _ | ⟨_ | ds, S1⟩
  · rw [hf] at q; exact q
  · rw [hf] at q; exact q
  · rw [hf] at q
    intro w' p vs e1 s1 h1 h2 h3 h4 h5
    obtain ⟨st, s2⟩ := share (o := .lst ds) s1 ⟨vs, h1, h2⟩ h3 h4
    have q : FinG G (RepV G) (fun c x H => W c x σ H) w Q (some (.ok (.ref S1.length), S1 ++ [.lst ds])) := q
    refine q ⟨w'.m ++ [p], w'.F, w'.H, w'.x⟩ (.ref p) ⟨?_, e1.F, e1.H, fun b hb => ?_, e1.nF, e1.al⟩ s2 ⟨p, rfl, ?_⟩
    · obtain ⟨rr, er⟩ := e1.m
      exact ⟨rr ++ [p], by show w'.m ++ [p] = _; rw [er, List.append_assoc]⟩
    · have hb : b ∈ w'.m ++ [p] := hb
      rcases List.mem_append.mp hb with z | z
      · exact e1.nm b z
      · have : b = p := by simpa using z
        subst this
        exact .inr h5
    · show (w'.m ++ [p])[S1.length]? = some p
      rw [← s1.len, List.getElem?_append_right (Nat.le_refl _)]
      simp
def appS (i : Nat) (f : List SV → M D) : MS := fun sd S => match sd[i]? with
  | some (.own (.lst ds)) => if ds.length < lim then exS f (fun d sd S => some (.next (sd.set i (.own (.lst (ds ++ [d])))), S)) sd S else none
  | _ => none
end
end Ev
set_option maxRecDepth 100000
set_option maxHeartbeats 2000000
namespace Ev
open PySem PySem.Spec PyProof.Rows L2
section
variable {G : Sg} {X : Cx} {W : WX} {k : Nat} {w0 w w1 : Wd} {S : List Ob} {sd : List SV} {σ : L2.St}
theorem R.wrm {n : Nat} {a : Addr} {o' : Ob} {h : HO} (r : R G w0 w sd S σ) (hm : w.m[n]? = some a) (hn : RepO G (w.wr a h) a o') : Stay w (w.wr a h) ∧ R G w0 (w.wr a h) sd (S.set n o') σ := by
  have am : a ∈ w.m := List.mem_of_getElem? hm
  have nF : ¬ w.F a := fun z => r.st.dj a z am
  have st := Stay.wr (o := h) nF
  have hnS : n < S.length := by rw [← r.st.len]; exact (List.getElem?_eq_some_iff.mp hm).1
  have ne : ∀ {j b}, w.m[j]? = some b → j ≠ n → b ≠ a := fun {j b} hj hjn e => by
    subst e
    obtain ⟨l1, e1⟩ := List.getElem?_eq_some_iff.mp hj
    obtain ⟨l2, e2⟩ := List.getElem?_eq_some_iff.mp hm
    exact hjn ((List.getElem_inj r.st.nd).mp (e1.trans e2.symm))
  refine ⟨st, ⟨?_, ?_, r.ln, fun j x z => ?_, fun j o2 z => ?_, r.ap, r.sf⟩⟩
  · refine ⟨r.ex.m, r.ex.F, fun b u hb hu => ?_, r.ex.nm, r.ex.nF, fun b z => ?_⟩
    · have nb : b ≠ a := fun e => by
        subst e
        rcases r.ex.nm b am with z | z
        · exact hb z
        · rw [z] at hu; cases hu
      show upd w.H a h b = some u
      rw [upd_ne nb]
      exact r.ex.H b u hb hu
    · have z : upd w.H a h b = none := z
      by_cases e : b = a
      · rw [e, upd_same] at z; cases z
      · rw [upd_ne e] at z
        exact r.ex.al b z
  · refine ⟨by rw [List.length_set]; exact r.st.len, r.st.nd, r.st.dj, fun b z => ?_, fun j b u h1 h2 => ?_⟩
    · show upd w.H a h b ≠ none
      rw [upd_ne (fun e => nF (by rw [← e]; exact z))]
      exact r.st.fh b z
    · by_cases e : n = j
      · subst e
        rw [List.getElem?_set_self hnS] at h2
        cases h2
        rw [show w.m[n]? = some b from h1] at hm
        cases hm
        exact hn
      · rw [List.getElem?_set_ne e] at h2
        exact RepO.to (upd_ne (ne h1 fun z => e z.symm)) st (r.st.ob j b u h1 h2)
  · obtain ⟨v, h1, h2⟩ := r.vl j x z
    exact ⟨v, h1, RepV.stay st _ _ h2⟩
  · obtain ⟨b, h1, h2, h3, h4, h5⟩ := r.ow j o2 z
    have nb : b ≠ a := fun e => h4 (e ▸ am)
    exact ⟨b, h1, RepO.to (upd_ne nb) st h2, h3, h4, h5⟩
def itemT (fo fi : List SV → M D) : Tgt := fun d sd S => match fo sd S with
  | some (.ok (.ref n), S1) => match fi sd S1 with
    | some (.ok (.int j), S2) => match S2[n]? with
      | some (.lst ds) => match ixN ds.length j with
        | some i => some (sd, S2.set n (.lst (ds.set i d)))
        | none => none
      | _ => none
    | _ => none
  | _ => none
theorem sub_tree {o i : Expr} {pos : Pos} (hs : notSlice i = true) (v : Value) : assign (.Subscript o i pos) X.env v = (do
      let ov ← holding [v] (eval o X.env)
      let iv ← holding [v, ov] (eval i X.env)
      standAt pos
      holding [v, ov, iv] (setItem ov iv v)
      release [v, ov, iv] []) := by
  cases i <;> first | rfl | cases hs
theorem g_item {o i : Expr} {fo fi : List SV → M D} {pos : Pos} (ho : PV G X W o fo) (hi : PV G X W i fi) (hs : notSlice i = true) : PGV G X [] (.Subscript o i pos) (itemT fo fi) := by
  refine PG.imp (pg_sub ho hi set_list (sub_tree hs)) fun v σ H Q q => ?_
  obtain ⟨w0, w, sd, S, d, e, r, rd, q⟩ := q
  refine ⟨w0, w, sd, S, e, r, ?_⟩
  unfold itemT at q
  rcases hf : fo sd S with _ | ⟨x | d1, S1⟩
  · rw [hf] at q; exact q
  · rw [hf] at q; exact q.elim
  · rw [hf] at q
    cases d1 with
    | ref n =>
      simp only at q
      intro w1 v1 e1 s1 ⟨a, ev, hm⟩
      have r1 := r.step e1 s1
      refine ⟨w0, w1, sd, S1, rfl, r1, ?_⟩
      rcases hg : fi sd S1 with _ | ⟨x | d2, S2⟩
      · rw [hg] at q; exact q
      · rw [hg] at q; exact q.elim
      · rw [hg] at q
        cases d2 with
        | int j =>
          simp only at q
          intro w2 v2 e2 s2 rj
          cases (show v2 = .int j from rj)
          have r2 := r1.step e2 s2
          obtain ⟨rr, er⟩ := e2.m
          have hm2 : w2.m[n]? = some a := by
            rw [er, List.getElem?_append_left (List.getElem?_eq_some_iff.mp hm).1]; exact hm
          rcases hn : S2[n]? with _ | ⟨ds | _ | _⟩
          · simp only [hn] at q; exact q.elim
          · simp only [hn] at q
            obtain ⟨vs, hh, rs⟩ := s2.ob n a _ hm2 hn
            rcases hx : ixN ds.length j with _ | i2
            · simp only [hx] at q; exact q.elim
            · simp only [hx] at q
              have rd2 : RepV G w2 d v := RepV.mono (e1.trans e2) r.st.dj _ _ rd
              have nF : ¬ w2.F a := fun z => s2.dj a z (List.mem_of_getElem? hm2)
              have st := Stay.wr (o := .lst (vs.set i2 v)) nF
              obtain ⟨st2, r3⟩ := r2.wrm hm2 (h := .lst (vs.set i2 v)) (o' := .lst (ds.set i2 d)) ⟨_, upd_same, RepVs.set i2 (RepVs.stay st _ _ rs) (RepV.stay st _ _ rd2)⟩
              refine ⟨a, vs, j, i2, ev, rfl, hh, by rw [← rs.length]; exact hx, ?_⟩
              exact q (w2.wr a _) σ (((e1.trans e2).stay r.st.dj).trans st2) r3 fun _ _ => rfl
          · simp only [hn] at q; exact q.elim
          · simp only [hn] at q; exact q.elim
        | _ => exact q.elim
    | _ => exact q.elim
theorem putF_zip {f : Str} : ∀ {fs : List Str} {vs : List V} {j : Nat} {v : V}, fs.Nodup → fs[j]? = some f → j < vs.length → putF f v (fs.zip vs) = fs.zip (vs.set j v)
  | [], _, _, _, _, h, _ => by simp at h
  | _ :: _, [], _, _, _, _, h => by simp at h
  | g :: fs, u :: vs, 0, v, _, h, _ => by
    simp at h
    subst h
    show putF g v ((g, u) :: fs.zip vs) = (g, v) :: fs.zip vs
    unfold putF
    rw [if_pos rfl]
  | g :: fs, u :: vs, j + 1, v, nd, h, hl => by
    have nd := List.nodup_cons.mp nd
    have hm : fs[j]? = some f := by simpa using h
    have hne : ¬ g = f := fun e => nd.1 (e ▸ List.mem_of_getElem? hm)
    show putF f v ((g, u) :: fs.zip vs) = (g, u) :: fs.zip (vs.set j v)
    unfold putF
    rw [if_neg hne, putF_zip nd.2 hm (by simpa using hl)]
theorem putF_new {f : Str} : ∀ {fs : List Str} {vs : List V} {v : V}, fs.Nodup → fs[vs.length]? = some f → putF f v (fs.zip vs) = fs.zip (vs ++ [v])
  | [], vs, _, _, h => by simp at h
  | g :: fs, [], v, _, h => by
    simp at h
    subst h
    show putF g v [] = [(g, v)] ++ fs.zip []
    simp [putF]
  | g :: fs, u :: vs, v, nd, h => by
    have nd := List.nodup_cons.mp nd
    have hm : fs[vs.length]? = some f := by simpa using h
    have hne : ¬ g = f := fun e => nd.1 (e ▸ List.mem_of_getElem? hm)
    show putF f v ((g, u) :: fs.zip vs) = (g, u) :: fs.zip (vs ++ [v])
    unfold putF
    rw [if_neg hne, putF_new nd.2 hm]
def putL (ds : List D) (j : Nat) (d : D) : Option (List D) := if j < ds.length then some (ds.set j d) else if j = ds.length then some (ds ++ [d]) else none
structure FldT (X : Cx) (G : Sg) (m : Str) (tbl : Nat → Option Nat) : Prop where
  at_ : ∀ c j, tbl c = some j → Cls X.K (G.ca c) ∧ NoAttr X.K (G.ca c) m ∧ (G.fn c).Nodup ∧ (G.fn c)[j]? = some m ∧ (G.fn c).length < 1000
def setFS (i : Nat) (tbl : Nat → Option Nat) (f : List SV → M D) : MS := exS f fun d sd S => match sd[i]? with
  | some (.own (.ins c ds)) => match tbl c with
    | some j => match putL ds j d with
      | some es => some (.next (sd.set i (.own (.ins c es))), S)
      | none => none
    | none => none
  | _ => none
theorem s_setF {i : Nat} {x m : Str} {p apos pos : Pos} {e : Expr} {f : List SV → M D} {tbl : Nat → Option Nat} (T : FldT X G m tbl) (hN : X.N[i]? = some x) (hv : Vis X.env.scope x) (hd : (x == ("__debug__" : Str)) = false) (hcd : (x == ("__classdict__" : Str)) = false) (he : PV G X W e f) (hs : swapFree e = true) :
    PSV G X W (.Assign [.Attribute (.Name x p) m apos] e pos) (setFS i tbl f) := by
  refine PS.imp (ps_fld (pe_var (X := X) (pos := p) hN hv hd hcd) he (swap_free hs)) fun En σ H q => ?_
  obtain ⟨w0, w, sd, S, e, r, q⟩ := q
  refine ⟨w0, w, sd, S, e, r, exS_step q r fun w1 S1 d v e1 r1 rv q1 => ?_⟩
  rcases hi : sd[i]? with _ | _ | d0 | ⟨ds | ⟨ks, ds⟩ | ⟨cc, ds⟩⟩
  · simp only [hi] at q1; exact q1.elim
  · simp only [hi] at q1; exact q1.elim
  · simp only [hi] at q1; exact q1.elim
  · simp only [hi] at q1; exact q1.elim
  · simp only [hi] at q1; exact q1.elim
  · simp only [hi] at q1
    rcases ht : tbl cc with _ | j
    · simp only [ht] at q1; exact q1.elim
    · simp only [ht] at q1
      obtain ⟨cl, na, nd, hj, hl⟩ := T.at_ cc j ht
      obtain ⟨a, ha, ⟨dx, vs, h1, h2, h3⟩, nF, nm, n0⟩ := r1.ow i _ hi
      have hlen : ((G.fn cc).zip vs).length < 1000 := by
        rw [List.length_zip]; omega
      refine ⟨.ref a, ha, a, _, dx, _, rfl, h1, cl, na, hlen, ?_⟩
      unfold putL at q1
      by_cases c1 : j < ds.length
      · simp only [if_pos c1] at q1
        rw [putF_zip nd hj (by rw [← h3.length]; exact c1)]
        have hn : RepO G (w1.wr a (.ins (G.ca cc) dx ((G.fn cc).zip (vs.set j v)))) a (.ins cc (ds.set j d)) := ⟨dx, _, upd_same, by rw [List.length_set]; exact h2, RepVs.set j (RepVs.stay (Stay.wr nF) _ _ h3) (RepV.stay (Stay.wr nF) _ _ rv)⟩
        exact q1 _ σ (Stay.wr nF) (r1.wr hi ha hn)
      · simp only [if_neg c1] at q1
        by_cases c2 : j = ds.length
        · simp only [if_pos c2] at q1
          subst c2
          rw [h3.length] at hj
          rw [putF_new nd hj]
          have hn : RepO G (w1.wr a (.ins (G.ca cc) dx ((G.fn cc).zip (vs ++ [v])))) a (.ins cc (ds ++ [d])) := ⟨dx, _, upd_same, by
            rw [List.length_append]
            exact (List.getElem?_eq_some_iff.mp hj).1, RepVs.append (RepVs.stay (Stay.wr nF) _ _ h3) (RepVs.one (RepV.stay (Stay.wr nF) _ _ rv))⟩
          exact q1 _ σ (Stay.wr nF) (r1.wr hi ha hn)
        · simp only [if_neg c2] at q1; exact q1.elim
def ownF (i : Nat) (tbl : Nat → Option Nat) : List SV → M D := fun sd => match sd[i]? with
  | some (.own (.ins c ds)) => match tbl c with
    | some j => match ds[j]? with
      | some d => M.pure d
      | none => M.stuck
    | none => M.stuck
  | _ => M.stuck
theorem v_ownF {i : Nat} {x m : Str} {p pos : Pos} {tbl : Nat → Option Nat} (T : FldT X G m tbl) (hN : X.N[i]? = some x) (hv : Vis X.env.scope x) (hd : (x == ("__debug__" : Str)) = false) (hcd : (x == ("__classdict__" : Str)) = false) : PV G X W (.Attribute (.Name x p) m pos) (ownF i tbl) := by
  refine PE.imp (pe_fld (pe_var (X := X) (pos := p) hN hv hd hcd) (attr_base rfl)) fun σ H Q q => ?_
  obtain ⟨w0, w, sd, S, e, r, q⟩ := q
  subst e
  unfold ownF at q
  rcases hi : sd[i]? with _ | _ | d0 | ⟨ds | ⟨ks, ds⟩ | ⟨cc, ds⟩⟩
  · simp only [hi] at q; exact q.elim
  · simp only [hi] at q; exact q.elim
  · simp only [hi] at q; exact q.elim
  · simp only [hi] at q; exact q.elim
  · simp only [hi] at q; exact q.elim
  · simp only [hi] at q
    rcases ht : tbl cc with _ | j
    · simp only [ht] at q; exact q.elim
    · simp only [ht] at q
      rcases hj2 : ds[j]? with _ | d
      · simp only [hj2] at q; exact q.elim
      · simp only [hj2] at q
        obtain ⟨cl, na, nd, hj, hl⟩ := T.at_ cc j ht
        obtain ⟨a, ha, ⟨dx, vs, h1, h2, h3⟩, _⟩ := r.ow i _ hi
        obtain ⟨v, hv1, hv2⟩ := h3.get hj2
        exact ⟨.ref a, ha, a, _, dx, _, v, rfl, h1, cl, na, lookup_zip_some nd hj hv1, fin_pure q r.st hv2⟩
end
end Ev
set_option maxRecDepth 100000
set_option maxHeartbeats 2000000
namespace Ev
open PySem PySem.Spec PyProof.Rows L2
def cutD {α : Type} (xs : List α) (lo hi : Option Int) : List α := (xs.drop (HT.sIx xs.length 0 lo)).take (HT.sIx xs.length xs.length hi - HT.sIx xs.length 0 lo)
section
variable {G : Sg} {X : Cx} {W : WX} {k : Nat} {w0 w w1 : Wd} {S : List Ob} {sd : List SV} {σ : L2.St}
theorem cut_rep {ds : List D} {vs : List V} {lo hi : Option Int} (r : RepVs G w ds vs) : RepVs G w (cutD ds lo hi) (cutV vs lo hi) := by
  unfold cutD cutV
  rw [r.length]
  exact RepVs.take _ (RepVs.drop _ r)
def dSl (d : D) (lo hi : Option Int) : M D := match d with
  | .lst ds => M.pure (.lst (cutD ds lo hi))
  | .scr ds => M.pure (.lst (cutD ds lo hi))
  | .tup ds => M.pure (.tup (cutD ds lo hi))
  | .str z => if z.length ≤ lim then M.pure (.str (cutS z lo hi)) else M.stuck
  | _ => M.stuck
def rSlD (G : Sg) : V → Option Int → Option Int → Hp → VK → Prop := fun v lo hi H Q => ∃ W w S d, w.H = H ∧ RepS G w S ∧ RepV G w d v ∧ FinG G (RepV G) W w Q (dSl d lo hi S)
theorem sl_D (cK : G.K = X.K) : SlR X (rSlD G) := by
  have base := (sl_list (X := X)).or ((sl_tupA (X := X)).or (sl_str (X := X)))
  intro pins s σ H x v vl vu lo hi sl Q I rx hs pl pu q
  refine base pins s σ H x v vl vu lo hi sl Q I rx hs pl pu ?_
  obtain ⟨W, w, S, d, rfl, st, r, q⟩ := q
  cases d with
  | lst ds =>
    obtain ⟨a, vs, rfl, f, hh, rs⟩ := r
    exact .inl ⟨a, vs, rfl, .of hh, fun p hp => q (w.frz p _) _ (Ext.frz hp) (st.frz hp) ⟨p, _, rfl, .inr rfl, upd_same, RepVs.mono (Ext.frz hp) st.dj _ _ (cut_rep rs)⟩⟩
  | scr ds =>
    obtain ⟨a, vs, rfl, hh, rs⟩ := r
    exact .inl ⟨a, vs, rfl, sqL_of cK hh, fun p hp => q (w.frz p _) _ (Ext.frz hp) (st.frz hp) ⟨p, _, rfl, .inr rfl, upd_same, RepVs.mono (Ext.frz hp) st.dj _ _ (cut_rep rs)⟩⟩
  | tup ds =>
    obtain ⟨a, vs, rfl, hh, rs⟩ := r
    refine .inr (.inl ⟨a, vs, rfl, sqT_of cK hh, fun hw => ?_, fun _ p hp => ?_⟩)
    · have e : cutD ds lo hi = ds := by
        unfold cutD
        rw [rs.length, hw.1, hw.2, List.drop_zero, Nat.sub_zero, ← rs.length, List.take_length]
      have q : FinG G (RepV G) W w Q (M.pure (.tup (cutD ds lo hi)) S) := q
      rw [e] at q
      exact fin_pure q st ⟨a, vs, rfl, hh, rs⟩
    · exact q (w.frz p _) _ (Ext.frz hp) (st.frz hp) ⟨p, _, rfl, .inl ⟨.inr rfl, .inl upd_same⟩, RepVs.mono (Ext.frz hp) st.dj _ _ (cut_rep rs)⟩
  | str z =>
    cases (show x = .str z from r)
    obtain ⟨c, q⟩ := FinG.ite q
    exact .inr (.inr ⟨z, rfl, by rw [← lim_eq]; exact c, fin_pure q st rfl⟩)
  | _ => exact q.elim
def repO : Wd → Option Int → Option Int → Prop := fun _ a b => b = a
abbrev POV (G : Sg) (X : Cx) (W : WX) (e : Option Expr) (f : List SV → M (Option Int)) : Prop := PO X e (fun σ H Q => teG G repO W f σ H Q)
theorem PO.imp {e : Option Expr} {t t' : TO} (h : PO X e t) (i : ∀ σ H Q, t' σ H Q → t σ H Q) : PO X e t' := ⟨fun p s σ H Q I q => h.run p s σ H Q I (i σ H Q q)⟩
theorem q_none : POV G X W none (fun _ => M.pure none) := by
  refine PO.imp po_none fun σ H Q h => ?_
  obtain ⟨w0, w, sd, S, e, r, q⟩ := h
  subst e
  exact fin_pure q r.st rfl
def toI : D → M (Option Int)
  | .int i => M.pure (some i)
  | _ => M.stuck
theorem q_some {e : Expr} {f : List SV → M D} (h : PV G X W e f) : POV G X W (some e) (fun sd => M.bind (f sd) toI) := by
  refine PO.imp (po_some h) fun σ H Q h => ?_
  obtain ⟨w0, w, sd, S, e, r, q⟩ := h
  refine ⟨w0, w, sd, S, e, r, fin_step q fun w1 S1 d v e1 s1 rv q1 => ?_⟩
  cases d with
  | int i => cases (show v = .int i from rv); exact ⟨i, rfl, fin_pure q1 s1 rfl⟩
  | _ => exact q1.elim
theorem v_slice {e : Expr} {lo hi : Option Expr} {f : List SV → M D} {fl fh : List SV → M (Option Int)} {p2 pos : Pos} (cK : G.K = X.K) (he : PV G X W e f) (hl : POV G X W lo fl) (hh : POV G X W hi fh) :
    PV G X W (.Subscript e (.Slice lo hi none p2) pos) (fun sd => M.bind (f sd) fun d => M.bind (fl sd) fun l => M.bind (fh sd) fun u => dSl d l u) := by
  refine PE.imp (pe_slice (sl_D cK) he hl hh) fun σ H Q h => ?_
  obtain ⟨w0, w, sd, S, e, r, q⟩ := h
  refine ⟨w0, w, sd, S, e, r, fin_step q fun w1 S1 d v e1 s1 rv q1 => ⟨w0, w1, sd, S1, rfl, r.step e1 s1, fin_step q1 fun w2 S2 l l' e2 s2 rl q2 => ⟨w0, w2, sd, S2, rfl, (r.step e1 s1).step e2 s2, fin_step q2 fun w3 S3 u u' e3 s3 ru q3 => ?_⟩⟩⟩
  cases (show l' = l from rl)
  cases (show u' = u from ru)
  exact ⟨_, w3, S3, d, rfl, s3, RepV.mono (e2.trans e3) s1.dj d v rv, q3⟩
def dRev : D → M D
  | .lst ds => M.pure (.lst ds.reverse)
  | .scr ds => M.pure (.lst ds.reverse)
  | _ => M.stuck
theorem v_rev {e : Expr} {f : List SV → M D} {j : Nat} {p1 p2 p3 pos : Pos} (cK : G.K = X.K) (he : PV G X W e f) : PV G X W (.Subscript e (.Slice none none (some (.UnaryOp .USub (.Constant (.int 1) j p1) p2)) p3) pos) (fun sd => M.bind (f sd) dRev) := by
  refine PE.imp (pe_revL he) fun σ H Q h => ?_
  obtain ⟨w0, w, sd, S, e, r, q⟩ := h
  refine ⟨w0, w, sd, S, e, r, fin_step q fun w1 S1 d v e1 s1 rv q1 => ?_⟩
  cases d with
  | lst ds =>
    obtain ⟨a, vs, ev, f, hh, rs⟩ := rv
    exact ⟨a, vs, ev, .of hh, fun p hp => q1 (w1.frz p _) _ (Ext.frz hp) (s1.frz hp) ⟨p, _, rfl, .inr rfl, upd_same, RepVs.mono (Ext.frz hp) s1.dj _ _ rs.reverse⟩⟩
  | scr ds =>
    obtain ⟨a, vs, ev, hh, rs⟩ := rv
    exact ⟨a, vs, ev, sqL_of cK hh, fun p hp => q1 (w1.frz p _) _ (Ext.frz hp) (s1.frz hp) ⟨p, _, rfl, .inr rfl, upd_same, RepVs.mono (Ext.frz hp) s1.dj _ _ rs.reverse⟩⟩
  | _ => exact q1.elim
def dNeg : D → M D
  | .int i => M.pure (.int (-i))
  | _ => M.stuck
theorem v_neg {a : Expr} {f : List SV → M D} {pos : Pos} (ha : PV G X W a f) : PV G X W (.UnaryOp .USub a pos) (fun sd => M.bind (f sd) dNeg) := by
  refine PE.imp (pe_un un_neg ha) fun σ H Q h => ?_
  obtain ⟨w0, w, sd, S, e, r, q⟩ := h
  refine ⟨w0, w, sd, S, e, r, fin_step q fun w1 S1 d v e1 s1 rv q1 => ?_⟩
  cases d with
  | int i => cases (show v = .int i from rv); exact ⟨i, rfl, fin_pure q1 s1 rfl⟩
  | _ => exact q1.elim
def signIn (x z : Str) : Option Bool := match x.cps.toList with
  | [c] => some (decide (c ∈ z.cps.toList))
  | _ => none
def txts : List D → Option (List Str)
  | [] => some []
  | .str x :: ds => (txts ds).map (x :: ·)
  | _ :: _ => none
def dIn (neg : Bool) (d e : D) : M D := match e with
  | .str z => match d with
    | .str x => match signIn x z with
      | some b => M.pure (.bl (if neg then !b else b))
      | none => M.stuck
    | _ => M.stuck
  | .lst ds => match toP d, toPs ds with
    | some p, some ps => if SeqAt.shaped p = true ∧ SeqAt.shaped (.list ps) = true then M.pure (.bl (if neg then !(ps.any fun z => PyData.eqv z p) else ps.any fun z => PyData.eqv z p)) else M.stuck
    | _, _ => M.stuck
  | .tup ds => match d with
    | .str x => match txts ds with
      | some xs => M.pure (.bl (if neg then !xs.contains x else xs.contains x))
      | none => M.stuck
    | _ => M.stuck
  | _ => M.stuck
theorem strs_rep : ∀ {ds : List D} {xs : List Str} {vs : List V}, txts ds = some xs → RepVs G w ds vs → vs = xs.map V.str
  | [], xs, vs, h, r => by unfold txts at h; cases h; exact r
  | .str x :: ds, xs, vs, h, r => by
    unfold txts at h
    obtain ⟨ys, h1, h2⟩ := Option.map_eq_some_iff.mp h
    subst h2
    obtain ⟨v, t, e, h3, h4⟩ := r
    rw [e, strs_rep h1 h4]
    cases (show v = .str x from h3)
    rfl
  | .non :: _, _, _, h, _ => by cases h
  | .bl _ :: _, _, _, h, _ => by cases h
  | .int _ :: _, _, _, h, _ => by cases h
  | .tup _ :: _, _, _, h, _ => by cases h
  | .lst _ :: _, _, _, h, _ => by cases h
  | .scr _ :: _, _, _, h, _ => by cases h
  | .dct _ _ :: _, _, _, h, _ => by cases h
  | .ins _ _ :: _, _, _, h, _ => by cases h
  | .ref _ :: _, _, _, h, _ => by cases h
  | .ty _ :: _, _, _, h, _ => by cases h
  | .cls _ :: _, _, _, h, _ => by cases h
theorem all_flat (xs : List Str) : (xs.map V.str).all flatV = true := by
  rw [List.all_map]
  exact List.all_eq_true.mpr fun _ _ => rfl
theorem inV_strs (x : Str) (xs : List Str) : inV (.str x) (xs.map V.str) = xs.contains x := by
  unfold inV
  induction xs with
  | nil => rfl
  | cons y ys ih =>
    rw [List.map_cons, List.any_cons, ih, List.contains_cons]
    congr 1
    show eqV (.str y) (.str x) = (x == y)
    have : eqV (.str y) (.str x) = (y == x) := by first | rfl | simp [eqV]
    rw [this]
    exact Bool.beq_comm ..
theorem o_in (cK : G.K = X.K) (hr : Rm G.gd k X.A) : OpR X (compareOp .In) (rD2 G (dIn false)) := by
  have hu : X.A.units + 65 < cLine := by have := hr.room.un; omega
  refine OpR.imp (op_in_sign.or ((op_inD hu).or op_in_seq)) fun v u H Q q => ?_
  obtain ⟨W, w, S, d, e, rfl, s, r1, r2, q⟩ := q
  unfold dIn at q
  cases e with
  | str z =>
    cases d with
    | str x =>
      cases (show v = .str x from r1)
      cases (show u = .str z from r2)
      rcases hx : signIn x z with _ | b
      · simp only [hx] at q; exact q.elim
      · simp only [hx] at q
        unfold signIn at hx
        split at hx
        · rename_i c hc
          cases hx
          refine .inl ⟨c, z, ?_, rfl, fin_pure (b := V.bl _) q s rfl⟩
          congr 1
          rcases x with ⟨⟨l⟩⟩
          have : l = [c] := hc
          rw [this]
        · cases hx
    | _ => exact q.elim
  | lst ds =>
    rcases hp : toP d with _ | p
    · simp only [hp] at q; exact q.elim
    · rcases hq : toPs ds with _ | ps
      · simp only [hp, hq] at q; exact q.elim
      · simp only [hp, hq] at q
        obtain ⟨⟨c1, c2⟩, q⟩ := FinG.ite q
        have hl : toP (.lst ds) = some (.list ps) := by show (toPs ds).map _ = _; rw [hq]; rfl
        exact .inr (.inl ⟨p, ps, toP_dp cK d v p r1 hp, toP_dp cK (.lst ds) u (.list ps) r2 hl, c1, c2, fin_pure (b := V.bl _) q s rfl⟩)
  | tup ds =>
    cases d with
    | str x =>
      cases (show v = .str x from r1)
      rcases hx : txts ds with _ | xs
      · simp only [hx] at q; exact q.elim
      · simp only [hx] at q
        obtain ⟨a, vs, e, hh, rs⟩ := r2
        have ev := strs_rep hx rs
        subst ev
        refine .inr (.inr ⟨a, _, e, .inr (sqT_of cK hh), rfl, all_flat xs, ?_⟩)
        have q2 := fin_pure (b := V.bl (xs.contains x)) q s rfl
        rw [inV_strs]
        exact q2
    | _ => exact q.elim
  | _ => exact q.elim
theorem o_notin (cK : G.K = X.K) (hr : Rm G.gd k X.A) : OpR X (compareOp .NotIn) (rD2 G (dIn true)) := by
  have hu : X.A.units + 65 < cLine := by have := hr.room.un; omega
  refine OpR.imp (op_notIn_sign.or ((op_notInD hu).or op_notIn_seq)) fun v u H Q q => ?_
  obtain ⟨W, w, S, d, e, rfl, s, r1, r2, q⟩ := q
  unfold dIn at q
  cases e with
  | str z =>
    cases d with
    | str x =>
      cases (show v = .str x from r1)
      cases (show u = .str z from r2)
      rcases hx : signIn x z with _ | b
      · simp only [hx] at q; exact q.elim
      · simp only [hx] at q
        unfold signIn at hx
        split at hx
        · rename_i c hc
          cases hx
          refine .inl ⟨c, z, ?_, rfl, fin_pure (b := V.bl _) q s rfl⟩
          congr 1
          rcases x with ⟨⟨l⟩⟩
          have : l = [c] := hc
          rw [this]
        · cases hx
    | _ => exact q.elim
  | lst ds =>
    rcases hp : toP d with _ | p
    · simp only [hp] at q; exact q.elim
    · rcases hq : toPs ds with _ | ps
      · simp only [hp, hq] at q; exact q.elim
      · simp only [hp, hq] at q
        obtain ⟨⟨c1, c2⟩, q⟩ := FinG.ite q
        have hl : toP (.lst ds) = some (.list ps) := by show (toPs ds).map _ = _; rw [hq]; rfl
        exact .inr (.inl ⟨p, ps, toP_dp cK d v p r1 hp, toP_dp cK (.lst ds) u (.list ps) r2 hl, c1, c2, fin_pure (b := V.bl _) q s rfl⟩)
  | tup ds =>
    cases d with
    | str x =>
      cases (show v = .str x from r1)
      rcases hx : txts ds with _ | xs
      · simp only [hx] at q; exact q.elim
      · simp only [hx] at q
        obtain ⟨a, vs, e, hh, rs⟩ := r2
        have ev := strs_rep hx rs
        subst ev
        refine .inr (.inr ⟨a, _, e, .inr (sqT_of cK hh), rfl, all_flat xs, ?_⟩)
        have q2 := fin_pure (b := V.bl (!xs.contains x)) q s rfl
        show Q (.bl (if true = true then !inV (.str x) (xs.map V.str) else inV (.str x) (xs.map V.str))) w.H
        rw [inV_strs]
        exact q2
    | _ => exact q.elim
  | _ => exact q.elim
end
end Ev
set_option maxRecDepth 100000
set_option maxHeartbeats 2000000
namespace Ev
open PySem PySem.Spec PyProof.Rows L2
section
variable {G : Sg} {X : Cx} {W : WX} {k : Nat} {w0 w w1 : Wd} {S : List Ob} {sd : List SV} {σ : L2.St}
def chainD (g g' : D → D → M D) (fa fb fc : List SV → M D) : List SV → M D := fun sd => M.bind (fa sd) fun x => M.bind (fb sd) fun y => M.bind (g x y) fun z => M.bind (toB z) fun k => if k = true then M.bind (fc sd) fun u => g' y u else M.pure (.bl false)
theorem toB_bind {α β : Type} {rep : Wd → α → β → Prop} {W' : Value → Option Addr → Hp → Prop} {Q : β → Hp → Prop} {d : D} {v : V} {kk : Bool → M α} (h : FinG G rep W' w Q (M.bind (toB d) kk S)) (r : RepV G w d v) : ∃ b, v = .bl b ∧ FinG G rep W' w Q (kk b S) := by
  cases d with
  | bl b => exact ⟨b, r, h⟩
  | _ => exact False.elim h
theorem chain_read {g g' : D → D → M D} {fa fb fc : List SV → M D} {H : Hp} {Q : VK} (h : teV G W (chainD g g' fa fb fc) σ H Q) : tChain (rD2 G g) (rD2 G g') (teV G W fa) (teV G W fb) (teV G W fc) σ H Q := by
  obtain ⟨w0, w, sd, S, e, r, q⟩ := h
  refine ⟨w0, w, sd, S, e, r, fin_step q fun w1 S1 d v e1 s1 rv q1 => ⟨w0, w1, sd, S1, rfl, r.step e1 s1, fin_step q1 fun w2 S2 d2 v2 e2 s2 rv2 q2 => ?_⟩⟩
  refine ⟨_, w2, S2, d, d2, rfl, s2, RepV.mono e2 s1.dj d v rv, rv2, fin_step q2 fun w3 S3 z vz e3 s3 rz q3 => ?_⟩
  obtain ⟨b, ev, q4⟩ := toB_bind q3 rz
  refine ⟨b, ev, ?_⟩
  cases b with
  | false => exact fin_pure (b := V.bl false) q4 s3 rfl
  | true =>
    refine ⟨w0, w3, sd, S3, rfl, ((r.step e1 s1).step e2 s2).step e3 s3, fin_step q4 fun w4 S4 d4 v4 e4 s4 rv4 q5 => ?_⟩
    exact ⟨_, w4, S4, d2, d4, rfl, s4, RepV.mono (e3.trans e4) s2.dj d2 v2 rv2, rv4, q5⟩
theorem marks_of {op op' : CmpOp} {b c : Expr} (h : behindInMarks op' c = false) : lastMarks [op, op'] [b, c] = false := h
theorem v_chain' {op op' : CmpOp} {g g' : D → D → M D} {a b c : Expr} {fa fb fc : List SV → M D} {pos : Pos} (ho : OpR X (compareOp op) (rD2 G g)) (ho' : OpR X (compareOp op') (rD2 G g')) (ha : PV G X W a fa) (hb : PV G X W b fb) (hc : PV G X W c fc)
    (hm : behindInMarks op' c = false) : PV G X W (.Compare a [op, op'] [b, c] pos) (chainD g g' fa fb fc) := PE.imp (pe_chain ho ho' ha hb hc (marks_of hm)) fun σ H Q h => chain_read h
theorem b_chain {op op' : CmpOp} {g g' : D → D → M D} {a b c : Expr} {fa fb fc : List SV → M D} {pos : Pos} (ho : OpR X (compareOp op) (rD2 G g)) (ho' : OpR X (compareOp op') (rD2 G g')) (ha : PV G X W a fa) (hb : PV G X W b fb) (hc : PV G X W c fc)
    (hm : behindInMarks op' c = false) : PB G X W (.Compare a [op, op'] [b, c] pos) (fun sd => M.bind (chainD g g' fa fb fc sd) toB) := by
  refine PT.imp (pt_chain ho ho' ha hb hc (marks_of hm)) fun σ H Q h => ?_
  obtain ⟨w0, w, sd, S, e, r, q⟩ := h
  exact chain_read ⟨w0, w, sd, S, e, r, fin_step q fun w1 S1 d v e1 s1 rv q1 => toB_fin q1 s1 rv⟩
def isStr : D → M Str
  | .str x => M.pure x
  | _ => M.stuck
def subT (a b : TyN) : Bool := a = b || (a = .bool && b = .int)
theorem kitT {K : PySem.W.Frag} (a b : TyN) : PySem.W.kitOne K (.type a.name) (.type b.name) = some (subT a b) := by
  cases a <;> cases b <;> exact kit_ty (by decide +kernel)
structure ClsT (X : Cx) (G : Sg) (known : Nat → Bool) (sub : Nat → Nat → Option Bool) : Prop where
  cl : ∀ c, known c = true → Cls X.K (G.ca c) ∧ PySem.W.findIn X.K (.ref (G.ca c)) "__class__" = some (some (.builtin "object.__class__")) ∧ PySem.W.mroIn X.K (G.ca c) (.type "object") = some true
  hn : PySem.W.specialIn X.K (.builtin "object.__class__") "__get__" = some (some (.builtin "getset_descriptor.__get__"))
  ht : PySem.W.takesIn X.K (.builtin "object.__class__") = some true
  cc : ∀ c c' b, sub c c' = some b → PySem.W.kitOne X.K (.ref (G.ca c)) (.ref (G.ca c')) = some b
  ct : ∀ c t, known c = true → PySem.W.kitOne X.K (.ref (G.ca c)) (.type (TyN.name t)) = some false
  tc : ∀ t c, known c = true → PySem.W.kitOne X.K (.type (TyN.name t)) (.ref (G.ca c)) = some false
def tyOf (d : D) : M (Sum TyN Nat) := fun S => match d with
  | .non => some (.ok (.inl .none_), S)
  | .bl _ => some (.ok (.inl .bool), S)
  | .int _ => some (.ok (.inl .int), S)
  | .str _ => some (.ok (.inl .str), S)
  | .tup _ => some (.ok (.inl .tuple), S)
  | .lst _ => some (.ok (.inl .list), S)
  | .scr _ => some (.ok (.inl .list), S)
  | .dct _ _ => some (.ok (.inl .dict), S)
  | .ins c _ => some (.ok (.inr c), S)
  | .ref n => match S[n]? with
    | some (.lst _) => some (.ok (.inl .list), S)
    | some (.dct _ _) => some (.ok (.inl .dict), S)
    | some (.ins c _) => some (.ok (.inr c), S)
    | none => none
  | _ => none
def isaD (known : Nat → Bool) (sub : Nat → Nat → Option Bool) (t : Sum TyN Nat) : D → Option Bool
  | .ty b => match t with
    | .inl a => some (subT a b)
    | .inr c => if known c = true then some false else none
  | .cls c' => match t with
    | .inl _ => if known c' = true then some false else none
    | .inr c => if known c = true then sub c c' else none
  | _ => none
def dIsa (known : Nat → Bool) (sub : Nat → Nat → Option Bool) (d e : D) : M D := M.bind (tyOf d) fun t => match isaD known sub t e with
  | some b => M.pure (.bl b)
  | none => M.stuck
def tyV' (G : Sg) : Sum TyN Nat → Value
  | .inl t => .type t.name
  | .inr c => .ref (G.ca c)
theorem tyOf_rep {d : D} {v : V} {t : Sum TyN Nat} {S' : List Ob} {known : Nat → Bool} {sub : Nat → Nat → Option Bool} (cK : G.K = X.K) (T : ClsT X G known sub) (s : RepS G w S) (r : RepV G w d v) (h : tyOf d S = some (.ok t, S')) (hk : ∀ c, t = .inr c → known c = true) : S' = S ∧ TyX X.K w.H v (tyV' G t) := by
  have insX : ∀ {a dx : Addr} {fs : List (Str × V)} {c : Nat}, w.H a = some (.ins (G.ca c) dx fs) → known c = true → TyX X.K w.H (.ref a) (.ref (G.ca c)) := fun e hc => by
    obtain ⟨h1, h2, h3⟩ := T.cl _ hc
    exact .base (.ins e h1 h2 T.hn T.ht h3)
  unfold tyOf at h
  cases d with
  | non => cases h; cases (show v = .non from r); exact ⟨rfl, .base .non⟩
  | bl b => cases h; cases (show v = .bl b from r); exact ⟨rfl, .base (.bl b)⟩
  | int b => cases h; cases (show v = .int b from r); exact ⟨rfl, .base (.int b)⟩
  | str b => cases h; cases (show v = .str b from r); exact ⟨rfl, .base (.str b)⟩
  | tup ds =>
    cases h
    obtain ⟨a, vs, e, hh, rs⟩ := r
    subst e
    rcases hh with ⟨_, hh | ⟨o, hh⟩⟩ | ⟨o, its, n, h1, h2, _⟩
    · exact ⟨rfl, .base (.tup hh)⟩
    · exact ⟨rfl, .fTuple hh⟩
    · exact ⟨rfl, .kTuple (by rw [← cK]; exact h1) h2⟩
  | lst ds =>
    cases h
    obtain ⟨a, vs, e, f, hh, rs⟩ := r
    subst e
    exact ⟨rfl, .base (.lst hh)⟩
  | scr ds =>
    cases h
    obtain ⟨a, vs, e, hh, rs⟩ := r
    subst e
    rcases hh with ⟨_, hh | ⟨o, hh⟩⟩ | ⟨o, its, n, h1, h2, _⟩
    · exact ⟨rfl, .base (.lst hh)⟩
    · exact ⟨rfl, .base (.frz hh)⟩
    · exact ⟨rfl, .kList (by rw [← cK]; exact h1) h2⟩
  | dct ks ds =>
    cases h
    obtain ⟨a, vs, e, f, hh, _⟩ := r
    subst e
    exact ⟨rfl, .base (.dK hh)⟩
  | ins c ds =>
    cases h
    obtain ⟨a, dx, vs, e, f, hh, _⟩ := r
    subst e
    exact ⟨rfl, insX hh (hk c rfl)⟩
  | ref n =>
    obtain ⟨a, e, hm⟩ := r
    subst e
    rcases hn : S[n]? with _ | ⟨ds | ⟨ks, ds⟩ | ⟨c, ds⟩⟩
    · simp only [hn] at h; cases h
    · simp only [hn] at h
      cases h
      obtain ⟨vs, hh, _⟩ := s.ob n a _ hm hn
      exact ⟨rfl, .base (.lst hh)⟩
    · simp only [hn] at h
      cases h
      obtain ⟨vs, hh, _⟩ := s.ob n a _ hm hn
      exact ⟨rfl, .base (.dK hh)⟩
    · simp only [hn] at h
      cases h
      obtain ⟨dx, vs, hh, _⟩ := s.ob n a _ hm hn
      exact ⟨rfl, insX hh (hk c rfl)⟩
  | ty t => cases h
  | cls c => cases h
theorem tyOf_noerr {d : D} {S' : List Ob} {x : Exn} : tyOf d S ≠ some (.error x, S') := by
  intro h
  unfold tyOf at h
  cases d with
  | ref n => rcases hn : S[n]? with _ | ⟨ds | ⟨ks, ds⟩ | ⟨c, ds⟩⟩ <;> simp [hn] at h
  | _ => simp at h
theorem c_isa {known : Nat → Bool} {sub : Nat → Nat → Option Bool} (cK : G.K = X.K) (T : ClsT X G known sub) : CallR X (.builtin "isinstance") (rDs G (on2 (dIsa known sub))) := by
  refine CallR.imp call_isi fun vs H Q h => ?_
  obtain ⟨W, w, S, d, e, v, u, rfl, s, rfl, r, r', q⟩ := on2_of h
  unfold dIsa M.bind at q
  rcases ht : tyOf d S with _ | ⟨x | t, S2⟩
  · rw [ht] at q; exact q.elim
  · exact absurd ht tyOf_noerr
  · rw [ht] at q
    simp only at q
    rcases hi : isaD known sub t e with _ | b
    · simp only [hi] at q; exact q.elim
    · simp only [hi] at q
      have hk : ∀ c, t = .inr c → known c = true := fun c e2 => by
        subst e2
        unfold isaD at hi
        cases e with
        | ty b => by_cases hc : known c = true
                  · exact hc
                  · simp [hc] at hi
        | cls c' => by_cases hc : known c = true
                    · exact hc
                    · simp [hc] at hi
        | _ => simp at hi
      obtain ⟨rfl, ty⟩ := tyOf_rep cK T s r ht hk
      have kit : ∃ c, ClsV u c ∧ PySem.W.kitOne X.K (tyV' G t) c = some b := by
        unfold isaD at hi
        cases e with
        | ty y =>
          cases (show u = .ty y.name from r')
          refine ⟨.type y.name, .ty _, ?_⟩
          rcases t with a | c
          · simp only [Option.some.injEq] at hi
            subst hi
            exact kitT a y
          · have hc := hk c rfl
            simp only [hc, if_true, Option.some.injEq] at hi
            subst hi
            exact T.ct c y hc
        | cls c' =>
          cases (show u = .ref (G.ca c') from r')
          refine ⟨.ref (G.ca c'), .own _, ?_⟩
          rcases t with a | c
          · by_cases hc : known c' = true
            · simp only [hc, if_true, Option.some.injEq] at hi
              subst hi
              exact T.tc a c' hc
            · simp [hc] at hi
          · have hc := hk c rfl
            simp only [hc, if_true] at hi
            exact T.cc c c' b hi
        | _ => simp at hi
      obtain ⟨cc, h1, h2⟩ := kit
      exact ⟨v, u, tyV' G t, cc, b, rfl, h1, ty, h2, fin_pure q s rfl⟩
end
end Ev
set_option maxRecDepth 100000
set_option maxHeartbeats 2000000
namespace Ev
open PySem PySem.Spec PyProof.Rows L2
def FnS (P : Program) (w : World) (K : PySem.W.Frag) (mg : Str → Option Value) (base : Heap) (b : Bool) (k : Nat) (f : Addr) (sp : Sp) : Prop :=
  ∀ (A : Around) (fr : List Env) (s : Shared) (H : Hp) (us : List Value) (vs : List V) (Q : VK) (E : XK),
    Rm b k A → Env0 P w K mg base A fr s H → Vals vs us → sp vs H Q E → codeAny (model P w) A (.call (.ref f) ⟨us, []⟩) (CR (L2.CX P w) fr P w H s Q E) s
def finR : Option (Out × List Ob) → Option (Except Exn D × List Ob)
  | some (.next _, S) => some (.ok .non, S)
  | some (.ret d, S) => some (.ok d, S)
  | some (.err e _, S) => some (.error e, S)
  | _ => none
def slots (n : Nat) (sv : List SV) : List SV := sv ++ List.replicate (n - sv.length) .no
def runFn (m n : Nat) (ms : MS) : List D → M D := fun ds S => if ds.length = m then finR (ms (slots n (ds.map .val)) S) else none
def mkR (c : Nat) : Option (Out × List Ob) → Option (Except Exn D × List Ob)
  | some (.next sd, S) => match sd[0]? with
    | some (SV.own (Ob.ins c' es)) => if c' = c then some (.ok (.ins c es), S) else none
    | _ => none
  | some (.err e _, S) => some (.error e, S)
  | _ => none
def mkFn (c m n : Nat) (ms : MS) : List D → M D := fun ds S => if ds.length + 1 = m then mkR c (ms (slots n (.own (.ins c []) :: ds.map .val)) S) else none
def mkStar (c m n : Nat) (ms : MS) : List D → M D := fun ds => if m ≤ ds.length + 1 ∧ ds.length + 1 < m + lim then mkFn c (m + 1) n ms (ds.take (m - 1) ++ [.tup (ds.drop (m - 1))]) else M.stuck
section
variable {P : Program} {w : World} {K : PySem.W.Frag} {mg : Str → Option Value} {base : Heap} {G : Sg} {k : Nat} {f : Addr} {x qual : Str} {st : Stmt} {fd : FuncData} {N ps : List Str} {ms : MS}
abbrev XF (P : Program) (w : World) (K : PySem.W.Frag) (mg : Str → Option Value) (base : Heap) (N : List Str) (qual : Str) (st : Stmt) (f : Addr) (cdv : Value) (A : Around) (fr : List Env) (s : Shared) (H : Hp) (E : XK) : Cx :=
  cxOf (L2.CX P w) P w K mg base N qual (defScope st) f cdv A fr s H E
abbrev WF (E : XK) : WX := fun c d _ H => E c d H
def Body (P : Program) (w : World) (K : PySem.W.Frag) (mg : Str → Option Value) (base : Heap) (G : Sg) (k : Nat) (f : Addr) (N : List Str) (qual : Str) (st : Stmt) (ms : MS) : Prop :=
  ∀ (cdv : Value) (A : Around) (fr : List Env) (s : Shared) (H : Hp) (E : XK), Ctx G (XF P w K mg base N qual st f cdv A fr s H E) (WF E) k → PSsV G (XF P w K mg base N qual st f cdv A fr s H E) (WF E) (defBody st) ms
def spT (G : Sg) (N : List Str) (ms : MS) : Sp := fun vs H Q E => tsV G (WF E) ms { nx := fun _ H' => Q .non H', rt := Q } (start N vs) H
theorem ctxF (cK : G.K = K) (SC : FnScope N ps (defScope st)) {cdv : Value} {A : Around} {fr : List Env} {s : Shared} {H : Hp} {E : XK} (hr : Rm G.gd (k + 1) (A.deeper (envOfC qual (defScope st) s.heap.objs.size f cdv))) :
    Ctx G (XF P w K mg base N qual st f cdv A fr s H E) (WF E) k := ⟨cK, rfl, hr, SC.nd, fun σ => L2.passAt (L2.takes_of rfl rfl rfl rfl) σ, L2.passes_of rfl⟩
theorem fns_rule (F : Fun K x qual st f fd) (SC : FnScope N ps (defScope st)) (hb : Binds K fd ps []) (cK : G.K = K) (B : Body P w K mg base G k f N qual st ms) :
    FnS P w K mg base G.gd (k + 2) f (fun vs H Q E => vs.length = ps.length ∧ spT G N ms vs H Q E) := by
  obtain ⟨oc, od, kV, doc, pm, an, cdv, ct, osl, rfl, lk, hcd⟩ := F.ex
  have g := gn_of (sp := fun vs H Q E => vs.length = ps.length ∧ spT G N ms vs H Q E) (P := P) (w := w) (mg := mg) (base := base) (k := k + 1) lk hcd SC (fun _ _ _ _ z => z.1) (fun A fr s H vs Q E hr hsp => ⟨_, B cdv A fr s H E (ctxF cK SC hr), hsp.2⟩)
  intro A fr s H us vs Q E hr e0 r h
  have inK : K.In s.heap := e0.mod.kin.keeps fun b o e => (e0.bs b o e).1
  have b2 := hb s us inK (by rw [List.append_nil, ← r.length]; exact h.1)
  rw [List.append_nil] at b2
  exact g.run A fr s H ⟨us, []⟩ us vs Q E hr e0 b2 r h
theorem slots_val {n i : Nat} {ds : List D} {d : D} (h : (slots n (ds.map .val))[i]? = some (.val d)) : ds[i]? = some d := by
  unfold slots at h
  by_cases l : i < (ds.map SV.val).length
  · rw [List.getElem?_append_left l, List.getElem?_map] at h
    cases e : ds[i]? with
    | none => rw [e] at h; cases h
    | some y => rw [e] at h; cases h; rfl
  · rw [List.getElem?_append_right (Nat.le_of_not_lt l), List.getElem?_replicate] at h
    split at h <;> cases h
theorem slots_own {n i : Nat} {ds : List D} {o : Ob} (h : (slots n (ds.map .val))[i]? = some (.own o)) : False := by
  unfold slots at h
  by_cases l : i < (ds.map SV.val).length
  · rw [List.getElem?_append_left l, List.getElem?_map] at h
    cases e : ds[i]? with
    | none => rw [e] at h; cases h
    | some y => rw [e] at h; cases h
  · rw [List.getElem?_append_right (Nat.le_of_not_lt l), List.getElem?_replicate] at h
    split at h <;> cases h
theorem start_get {vs : List V} {i : Nat} {v : V} (h : vs[i]? = some v) : (start N vs)[i]? = some (some v) := by
  unfold L2.start
  have l : i < vs.length := (List.getElem?_eq_some_iff.mp h).1
  rw [List.getElem?_append_left (by simpa using l), List.getElem?_map, h]
  rfl
theorem start_len {vs : List V} (h : vs.length ≤ N.length) : (start N vs).length = N.length := by
  unfold L2.start
  rw [List.length_append, List.length_map, List.length_replicate]
  omega
theorem slots_len {n : Nat} {sv : List SV} (h : sv.length ≤ n) : (slots n sv).length = n := by
  unfold slots
  rw [List.length_append, List.length_replicate]
  omega
theorem R.enter {wd : Wd} {ds : List D} {vs : List V} {S : List Ob} (s : RepS G wd S) (r : RepVs G wd ds vs) (h : ds.length ≤ N.length) : R G wd wd (slots N.length (ds.map .val)) S (start N vs) := by
  refine ⟨Ext.refl wd, s, ?_, fun i d e => ?_, fun i o e => (slots_own e).elim, fun i j o o' a e => (slots_own e).elim, fun a o _ e => (slots_own e).elim⟩
  · rw [start_len (by rw [← r.length]; exact h), slots_len (by simpa using h)]
  · obtain ⟨v, h1, h2⟩ := r.get (slots_val e)
    exact ⟨v, start_get h1, h2⟩
theorem fin_body {wd : Wd} {ds : List D} {vs : List V} {S : List Ob} {H : Hp} {Q : VK} {E : XK} (eH : wd.H = H) (s : RepS G wd S) (r : RepVs G wd ds vs) (h : ds.length ≤ N.length) (q : FinG G (RepV G) E wd Q (finR (ms (slots N.length (ds.map .val)) S))) : spT G N ms vs H Q E := by
  refine ⟨wd, wd, _, S, eH, R.enter s r h, ?_⟩
  rcases hm : ms (slots N.length (ds.map .val)) S with _ | ⟨_ | _ | _ | _ | _, S1⟩
  · rw [hm] at q; exact q
  · rw [hm] at q
    exact fun w' σ' _ r' => q w' .non r'.ex r'.st rfl
  · rw [hm] at q
    exact fun w' v e s' rv => q w' v e s' rv
  · rw [hm] at q; exact q.elim
  · rw [hm] at q; exact q.elim
  · rw [hm] at q
    exact fun w' σ' cls y _ r' rx => q w' cls y r'.ex r'.st rx
theorem fna_rule (F : Fun K x qual st f fd) (SC : FnScope N ps (defScope st)) (hb : Binds K fd ps []) (cK : G.K = K) (B : Body P w K mg base G k f N qual st ms) {m n : Nat} (em : ps.length = m) (en : N.length = n) (hmn : m ≤ n) :
    FnA P w K mg base G (k + 2) f (runFn m n ms) := by
  have z := fns_rule (P := P) (w := w) (mg := mg) (base := base) F SC hb cK B
  refine ⟨fun A fr s H us vs Q E hr e0 r ⟨wd, ds, S, eH, rs, rv, q⟩ => z A fr s H us vs Q E hr e0 r ?_, F.kp⟩
  unfold runFn at q
  split at q
  · next e =>
    subst em en
    exact ⟨by rw [← rv.length]; exact e, fin_body eH rs rv (by omega) q⟩
  · exact q.elim
theorem fns_starred {pv : Str} (F : Fun K x qual st f fd) (SC : FnScope N (ps ++ [pv]) (defScope st)) (cK : G.K = K) (B : Body P w K mg base G k f N qual st ms)
    (hb : ∀ (kV doc pm : Value) (an : Option Addr) (cdv ct : Value) (us rest : List Value), us.length = ps.length → bindArgs (PySem.W.fnOf x qual (defArgs st) (defBody st) (defScope st) .none kV doc pm an cdv ct) ⟨us ++ rest, []⟩ = (newTuple rest >>= fun t => pure (ps.zip us ++ [(pv, t)]))) :
    FnS P w K mg base G.gd (k + 2) f (fun vs H Q E => ∃ ws more, vs = ws ++ more ∧ ws.length = ps.length ∧ more.length ≤ sizeLine ∧ ∀ p, H p = none → spT G N ms (ws ++ [V.ref p]) (upd H p (.tup more)) Q E) := by
  obtain ⟨oc, od, kV, doc, pm, an, cdv, ct, osl, rfl, lk, hcd⟩ := F.ex
  rintro A fr s H us vs Q E hr e0 r ⟨ws, more, rfl, lw, lm, q⟩
  obtain ⟨u1, u2, rfl, r1, r2⟩ := StX.vals_split r
  have free : H s.heap.objs.size = none := e0.hok.fresh (Nat.le_refl _)
  refine StX.run_bnd (CX := L2.CX P w) (k := k + 1) lk hcd SC hr.room e0 (G := fun xs H2 => ∃ p, H p = none ∧ xs = ws ++ [V.ref p] ∧ H2 = upd H p (.tup more)) ?_ ?_
  · intro A' Ex Q' h
    have l1 : u1.length = ps.length := r1.length.symm.trans lw
    have l2 : u2.length ≤ sizeLine := r2.length ▸ lm
    rw [hb _ _ _ _ _ _ u1 u2 l1]
    refine wpAny_bind (wpAny_newTuple (wpAny_pure ?_) l2)
    have made : ObjOk P w (upd H s.heap.objs.size (.tup more)) (s.heap.push { cls := .type "tuple", data := .seq u2.toArray }) s.heap.objs.size (.tup more) := ⟨lm, u2, r2, _, Heap.get?_push_size _ rfl, rfl, _, rfl⟩
    have keep := StX.un_laid (fs := frs fr) (o := ({ cls := .type "tuple", data := .seq u2.toArray } : Obj)) (u := .tup more) free
    have got := h _ _ (ws ++ [V.ref s.heap.objs.size]) (u1 ++ [Value.ref s.heap.objs.size]) (StX.env0_laid e0 made) keep rfl (fun e s' => StX.cxUp fr s H _ _ E e s' keep (fun b o y => Heap.get?_push_of_some _ y) rfl)
      (r1.append (.cons rfl .nil)) (by simp [lw]) ⟨_, free, rfl, rfl⟩
    rwa [List.zip_append l1.symm] at got
  · rintro s2 H2 xs ⟨p, hp, rfl, rfl⟩ hr2
    exact ⟨_, B cdv A fr s2 _ E (ctxF cK SC ⟨hr2, hr.gd⟩), q p hp⟩
theorem rep_tail {wd : Wd} : ∀ (m : Nat) {ds : List D} {vs : List V}, RepVs G wd ds vs → m ≤ ds.length → ∃ a b, vs = a ++ b ∧ a.length = m ∧ RepVs G wd (ds.take m) a ∧ RepVs G wd (ds.drop m) b := fun m ds vs r h =>
  ⟨vs.take m, vs.drop m, (List.take_append_drop m vs).symm, by rw [List.length_take, ← r.length]; omega, r.take m, r.drop m⟩
end
end Ev
set_option maxRecDepth 100000
set_option maxHeartbeats 2000000
namespace Ev
open PySem PySem.Spec PyProof.Rows L2
def spN (G : Sg) (c : Nat) (sem : List D → M D) : Sp := fun vs' H' Q' E => ∃ (x dx : Addr) (vs : List V) (H : Hp) (Q : VK), vs' = V.ref x :: vs ∧ H' = upd (upd H dx (.own x)) x (.ins (G.ca c) dx []) ∧ H x = none ∧ H dx = none ∧ dx ≠ x ∧
  (Q' = fun v H2 => v = V.non ∧ Q (.ref x) H2) ∧ spV G sem vs H Q E
structure ClA (P : Program) (w : World) (K : PySem.W.Frag) (mg : Str → Option Value) (base : Heap) (G : Sg) (k c : Nat) (sem : List D → M D) : Prop where
  ex : ∃ f, Mk K (G.ca c) f ∧ FnS P w K mg base G.gd k f (spN G c sem)
theorem ClA.mono {P : Program} {w : World} {K : PySem.W.Frag} {mg : Str → Option Value} {base : Heap} {G : Sg} {j k c : Nat} {sem : List D → M D} (F : ClA P w K mg base G j c sem) (h : j ≤ k) : ClA P w K mg base G k c sem :=
  ⟨let ⟨f, M, g⟩ := F.ex; ⟨f, M, fun A fr s H us vs Q E hr => g A fr s H us vs Q E (hr.mono h)⟩⟩
section
variable {P : Program} {w : World} {K : PySem.W.Frag} {mg : Str → Option Value} {base : Heap} {G : Sg} {k c : Nat} {f : Addr} {x qual : Str} {st : Stmt} {fd : FuncData} {N ps : List Str} {ms : MS}
theorem R.enterI {wd w1 : Wd} {ds : List D} {vs : List V} {S : List Ob} {a dx : Addr} (e : Ext wd w1) (s : RepS G w1 S) (r : RepVs G w1 ds vs) (h : ds.length + 1 ≤ N.length) (ha : w1.H a = some (.ins (G.ca c) dx [])) (nF : ¬ w1.F a) (nm : a ∉ w1.m) (n0 : wd.H a = none) :
    R G { wd with x := some a } w1 (slots N.length (.own (.ins c []) :: ds.map .val)) S (L2.start N (V.ref a :: vs)) := by
  have hd : ∀ {i : Nat} {y : SV}, (slots N.length (SV.own (.ins c []) :: ds.map .val))[i]? = some y → (i = 0 ∧ y = .own (.ins c [])) ∨ (∃ j, i = j + 1 ∧ (slots (N.length - 1) (ds.map SV.val))[j]? = some y) := fun {i y} z => by
    cases i with
    | zero =>
      refine .inl ⟨rfl, ?_⟩
      unfold slots at z
      simp at z
      exact z.symm
    | succ j =>
      refine .inr ⟨j, rfl, ?_⟩
      unfold slots at z ⊢
      have e1 : N.length - (SV.own (Ob.ins c []) :: ds.map SV.val).length = N.length - 1 - (ds.map SV.val).length := by
        rw [List.length_cons]
        omega
      rw [e1, List.cons_append, List.getElem?_cons_succ] at z
      exact z
  have s0 : (L2.start N (V.ref a :: vs))[0]? = some (some (V.ref a)) := start_get rfl
  refine ⟨⟨e.m, e.F, e.H, e.nm, e.nF, e.al⟩, s, ?_, fun i d z => ?_, fun i o z => ?_, fun i j o o' b z1 z2 _ _ => ?_, fun b o eb z => ?_⟩
  · have l : vs.length = ds.length := r.length.symm
    rw [start_len (by rw [List.length_cons, l]; exact h), slots_len (by rw [List.length_cons, List.length_map]; exact h)]
  · rcases hd z with ⟨_, e2⟩ | ⟨j, rfl, z2⟩
    · cases e2
    · obtain ⟨v, h1, h2⟩ := r.get (slots_val z2)
      exact ⟨v, start_get (by rw [List.getElem?_cons_succ]; exact h1), h2⟩
  · rcases hd z with ⟨rfl, e2⟩ | ⟨j, rfl, z2⟩
    · cases e2
      exact ⟨a, s0, ⟨dx, [], by rw [List.zip_nil_right]; exact ha, Nat.zero_le _, rfl⟩, nF, nm, n0⟩
    · exact (slots_own z2).elim
  · rcases hd z1 with ⟨e1, _⟩ | ⟨j1, _, z1⟩
    · rcases hd z2 with ⟨e2, _⟩ | ⟨j2, _, z2⟩
      · rw [e1, e2]
      · exact (slots_own z2).elim
    · exact (slots_own z1).elim
  · cases eb
    exact s0
theorem fin_mk {wd w1 : Wd} {ds : List D} {vs : List V} {S : List Ob} {a dx : Addr} {Q : VK} {E : XK} (e : Ext wd w1) (s : RepS G w1 S) (r : RepVs G w1 ds vs) (h : ds.length + 1 ≤ N.length) (ha : w1.H a = some (.ins (G.ca c) dx [])) (nF : ¬ w1.F a) (nm : a ∉ w1.m) (n0 : wd.H a = none)
    (q : FinG G (RepV G) E wd Q (mkR c (ms (slots N.length (.own (.ins c []) :: ds.map .val)) S))) : spT G N ms (V.ref a :: vs) w1.H (fun v H2 => v = .non ∧ Q (.ref a) H2) E := by
  refine ⟨{ wd with x := some a }, w1, _, S, rfl, R.enterI e s r h ha nF nm n0, ?_⟩
  rcases hm : ms (slots N.length (.own (.ins c []) :: ds.map .val)) S with _ | ⟨sd | _ | _ | _ | _, S1⟩
  · rw [hm] at q; exact q
  · rw [hm] at q
    intro w' σ' _ r'
    have ex : Ext wd w' := ⟨r'.ex.m, r'.ex.F, r'.ex.H, r'.ex.nm, r'.ex.nF, r'.ex.al⟩
    unfold mkR at q
    simp only at q
    rcases hs : sd[0]? with _ | _ | _ | ⟨_ | _ | ⟨c', es⟩⟩
    · rw [hs] at q; exact q.elim
    · rw [hs] at q; exact q.elim
    · rw [hs] at q; exact q.elim
    · rw [hs] at q; exact q.elim
    · rw [hs] at q; exact q.elim
    · rw [hs] at q
      simp only at q
      split at q
      · next ec =>
        subst ec
        obtain ⟨b, hb, ho, bF, bm, b0⟩ := r'.ow 0 _ hs
        have hb2 := r'.sf a _ rfl hs
        rw [hb] at hb2
        cases hb2
        obtain ⟨dx', vs', h1, h2, h3⟩ := id ho
        refine ⟨rfl, q (w'.fz a) (.ref a) (Ext.fz ex n0) (r'.st.fz bm ho.there) ⟨a, dx', vs', rfl, .inr rfl, h1, h2, RepVs.stay Stay.fz _ _ h3⟩⟩
      · exact q.elim
  · rw [hm] at q; exact q.elim
  · rw [hm] at q; exact q.elim
  · rw [hm] at q; exact q.elim
  · rw [hm] at q
    exact fun w' σ' cls y _ r' rx => q w' cls y ⟨r'.ex.m, r'.ex.F, r'.ex.H, r'.ex.nm, r'.ex.nF, r'.ex.al⟩ r'.st rx
theorem made {wd : Wd} {S : List Ob} {a dx C : Addr} (s : RepS G wd S) (ha : wd.H a = none) (hdx : wd.H dx = none) (ne : dx ≠ a) :
    ∃ w1 : Wd, w1.H = upd (upd wd.H dx (.own a)) a (.ins C dx []) ∧ Ext wd w1 ∧ RepS G w1 S ∧ ¬ w1.F a ∧ a ∉ w1.m := by
  have ha2 : (wd.new dx (.own a)).H a = none := by
    show upd wd.H dx _ a = none
    rw [upd_ne (fun e => ne e.symm)]
    exact ha
  exact ⟨(wd.new dx (.own a)).new a (.ins C dx []), rfl, (Ext.new hdx).trans (Ext.new ha2), (s.new hdx).new ha2, fun z => s.fh a z ha, fun z => s.there z ha⟩
theorem cla_rule (F : Fun K x qual st f fd) (SC : FnScope N ps (defScope st)) (hb : Binds K fd ps []) (cK : G.K = K) (B : Body P w K mg base G k f N qual st ms) (M : Mk K (G.ca c) f) {m n : Nat} (em : ps.length = m) (en : N.length = n) (hmn : m ≤ n) :
    ClA P w K mg base G (k + 2) c (mkFn c m n ms) := by
  have z := fns_rule (P := P) (w := w) (mg := mg) (base := base) F SC hb cK B
  refine ⟨f, M, fun A fr s H us vs Q E hr e0 r h => z A fr s H us vs Q E hr e0 r ?_⟩
  obtain ⟨a, dx, vs, H, Q, rfl, rfl, ha, hdx, ne, rfl, wd, ds, S, eH, rs, rv, q⟩ := h
  subst em en eH
  obtain ⟨w1, e1, ex, s1, nF, nm⟩ := made (C := G.ca c) rs ha hdx ne
  unfold mkFn at q
  split at q
  · next e =>
    refine ⟨by rw [List.length_cons, ← rv.length]; exact e, ?_⟩
    rw [← e1]
    exact fin_mk ex s1 (RepVs.mono ex rs.dj _ _ rv) (by omega) (by rw [e1, upd_same]) nF nm ha q
  · exact q.elim
theorem cla_star {pv : Str} (F : Fun K x qual st f fd) (SC : FnScope N (ps ++ [pv]) (defScope st)) (cK : G.K = K) (B : Body P w K mg base G k f N qual st ms)
    (hb : ∀ (kV doc pm : Value) (an : Option Addr) (cdv ct : Value) (us rest : List Value), us.length = ps.length → bindArgs (PySem.W.fnOf x qual (defArgs st) (defBody st) (defScope st) .none kV doc pm an cdv ct) ⟨us ++ rest, []⟩ = (newTuple rest >>= fun t => pure (ps.zip us ++ [(pv, t)])))
    (M : Mk K (G.ca c) f) {m n : Nat} (em : ps.length = m) (en : N.length = n) (hmn : m + 1 ≤ n) (hm1 : 1 ≤ m) : ClA P w K mg base G (k + 2) c (mkStar c m n ms) := by
  have z := fns_starred (P := P) (w := w) (mg := mg) (base := base) F SC cK B hb
  refine ⟨f, M, fun A fr s H us vs Q E hr e0 r h => z A fr s H us vs Q E hr e0 r ?_⟩
  obtain ⟨a, dx, vs, H, Q, rfl, rfl, ha, hdx, ne, rfl, wd, ds, S, eH, rs, rv, q⟩ := h
  subst eH
  unfold mkStar at q
  obtain ⟨hl, q⟩ := FinG.ite q
  obtain ⟨v1, v2, e, l1, r1, r2⟩ := rep_tail (m - 1) rv (by omega)
  subst e
  have l2 : v2.length < lim := by
    rw [← r2.length, List.length_drop]
    omega
  obtain ⟨w1, e1, ex, s1, nF, nm⟩ := made (C := G.ca c) rs ha hdx ne
  refine ⟨V.ref a :: v1, v2, rfl, by rw [List.length_cons, em, l1]; omega, by rw [lim_eq] at l2; exact Nat.le_of_lt l2, fun p hp => ?_⟩
  subst en
  rw [← e1] at hp ⊢
  have ez : Ext w1 (w1.frz p (.tup v2)) := Ext.frz hp
  have st2 := (ex.trans ez).stay rs.dj
  have nap : a ≠ p := fun z => by
    rw [← z, e1, upd_same] at hp
    cases hp
  have ll : (ds.take (m - 1) ++ [D.tup (ds.drop (m - 1))]).length + 1 = m + 1 := by simp; omega
  unfold mkFn at q
  rw [if_pos ll] at q
  have rr : RepVs G (w1.frz p (.tup v2)) (ds.take (m - 1) ++ [D.tup (ds.drop (m - 1))]) (v1 ++ [V.ref p]) := RepVs.append (RepVs.stay st2 _ _ r1) (RepVs.one ⟨p, v2, rfl, .inl ⟨.inr rfl, .inl upd_same⟩, RepVs.stay st2 _ _ r2⟩)
  refine fin_mk (ex.trans ez) (s1.frz hp) rr (by rw [ll]; exact hmn) (a := a) (dx := dx) ?_ (fun z => z.elim nF nap) nm ha q
  show upd w1.H p _ a = _
  rw [upd_ne nap, e1, upd_same]
end
section
variable {G : Sg} {X : Cx} {W : WX} {k n c : Nat} {f C : Addr} {sem : List D → M D} {sp : Sp} {x : Str} {p pos apos : Pos} {e o : Expr} {es : List Expr} {fa : List SV → M (List D)} {σ : L2.St}
theorem run_mk {pins : List (Addr × Obj)} {H : Hp} {s : Shared} {Q : VK} {us : List Value} {vs : List V} (cx : Ctx G X W k) (M : Mk X.K C f) (F : FnS X.prog X.w X.K X.mg X.base G.gd k f sp) (I : Inv X pins σ H s) (r : Vals vs us)
    (h : ∀ a dx, H a = none → H dx = none → dx ≠ a → sp (V.ref a :: vs) (upd (upd H dx (.own a)) a (.ins C dx [])) (fun v H2 => v = .non ∧ Q (.ref a) H2) (WE W σ)) :
    wpAny (model X.prog X.w) X.A (call (.ref C) us) (EP X pins σ Q) X.xe s := by
  have want := h _ _ (I.hok.fresh (Nat.le_succ _)) (I.hok.fresh (Nat.le_refl _)) (Nat.ne_of_lt (Nat.lt_succ_self s.heap.objs.size))
  have J := Inv.made (C := C) I
  have body := F _ X.stack _ _ (Value.ref (s.heap.objs.size + 1) :: us) (V.ref (s.heap.objs.size + 1) :: vs) _ _ (cx.rm.make C us []) (J.env0.make C us []) (.cons rfl r) want
  refine wpAny_call (make_map (f := f) I.kIn M.makes M.init (beq_iff_eq.mp M.fn) (codeAny_mono body ?_))
  rintro (er | fl) s' got
  · exact cx.px σ pins _ _ er s' J got
  · cases fl with
    | ret u =>
      obtain ⟨v, H', J2, rv, rfl, q3⟩ := J.after got
      exact ⟨rv, V.ref (s.heap.objs.size + 1), H', J2, rfl, q3⟩
    | next => exact got.elim
    | brk => exact got.elim
    | cont => exact got.elim
structure CallA (G : Sg) (X : Cx) (W : WX) (a : Addr) (sem : List D → M D) : Prop where
  kp : PySem.W.keepIn X.K (.ref a) = true
  run : ∀ (pins : List (Addr × Obj)) (σ : L2.St) (H : Hp) (s : Shared) (Q : VK) (us : List Value) (vs : List V), Inv X pins σ H s → Vals vs us → spV G sem vs H Q (WE W σ) → wpAny (model X.prog X.w) X.A (call (.ref a) us) (EP X pins σ Q) X.xe s
theorem FnA.call (c : Ctx G X W k) (F : FnX X G k f sem) : CallA G X W f sem := ⟨F.kp, fun _ _ _ _ _ _ _ I r h => run_fa c F I r h⟩
theorem ClA.call {c : Nat} (cx : Ctx G X W k) (F : ClA X.prog X.w X.K X.mg X.base G k c sem) : CallA G X W (G.ca c) sem := by
  obtain ⟨f, M, g⟩ := F.ex
  exact ⟨M.kp, fun pins σ H s Q us vs I r h => run_mk cx M g I r fun a dx ha hdx ne => ⟨a, dx, vs, H, Q, rfl, rfl, ha, hdx, ne, rfl, h⟩⟩
theorem v_calls (F : CallA G X W f sem) (hg : Gl X x) (hm : X.mg x = some (.ref f)) (ha : PLn G X W n (e :: es) fa) (hs : (e :: es).all notStar = true) (hd : (x == ("__debug__" : Str)) = false) :
    PV G X W (.Call (.Name x p) (e :: es) [] pos) (fun sd => M.bind (fa sd) sem) := by
  have hs2 : notStar e = true ∧ es.all notStar = true := by simpa using hs
  constructor
  intro pins s σ H Q I ⟨w0, w, sd, S, eH, r, q⟩
  refine wpAny_Call_Name_kw (ld_glob I hg hm ?_ hd)
  refine PySem.W.callWith_K (h₀ := X.base) I.ok.mod.kin F.kp (thn (ha.run pos pins s σ H (fun vs H1 => spV G sem vs H1 Q (WE W σ)) I ?_) ?_) (starEach_cons hs2.1) (starEach_all hs2.2 pos)
  · exact ⟨w0, w, sd, S, eH, r, fin_step q fun w1 S1 ds vs e1 s1 rv q1 => ⟨w1, ds, S1, rfl, s1, rv.1, q1⟩⟩
  · rintro us s1 ⟨vs, H1, I1, rv, q1⟩
    exact ⟨I1.kIn, F.run _ _ _ _ _ _ _ I1 rv q1⟩
end
end Ev
set_option maxRecDepth 100000
set_option maxHeartbeats 2000000
namespace Ev
open PySem PySem.Spec PyProof.Rows L2
section
variable {G : Sg} {X : Cx} {W : WX} {k n : Nat} {f C : Addr} {sem : List D → M D} {x m : Str} {p pos apos : Pos} {e o fe : Expr} {es : List Expr} {fa : List SV → M (List D)} {ff : List SV → M D} {σ : L2.St}
def fldT (i : Nat) (tbl : Nat → Option Nat) : Tgt := fun d sd S => match sd[i]? with
  | some (.own (.ins c ds)) => match tbl c with
    | some j => match putL ds j d with
      | some es => some (sd.set i (.own (.ins c es)), S)
      | none => none
    | none => none
  | _ => none
def tgFld (K : PySem.W.Frag) (to : TE) (f : Str) : TG := fun v σ H Q => to σ H fun y H1 => ∃ a C dx fs, y = V.ref a ∧ H1 a = some (.ins C dx fs) ∧ Cls K C ∧ NoAttr K C f ∧ fs.length < 1000 ∧ Q σ (upd H1 a (.ins C dx (putF f v fs)))
theorem pg_attr {to : TE} (ho : PE X o to) : PG X (.Attribute o m pos) (tgFld X.K to m) := by
  refine ⟨fun pins s σ H v u Q I r h => ?_⟩
  have tree : assign (.Attribute o m pos) X.env u = (do
    let ov ← holding [u] (eval o X.env)
    standAt pos.atName
    holding [u, ov] (setAttr ov m u)
    release [u, ov] []) := by rfl
  rw [tree]
  refine wpAny_bind (wpAny_holding (thn (ho.run pins s σ H _ I h) fun ov s1 got => ?_))
  obtain ⟨y, H1, I1, ry, a, C, dx, fs, ey, ha, cl, na, hl, q⟩ := got
  subst ey
  obtain rfl : ov = Value.ref a := ry
  refine wpAny_bind (wpAny_standAt (wpAny_bind (wpAny_holding (setattr_ok I1 ha cl na hl r fun s2 I2 => ?_))))
  exact wpAny_release ⟨σ, _, I2, q⟩
theorem g_fld {i : Nat} {tbl : Nat → Option Nat} (T : FldT X G m tbl) (hN : X.N[i]? = some x) (hv : Vis X.env.scope x) (hd : (x == ("__debug__" : Str)) = false) (hcd : (x == ("__classdict__" : Str)) = false) : PGV G X [] (.Attribute (.Name x p) m pos) (fldT i tbl) := by
  refine PG.imp (pg_attr (pe_var (X := X) (pos := p) hN hv hd hcd)) fun v σ H Q q => ?_
  obtain ⟨w0, w, sd, S, d, e, r, rv, q⟩ := q
  subst e
  unfold fldT at q
  rcases hi : sd[i]? with _ | _ | d0 | ⟨ds | ⟨ks, ds⟩ | ⟨cc, ds⟩⟩
  · simp only [hi] at q; exact q.elim
  · simp only [hi] at q; exact q.elim
  · simp only [hi] at q; exact q.elim
  · simp only [hi] at q; exact q.elim
  · simp only [hi] at q; exact q.elim
  · simp only [hi] at q
    rcases ht : tbl cc with _ | j
    · simp only [ht] at q; exact q.elim
    · simp only [ht] at q
      obtain ⟨cl, na, nd, hj, hl⟩ := T.at_ cc j ht
      obtain ⟨a, ha, ⟨dx, vs, h1, h2, h3⟩, nF, nm, n0⟩ := r.ow i _ hi
      have hlen : ((G.fn cc).zip vs).length < 1000 := by
        rw [List.length_zip]; omega
      refine ⟨.ref a, ha, a, _, dx, _, rfl, h1, cl, na, hlen, ?_⟩
      have st := Stay.wr (w := w) (p := a) (o := .ins (G.ca cc) dx ((G.fn cc).zip (vs.set j v))) nF
      unfold putL at q
      by_cases c1 : j < ds.length
      · simp only [if_pos c1] at q
        rw [putF_zip nd hj (by rw [← h3.length]; exact c1)]
        have hn : RepO G (w.wr a (.ins (G.ca cc) dx ((G.fn cc).zip (vs.set j v)))) a (.ins cc (ds.set j d)) := ⟨dx, _, upd_same, by rw [List.length_set]; exact h2, RepVs.set j (RepVs.stay (Stay.wr nF) _ _ h3) (RepV.stay (Stay.wr nF) _ _ rv)⟩
        exact q _ σ (Stay.wr nF) (r.wr hi ha hn) fun _ _ => rfl
      · simp only [if_neg c1] at q
        by_cases c2 : j = ds.length
        · simp only [if_pos c2] at q
          subst c2
          rw [h3.length] at hj
          rw [putF_new nd hj]
          have hn : RepO G (w.wr a (.ins (G.ca cc) dx ((G.fn cc).zip (vs ++ [v])))) a (.ins cc (ds ++ [d])) := ⟨dx, _, upd_same, by
            rw [List.length_append]
            exact (List.getElem?_eq_some_iff.mp hj).1, RepVs.append (RepVs.stay (Stay.wr nF) _ _ h3) (RepVs.one (RepV.stay (Stay.wr nF) _ _ rv))⟩
          exact q _ σ (Stay.wr nF) (r.wr hi ha hn) fun _ _ => rfl
        · simp only [if_neg c2] at q; exact q.elim
end
end Ev
set_option maxRecDepth 100000
set_option maxHeartbeats 2000000
namespace Ev
open PySem PySem.Spec PyProof.Rows L2
def stepLo (n : Nat) (c : Int) : Int := if c < 0 then (n : Int) - 1 else 0
def stepNo (n : Nat) (c : Int) : Nat := Builtin.Slice.slicePlaces (stepLo n c) (if c < 0 then -1 else (n : Int)) c
def stepL {α : Type} (c : Int) (xs : List α) : List α := (List.range (stepNo xs.length c)).filterMap fun (m : Nat) => xs[(stepLo xs.length c + (m : Int) * c).toNat]?
theorem step_adjust (n : Nat) (c : Int) : Builtin.Slice.sliceAdjust none none c (n : Int) = (stepLo n c, if c < 0 then -1 else (n : Int)) := by
  unfold Builtin.Slice.sliceAdjust stepLo
  by_cases h : c < 0
  · simp [h]
  · simp [h]
theorem vals_pick {xs : List V} {us : List Value} (r : Vals xs us) (ix : Nat → Nat) : ∀ l : List Nat, Vals (l.filterMap fun m => xs[ix m]?) (l.filterMap fun m => us[ix m]?)
  | [] => .nil
  | m :: l => by
    have ih := vals_pick r ix l
    rcases h : xs[ix m]? with _ | x
    · have hu : us[ix m]? = none := by
        rw [List.getElem?_eq_none_iff] at h ⊢
        rw [← r.length]
        exact h
      rw [List.filterMap_cons_none (by simpa using h), List.filterMap_cons_none (by simpa using hu)]
      exact ih
    · obtain ⟨u, hu, ru⟩ := r.get h
      rw [List.filterMap_cons_some (b := x) (by simpa using h), List.filterMap_cons_some (b := u) (by simpa using hu)]
      exact .cons ru ih
theorem reps_pick {G : Sg} {w : Wd} {ds : List D} {vs : List V} (r : RepVs G w ds vs) (ix : Nat → Nat) : ∀ l : List Nat, RepVs G w (l.filterMap fun m => ds[ix m]?) (l.filterMap fun m => vs[ix m]?)
  | [] => rfl
  | m :: l => by
    have ih := reps_pick r ix l
    rcases h : ds[ix m]? with _ | x
    · have hu : vs[ix m]? = none := by
        rw [List.getElem?_eq_none_iff] at h ⊢
        rw [← r.length]
        exact h
      rw [List.filterMap_cons_none (by simpa using h), List.filterMap_cons_none (by simpa using hu)]
      exact ih
    · obtain ⟨u, hu, ru⟩ := r.get h
      rw [List.filterMap_cons_some (b := x) (by simpa using h), List.filterMap_cons_some (b := u) (by simpa using hu)]
      exact ⟨u, _, rfl, ru, ih⟩
theorem stepNo_le (n : Nat) (c : Int) (h : c ≠ 0) : stepNo n c ≤ n := by
  unfold stepNo stepLo Builtin.Slice.slicePlaces
  by_cases h0 : c < 0
  · have h1 : ¬ c > 0 := by omega
    simp only [h0, h1, if_true, if_false]
    split
    · have e : ((n : Int) - 1 - -1 - 1) / -c ≤ (n : Int) - 1 - -1 - 1 := by
        refine Int.ediv_le_self _ ?_
        omega
      omega
    · simp
  · have h1 : c > 0 := by omega
    simp only [h0, h1, if_true, if_false]
    split
    · have e : ((n : Int) - 0 - 1) / c ≤ (n : Int) - 0 - 1 := by
        refine Int.ediv_le_self _ ?_
        omega
      omega
    · simp
theorem step_len {α : Type} (c : Int) (h : c ≠ 0) (xs : List α) : (stepL c xs).length ≤ xs.length := by
  unfold stepL
  refine Nat.le_trans (List.length_filterMap_le _ _) ?_
  rw [List.length_range]
  exact stepNo_le _ _ h
section
variable {prog : Program} {w : World} {A : Around} {E : Value → Shared → Prop} {s : Shared}
theorem applied_step {sl : Addr} {vs : Value} {c : Int} {n : Nat} {Q : Int × Int × Nat → Shared → Prop} (hs : s.heap.IsSliceOf sl .none .none vs) (pc : IsPart vs (some c)) (h0 : c ≠ 0) (h : Q (stepLo n c, c, stepNo n c) s) :
    wpAny (model prog w) A (Builtin.Slice.sliceApplied (.ref sl) (pure (n : Int))) Q E s := by
  obtain ⟨ob, hob, hcl, hfd⟩ := id hs
  unfold Builtin.Slice.sliceApplied Builtin.Slice.sliceFields
  refine wpAny_bind (wpAny_bind (wpAny_field hob hfd (x := .none) rfl (wpAny_bind (wpAny_field hob hfd (x := .none) rfl (wpAny_bind (wpAny_field hob hfd (x := vs) rfl (wpAny_pure ?_)))))))
  refine wpAny_bind (HT.slicePart_ pc ?_)
  show wpAny _ _ (if (c == 0) = true then _ else _) _ _ s
  rw [if_neg (by simpa using h0)]
  refine wpAny_bind (HT.slicePart_ .none (wpAny_bind (HT.slicePart_ .none (wpAny_bind (wpAny_pure ?_)))))
  show wpAny _ _ (match Builtin.Slice.sliceAdjust none none c (n : Int) with | (lo, hi) => pure (lo, c, Builtin.Slice.slicePlaces lo hi c)) _ _ s
  rw [step_adjust]
  exact wpAny_pure h
theorem get_tup_step {t sl : Addr} {items : Array Value} {vs : Value} {c : Int} {Q : Value → Shared → Prop} (ht : IsTup s.heap t items) (hs : s.heap.IsSliceOf sl .none .none vs) (pc : IsPart vs (some c)) (h0 : c ≠ 0) (h1 : c ≠ 1)
    (h : Q (.ref s.heap.objs.size) { s with heap := s.heap.push { cls := .type "tuple", data := .seq (stepL c items.toList).toArray } }) (hsz : items.size ≤ sizeLine) : wpAny (model prog w) A (getItem (.ref t) (.ref sl)) Q E s := by
  have fits : sizeOk (.seq (stepL c items.toList).toArray) := by
    show (stepL c items.toList).toArray.size ≤ sizeLine
    rw [List.size_toArray]
    exact Nat.le_trans (step_len c h0 items.toList) (by rw [Array.length_toList]; exact hsz)
  obtain ⟨ob, hob, hcl, hfd⟩ := id hs
  have hT : s.TypeIs (.ref sl) "slice" := ⟨ob, hob, hcl⟩
  unfold getItem
  try with_reducible refine wpAny_holding ?_
  first | refine wpAny_bind (wpAny_pure ?_) | skip
  refine wpAny_bind (wpAny_sequenceKey ht.typeIs (by decide) ?_)
  refine wpAny_bind (wpAny_callSpecial?_slot (name := Str.ofString "__getitem__") ht.typeIs PyProof.Rows.slot_tuple_getitem (wpAny_call_entry PyProof.Rows.slot_tuple_getitem ht.typeIs entry_tuple_getitem ?_ (args_tuple_getitem _ _)))
  show wpAny _ _ (Builtin.Tuple.tupleItemsOf (.ref t) >>= _) _ _ s
  refine wpAny_bind (tupleItemsOf_ ht (wpAny_bind (wpAny_typeOf hT ?_)))
  rw [if_pos (by decide)]
  refine wpAny_bind (applied_step hs pc h0 ?_)
  have part : ¬ ((stepLo items.size c == 0 && c == 1 && stepNo items.size c == items.size) = true) := by
    intro z
    rw [Bool.and_eq_true, Bool.and_eq_true] at z
    exact h1 (eq_of_beq z.1.2)
  show wpAny _ _ (if (stepLo items.size c == 0 && c == 1 && stepNo items.size c == items.size) = true then _ else _) _ _ s
  rw [if_neg part]
  have e : ((List.range (stepNo items.size c)).filterMap fun (k : Nat) => items[(stepLo items.size c + (k : Int) * c).toNat]?) = stepL c items.toList := by
    unfold stepL
    rw [Array.length_toList]
    congr 1
    funext k
    rw [Array.getElem?_toList]
  rw [e]
  first
    | exact wpAny_bind (m := Builtin.Tuple.tupleExact _) (wpAny_newObj_type (wpAny_pure ⟨_, rfl, wpAny_pure h⟩) fits)
    | exact wpAny_bind (m := Builtin.Tuple.tupleExact _) (wpAny_newObj_type (wpAny_bind (wpAny_pure (wpAny_pure ⟨_, rfl, wpAny_pure h⟩))) fits)
    | exact wpAny_bind (wpAny_bind (m := Builtin.Tuple.tupleExact _) (wpAny_newObj_type (wpAny_pure (wpAny_pure ⟨_, rfl, wpAny_pure h⟩)) fits))
    | exact wpAny_bind (wpAny_bind (m := Builtin.Tuple.tupleExact _) (wpAny_newObj_type (wpAny_pure ⟨_, rfl, wpAny_pure h⟩) fits))
end
section
variable {G : Sg} {X : Cx} {W : WX} {k n : Nat} {pos : Pos} {e o fe : Expr} {es : List Expr} {σ : L2.St}
def tStepT (K : PySem.W.Frag) (c : Int) (te : TE) : TE := fun σ H Q => te σ H fun x H1 => ∃ a xs, x = .ref a ∧ SqT K H1 a xs ∧ ∀ p, H1 p = none → Q (.ref p) (upd H1 p (.tup (stepL c xs)))
theorem stepL_eq {α : Type} (c : Int) (xs : List α) (n : Nat) (h : xs.length = n) : stepL c xs = (List.range (stepNo n c)).filterMap fun m => xs[(fun m : Nat => (stepLo n c + (m : Int) * c).toNat) m]? := by
  subst h
  rfl
theorem pe_stepT {te : TE} {st : Expr} {p3 : Pos} {c : Int} (he : PE X e te) (hst : PO X (some st) (fun _ H Q => Q (some c) H)) (h0 : c ≠ 0) (h1 : c ≠ 1) : PE X (.Subscript e (.Slice none none (some st) p3) pos) (tStepT X.K c te) := by
  refine ⟨fun pins s σ H Q I h => ?_⟩
  refine Subscript_ (thn (he.run pins s σ H _ I h) fun v s1 ⟨x, H1, I1, r1, a, xs, ex, hx, q⟩ => ?_)
  subst ex
  obtain rfl : v = Value.ref a := r1
  refine wpAny_Slice (thn (po_none.run pins s1 σ H1 (fun o H2 => o = none ∧ H2 = H1) I1 ⟨rfl, rfl⟩) fun vl s2 got => ?_)
  obtain ⟨l, H2, I2, pl, el, e2⟩ := got
  subst el e2
  refine thn (po_none.run pins s2 σ H2 (fun o H3 => o = none ∧ H3 = H2) I2 ⟨rfl, rfl⟩) fun vu s3 got => ?_
  obtain ⟨u, H3, I3, pu, eu, e3⟩ := got
  subst eu e3
  refine thn (hst.run pins s3 σ H3 (fun o H4 => o = some c ∧ H4 = H3) I3 ⟨rfl, rfl⟩) fun vs s4 got => ?_
  obtain ⟨oo, H4, I4, ps, eo, e4⟩ := got
  subst eo e4
  cases pl
  cases pu
  have J : Inv X pins σ H4 { s4 with heap := s4.heap.push { cls := .type "slice", data := .fields #[.none, .none, vs] } } := I4.kept (t' := s4.toks) fun b ob z => Heap.get?_push_of_some _ z
  obtain ⟨its, r, ht, hz⟩ := J.tuple hx
  show wpAny (model X.prog X.w) X.A (subscriptTail e (.Slice none none (some st) p3) (.ref a) (.ref s4.heap.objs.size)) (EP X pins σ Q) X.xe { s4 with heap := s4.heap.push { cls := .type "slice", data := .fields #[.none, .none, vs] } }
  refine tail_any (ops := [.ref a, .ref s4.heap.objs.size]) ht.typeIs PyProof.Rows.slot_tuple_getitem.lookup ?_ (by with_unfolding_all rfl)
  refine get_tup_step ht (Heap.IsSliceOf.new _ .none .none vs) ps h0 h1 ?_ (by rw [List.size_toArray, ← r.length]; exact hz)
  refine ⟨.ref _, _, J.laid (t' := s4.toks) (o := .tup (stepL c xs)) (fun b ob z => Heap.get?_push_of_some _ z) (Nat.le_refl _) ?_, rfl, q _ (J.hok.fresh (Nat.le_refl _))⟩
  refine ⟨Nat.le_trans (step_len c h0 xs) hz, stepL c its, ?_, IsTup.new _ _⟩
  rw [stepL_eq c xs xs.length rfl, stepL_eq c its xs.length r.length.symm]
  exact vals_pick r _ _
def dStep (c : Int) : D → M D
  | .tup ds => M.pure (.tup (stepL c ds))
  | _ => M.stuck
theorem v_stepT {f : List SV → M D} {st : Expr} {p3 : Pos} {c : Int} (cK : G.K = X.K) (he : PV G X W e f) (hst : PO X (some st) (fun _ H Q => Q (some c) H)) (h0 : c ≠ 0) (h1 : c ≠ 1) : PV G X W (.Subscript e (.Slice none none (some st) p3) pos) (fun sd => M.bind (f sd) (dStep c)) := by
  refine PE.imp (pe_stepT he hst h0 h1) fun σ H Q h => ?_
  obtain ⟨w0, w, sd, S, e, r, q⟩ := h
  refine ⟨w0, w, sd, S, e, r, fin_step q fun w1 S1 d v e1 s1 rv q1 => ?_⟩
  cases d with
  | tup ds =>
    obtain ⟨a, vs, ev, ha, rs⟩ := rv
    refine ⟨a, vs, ev, sqT_of cK ha, fun p hp => q1 (w1.frz p _) _ (Ext.frz hp) (s1.frz hp) ⟨p, _, rfl, .inl ⟨.inr rfl, .inl upd_same⟩, RepVs.mono (Ext.frz hp) s1.dj _ _ ?_⟩⟩
    rw [stepL_eq c ds ds.length rfl, stepL_eq c vs ds.length rs.length.symm]
    exact reps_pick rs _ _
  | _ => exact q1.elim
theorem po_neg1 {j : Nat} {p1 p2 : Pos} : PO X (some (.UnaryOp .USub (.Constant (.int 1) j p1) p2)) (fun _ H Q => Q (some (-1)) H) := by
  have z : PO X (some (.UnaryOp .USub (.Constant (.int 1) j p1) p2)) (tPart (tUn (rU fun i => .int (-i)) (tC (.int 1)))) := po_some (pe_un un_neg pe_int)
  exact ⟨fun pins s σ H Q I h => z.run pins s σ H Q I ⟨1, rfl, -1, rfl, h⟩⟩
end
end Ev
set_option maxRecDepth 100000
set_option maxHeartbeats 2000000
namespace Ev
open PySem PySem.Spec PyProof.Rows L2
structure FnK (P : Program) (w : World) (K : PySem.W.Frag) (mg : Str → Option Value) (base : Heap) (G : Sg) (k : Nat) (f : Addr) (m : Nat) (ks : List Str) (sem : List D → M D) : Prop where
  run : ∀ (A : Around) (fr : List Env) (s : Shared) (H : Hp) (us ws : List Value) (vs zs : List V) (Q : VK) (E : XK),
    Rm G.gd k A → Env0 P w K mg base A fr s H → Vals vs us → Vals zs ws → vs.length = m → zs.length = ks.length → spV G sem (vs ++ zs) H Q E → codeAny (model P w) A (.call (.ref f) ⟨us, ks.zip ws⟩) (CR (L2.CX P w) fr P w H s Q E) s
  kp : PySem.W.keepIn K (.ref f) = true
abbrev FnKX (X : Cx) (G : Sg) (k : Nat) (f : Addr) (m : Nat) (ks : List Str) (sem : List D → M D) : Prop := FnK X.prog X.w X.K X.mg X.base G k f m ks sem
theorem FnK.mono {P : Program} {w : World} {K : PySem.W.Frag} {mg : Str → Option Value} {base : Heap} {G : Sg} {j k m : Nat} {ks : List Str} {f : Addr} {sem : List D → M D} (F : FnK P w K mg base G j f m ks sem) (h : j ≤ k) : FnK P w K mg base G k f m ks sem :=
  ⟨fun A fr s H us ws vs zs Q E hr => F.run A fr s H us ws vs zs Q E (hr.mono h), F.kp⟩
section
variable {G : Sg} {X : Cx} {W : WX} {k n m j : Nat} {f C : Addr} {sem : List D → M D} {x y mm : Str} {p pos apos kpos : Pos} {e o fe : Expr} {es : List Expr} {kws : List Keyword} {ks : List Str} {fa fk : List SV → M (List D)} {ff g : List SV → M D} {σ : L2.St}
theorem PK.imp {e : List Keyword} {t t' : TA} (h : PK X e t) (i : ∀ σ H Q, t' σ H Q → t σ H Q) : PK X e t' := ⟨fun ps p s σ H Q I q => h.run ps p s σ H Q I (i σ H Q q)⟩
structure CallK (G : Sg) (X : Cx) (W : WX) (a : Addr) (m : Nat) (ks : List Str) (sem : List D → M D) : Prop where
  kp : PySem.W.keepIn X.K (.ref a) = true
  run : ∀ (pins : List (Addr × Obj)) (σ : L2.St) (H : Hp) (s : Shared) (Q : VK) (us ws : List Value) (vs zs : List V), Inv X pins σ H s → Vals vs us → Vals zs ws → vs.length = m → zs.length = ks.length → spV G sem (vs ++ zs) H Q (WE W σ) →
    wpAny (model X.prog X.w) X.A (call (.ref a) us (ks.zip ws)) (EP X pins σ Q) X.xe s
theorem after_call {pins : List (Addr × Obj)} {H : Hp} {s : Shared} {Q : VK} {a : Args} (c : Ctx G X W k) (I : Inv X pins σ H s) (h : codeAny (model X.prog X.w) X.A (.call (.ref f) a) (CR (L2.CX X.prog X.w) X.stack X.prog X.w H s Q (WE W σ)) s) :
    wpAny (model X.prog X.w) X.A (call (.ref f) a.pos a.kw) (EP X pins σ Q) X.xe s := by
  refine wpAny_call (codeAny_mono h ?_)
  rintro (er | fl) s' hq
  · exact c.px σ pins H s er s' I hq
  · cases fl with
    | ret u => exact I.after hq
    | next => exact hq.elim
    | brk => exact hq.elim
    | cont => exact hq.elim
theorem FnK.call (c : Ctx G X W k) (F : FnKX X G k f m ks sem) : CallK G X W f m ks sem :=
  ⟨F.kp, fun pins σ H s Q us ws vs zs I r r2 l1 l2 h => after_call (a := ⟨us, ks.zip ws⟩) c I (F.run X.A X.stack s H us ws vs zs Q (WE W σ) c.rm0 I.env0 r r2 l1 l2 h)⟩
end
end Ev
set_option maxRecDepth 100000
set_option maxHeartbeats 2000000
namespace Ev
open PySem PySem.Spec PyProof.Rows L2
def GlobD (mg : Str → Option Value) (G : Sg) (x : Str) (d : D) : Prop := ∃ u v, mg x = some u ∧ RelV v u ∧ ∀ w : Wd, RepV G w d v
section
variable {G : Sg} {X : Cx} {W : WX} {k : Nat} {x : Str} {p : Pos} {d : D}
theorem v_glob (hg : Gl X x) (h : GlobD X.mg G x d) (hd : (x == ("__debug__" : Str)) = false) : PV G X W (.Name x p) (fun _ => M.pure d) := by
  obtain ⟨u, v, hm, r, rv⟩ := h
  exact v_lit (pe_glob hg hm r hd) fun w S _ => rv w
theorem v_ty {t : TyN} (hg : Gl X x) (hm : X.mg x = none) (hv : bootBuiltins x = some (.type t.name)) (hn : x ≠ "__name__") (hd : (x == ("__debug__" : Str)) = false) : PV G X W (.Name x p) (fun _ => M.pure (.ty t)) :=
  v_lit (v := .ty t.name) (pe_bltn hg hm hv rfl hn hd) fun w S _ => rfl
theorem v_int {i : Int} {j : Nat} : PV G X W (.Constant (.int i) j p) (fun _ => M.pure (.int i)) := v_lit pe_int fun _ _ _ => rfl
theorem v_str {s : Str} {j : Nat} : PV G X W (.Constant (.str s) j p) (fun _ => M.pure (.str s)) := v_lit pe_str fun _ _ _ => rfl
theorem v_bool {b : Bool} {j : Nat} : PV G X W (.Constant (.bool b) j p) (fun _ => M.pure (.bl b)) := v_lit pe_bl fun _ _ _ => rfl
theorem v_none {j : Nat} : PV G X W (.Constant .none j p) (fun _ => M.pure .non) := v_lit pe_non fun _ _ _ => rfl
theorem b_of {e : Expr} {f : List SV → M Bool} (h : PBW G X W e f) : PB G X W e f := PW.pt h
end
theorem glob_int {mg : Str → Option Value} {G : Sg} {x : Str} {i : Int} {t : Tok} (h : mg x = some (.int i t)) : GlobD mg G x (.int i) := ⟨_, .int i, h, ⟨t, rfl⟩, fun _ => rfl⟩
theorem glob_cls {mg : Str → Option Value} {G : Sg} {x : Str} {c : Nat} (h : mg x = some (.ref (G.ca c))) : GlobD mg G x (.cls c) := ⟨_, .ref (G.ca c), h, rfl, fun _ => rfl⟩
theorem glob_tup {mg : Str → Option Value} {G : Sg} {x : Str} {a : Addr} {ds : List D} {vs : List V} (h : mg x = some (.ref a)) (hk : KTup G.K a vs) (hr : ∀ w : Wd, RepVs G w ds vs) : GlobD mg G x (.tup ds) := ⟨_, .ref a, h, rfl, fun w => ⟨a, vs, rfl, .inr hk, hr w⟩⟩
def tab {α : Type} : List (Nat × α) → Nat → Option α
  | [], _ => none
  | (c, x) :: l, n => if n = c then some x else tab l n
theorem tab_nil {α : Type} {P : Nat → α → Prop} : ∀ c g, tab ([] : List (Nat × α)) c = some g → P c g := fun _ _ h => nomatch h
theorem tab_cons {α : Type} {P : Nat → α → Prop} {c0 : Nat} {x : α} {l : List (Nat × α)} (h0 : P c0 x) (h : ∀ c g, tab l c = some g → P c g) : ∀ c g, tab ((c0, x) :: l) c = some g → P c g := fun c g e => by
  unfold tab at e
  split at e
  · next q => subst q; cases e; exact h0
  · exact h c g e
end Ev
namespace Ev
open PySem PySem.Spec PyProof.Rows L2
def AtOk (X : Cx) (G : Sg) (k : Nat) (m : Str) (c : Nat) : At → Prop
  | .fld i => Cls X.K (G.ca c) ∧ NoAttr X.K (G.ca c) m ∧ (G.fn c).Nodup ∧ (G.fn c)[i]? = some m
  | .prop g => ∃ p f, Cls X.K (G.ca c) ∧ PropOf X.K (G.ca c) m p f ∧ FnX X G k f g
theorem AttrT.of {X : Cx} {G : Sg} {k : Nat} {m : Str} {tbl : Nat → Option At} (h : ∀ c x, tbl c = some x → AtOk X G k m c x) : AttrT X G k m tbl := ⟨fun c i e => h c _ e, fun c g e => h c _ e⟩
end Ev
set_option maxRecDepth 100000
set_option maxHeartbeats 2000000
namespace Ev
open PySem PySem.Spec PyProof.Rows L2
theorem enum_new1 {v : Value} {o : Obj} {Hh : Heap → Prop} (B : Begins v o Hh) :
    Meets (Builtin.«enumerate.__new__» ⟨[.type "enumerate", v], []⟩) (fun _ R s => Hh s.heap ∧
      R (.ok (.ret (.ref (s.heap.push o).objs.size))) { s with heap := (s.heap.push o).push { cls := .type "enumerate", data := .fields #[.none, .bool false, .ref s.heap.objs.size, rawInt 0, .none, .none] } }) :=
  .of_wp fun prog w A R s h => by
    obtain ⟨hp, g, d, tk, os⟩ := s
    obtain ⟨h1, h⟩ := h
    have below := sub_enumerate
    have begin_ : ∀ {A' : Around} {E : Value → Shared → Prop} {Q : Value → Shared → Prop}, Q (.ref hp.objs.size) ⟨hp.push o, g, d, tk, os⟩ → wpAny (model prog w) A' (pyIter v) Q E ⟨hp, g, d, tk, os⟩ :=
      fun q => B.iter prog w _ _ ⟨hp, g, d, tk, os⟩ _ h1 q
    wp_walk using begin_
    refine wpAny_stack_any fun st => wpAny_pure ?_
    split
    · rename_i c _ _ _ _ _
      cases (c == Value.type "enumerate")
      all_goals
        wp_walk using begin_
        exact ⟨_, rfl, h⟩
    · wp_walk using begin_
      exact ⟨_, rfl, h⟩
section
variable {prog : Program} {w : World} {A : Around} {E : Value → Shared → Prop} {s : Shared}
theorem call_enum1 {v : Value} {o : Obj} {Hh : Heap → Prop} {Q : Value → Shared → Prop} (B : Begins v o Hh) (h1 : Hh s.heap)
    (h : ∀ h', IsEnum h' (s.heap.objs.size + 1) s.heap.objs.size 0 .none → h'.get? s.heap.objs.size = some o → (∀ b u, s.heap.get? b = some u → h'.get? b = some u) → Q (.ref (s.heap.objs.size + 1)) { s with heap := h' }) :
    wpAny (model prog w) A (call (.type "enumerate") [v]) Q E s := by
  have size1 : (s.heap.push o).objs.size = s.heap.objs.size + 1 := Heap.size_push ..
  refine callType_new F.called_enumerate (by decide) (F.typeCall_enumerate_1 _) (F.newCall_enumerate_1 _) (fun obj => F.args_object_init_2 obj _) F.entry_enumerate_new (enum_new1 B) ⟨h1, ?_⟩
  show _ ∧ _
  rw [size1]
  have made : IsEnum ((s.heap.push o).push { cls := .type "enumerate", data := .fields #[.none, .bool false, .ref s.heap.objs.size, rawInt 0, .none, .none] }) (s.heap.objs.size + 1) s.heap.objs.size 0 .none := by
    have z := Heap.get?_push_size (s.heap.push o) (o := { cls := .type "enumerate", data := .fields #[.none, .bool false, .ref s.heap.objs.size, rawInt 0, .none, .none] }) rfl
    rw [size1] at z
    exact z
  exact ⟨⟨_, made, rfl⟩, h _ made (Heap.get?_push_of_some _ (Heap.get?_push_size _ B.free)) fun b u x => Heap.get?_push_of_some _ (Heap.get?_push_of_some _ x)⟩
end
theorem apart_it {h : Heap} {a it : Addr} {items : Array Value} {i : Nat} (p : IsTup h a items) (q : h.IsTupleIter it a i) : a ≠ it := by
  rintro rfl
  obtain ⟨o1, h1, c1, _⟩ := p
  obtain ⟨o2, h2, c2, _⟩ := q
  rw [h1] at h2
  cases h2
  rw [c1] at c2
  exact absurd (Value.type.inj c2) (by decide)
theorem enum_done {prog : Program} {w : World} {A : Around} {E : Value → Shared → Prop} {s : Shared} {e it a : Addr} {i : Nat} {n : Int} {old : Value} {items : Array Value} {Q : Option Value → Shared → Prop} (hh : A.handled = none) (he : IsEnum s.heap e it n old) (hit : s.heap.IsTupleIter it a i)
    (ht : s.heap.IsTuple a items) (hi : items.size ≤ i) (hQ : ∀ h', Heap.ExtBut it s.heap h' → Q none { s with heap := h' }) : wpAny (model prog w) A (pyNext (.ref e)) Q E s := by
  have kind : s.TypeIs (.ref e) "enumerate" := ⟨_, he, rfl⟩
  unfold pyNext
  refine wpAny_bind (wpAny_attempt (wpAny_callSpecial?_slot (name := Str.ofString "__next__") kind F.slot_enumerate_next (wpAny_call_entry F.slot_enumerate_next kind F.entry_enumerate_next ?_ (F.args_enumerate_next_1 _))))
  show wpAny _ _ (field (.ref e) 2 >>= _) _ _ _
  refine wpAny_bind (wpAny_field he rfl (x := .ref it) rfl (wpAny_bind ?_))
  refine wpAny_nextOf_tuple_end (A := A.in1) hh hit ht (Array.getElem?_eq_none hi) fun h' x ext stop => ?_
  obtain ⟨ob, ho, hc⟩ := stop
  exact wpAny_bind (wpAny_isInstance (T := "StopIteration") (b := true) ⟨ob, ho, hc⟩ isSubtype_stop (wpAny_pure (hQ _ ext)))
def ItE (K : PySem.W.Frag) (a : Addr) : It :=
  ⟨fun i H => ∃ (xs : List V) (x : V), SqT K H a xs ∧ xs[i]? = some x, fun i H v H' => ∃ T x, v = .ref T ∧ H T = none ∧ H' = upd H T (.tup [.int (i : Nat), x]) ∧ ∀ xs, SqT K H a xs → xs[i]? = some x, fun i H => ∃ xs : List V, SqT K H a xs ∧ xs.length ≤ i⟩
theorem turn_enumT {P : Program} {w : World} {K : PySem.W.Frag} {elts : List Expr} {kk : Nat} {tpos : Pos} (a e it : Addr) :
    Turn P w K (.Tuple elts kk tpos) (ItE K a) [e, it] e (fun i h => (∃ old, IsEnum h e it ((i : Nat) : Int) old) ∧ h.IsTupleIter it a i ∧ e ≠ it) where
  mem := by simp
  obj := fun i h st b hb => by
    obtain ⟨⟨old, he⟩, ⟨o, ho, hc, hd⟩, _⟩ := st
    rcases (show b = e ∨ b = it by simpa using hb) with rfl | rfl
    · exact ⟨_, he, fun v q => nomatch q⟩
    · exact ⟨o, ho, fun v q => by rw [hd] at q; cases q⟩
  keep := fun i h h' st k => let ⟨⟨old, he⟩, hi, hne⟩ := st; ⟨⟨old, k e (by simp) _ he⟩, hi.at fun o q => k it (by simp) o q, hne⟩
  item := by
    intro X hP hw hK hc i pins s σ H E I hf st hg
    subst hP hw hK
    obtain ⟨⟨old, he⟩, hit, hne⟩ := st
    obtain ⟨xs, x, hq, hx⟩ := hg
    obtain ⟨its, rv, p, hz⟩ := I.tuple hq
    obtain ⟨u, hu, ru⟩ := rv.get hx
    have elt_ : e < s.heap.objs.size := Heap.lt_size he
    have ilt : it < s.heap.objs.size := by obtain ⟨_, q, _⟩ := hit; exact Heap.lt_size q
    have apart : a ≠ it := apart_it p hit
    have D := Draws.tuple (prog := X.prog) (w := X.w) (A := X.A.in1) (I.ok.hd hc) it a apart its.toArray
    have ea : e ∉ ([it, a] : List Addr) := by
      intro z
      rcases (show e = it ∨ e = a by simpa using z) with z | z
      · exact hne z
      · subst z
        obtain ⟨o1, h1, c1, _⟩ := p
        have h2 := he
        unfold IsEnum at h2
        rw [h1] at h2
        cases h2
        exact absurd (Value.type.inj c1) (by decide)
    have small : i < its.toArray.size := by
      rw [List.size_toArray, ← rv.length]
      exact (List.getElem?_eq_some_iff.mp hx).1
    refine wpAny_pyNext_enum_itemD D he ⟨hit, p⟩ small hne ea fun y h' tk hy ho st' hT hsz hk => ?_
    have ey : y = u := by
      have hy2 : its.toArray[i]? = some y := hy
      have hu2 : its.toArray[i]? = some u := by simpa using hu
      rw [hu2] at hy2
      exact (Option.some.inj hy2).symm
    subst ey
    refine ⟨_, rfl, wpAny_letOwnedTupleGo_enum (s := { s with heap := h', toks := tk + 1 }) ho fun h'' he' sb => ?_⟩
    have hT2 : h''.get? s.heap.objs.size = some { cls := .type "tuple", data := .seq #[.int i tk, y] } := (sb.2 _ (Nat.ne_of_gt elt_)).trans hT
    have new : ObjOk X.prog X.w (upd H s.heap.objs.size (.tup [.int (i : Nat), x])) h'' s.heap.objs.size (.tup [.int (i : Nat), x]) :=
      ⟨by show 2 ≤ sizeLine; decide, [.int i tk, y], .cons ⟨_, rfl⟩ (.cons ru .nil), ⟨_, hT2, rfl, _, rfl⟩⟩
    have I1 : Inv X pins σ (upd H s.heap.objs.size (.tup [.int (i : Nat), x])) { s with heap := h'', toks := tk + 1 } :=
      I.turnedNew (ch := [e, it]) (fun b ob hb q => (sb.2 b (fun z => hb (by simp [z]))).trans (hk b ob (fun z => hb (by simp [z])) (fun z => hb (by simp [z])) q)) hf (Nat.le_refl _) new
    refine ⟨.ref s.heap.objs.size, _, I1, rfl, ⟨_, x, rfl, I.hok.fresh (Nat.le_refl _), rfl, fun ys hy => by rw [I.tuple_inj hy hq]; exact hx⟩, ⟨⟨y, ?_⟩, st'.1.at fun o q => (sb.2 it (Ne.symm hne)).trans q, hne⟩, fun b hb => ?_⟩
    · have cast : ((i + 1 : Nat) : Int) = (i : Int) + 1 := by omega
      rw [cast]
      exact he'
    · have below : b < s.heap.objs.size := by
        rcases (show b = e ∨ b = it by simpa using hb) with rfl | rfl
        · exact elt_
        · exact ilt
      rw [upd_ne (Nat.ne_of_lt below)]
      exact (hf b hb).1
  done := by
    intro X hP hw hK hc i pins s σ H E I hf st hg
    subst hP hw hK
    obtain ⟨⟨old, he⟩, hit, hne⟩ := st
    obtain ⟨xs, hq, hx⟩ := hg
    obtain ⟨its, rv, p, hz⟩ := I.tuple hq
    obtain ⟨f0, f1, f2, f3, f4, f5⟩ := hf it (by simp)
    have hl := rv.length
    exact enum_done (I.ok.hd hc) he hit p (by rw [List.size_toArray]; omega) fun h' eb => ⟨rfl, I.turned (t' := s.toks) (fun b o hb q => eb b o hb q) f0 f1 f3 f4 f5⟩
  self := fun A i s Q E st h => let ⟨⟨_, he⟩, _⟩ := st; wpAny_pyIter_enum he h
section
variable {G : Sg} {X : Cx} {W : WX} {k : Nat} {w : Wd}
theorem pi_enumT {e : Expr} {te : TE} {p pos tpos : Pos} {elts : List Expr} {kk : Nat} (hg : Gl X "enumerate") (hm : X.mg "enumerate" = none) (he : PE X e te) (hs : notStar e = true) :
    PI X (.Tuple elts kk tpos) (.Call (.Name "enumerate" p) [e] [] pos) (fun σ H R => te σ H fun v H1 => ∃ a xs, v = .ref a ∧ SqT X.K H1 a xs ∧ R (ItE X.K a) H1) := by
  have ha := pa_cons he pa_nil (starEach_cons hs)
  refine ⟨fun pins s σ H R I h => ?_⟩
  refine Call_ (ld_blt I hg hm boot_enumerate (PyProof.Rows.callWith_type1 (thn (ha.run pos pins s σ H (fun vs H1 => match vs with | [v] => ∃ a xs, v = .ref a ∧ SqT X.K H1 a xs ∧ R (ItE X.K a) H1 | _ => False) I ?_) fun us s1 got => ?_) (starEach_cons hs) rfl))
  · exact h
  · obtain ⟨vs, H1, I1, r1, got⟩ := got
    rcases vs with _ | ⟨v, _ | ⟨v2, vs⟩⟩
    · exact got.elim
    rotate_left
    · exact got.elim
    obtain ⟨a, xs, rfl, hq, q⟩ := got
    obtain ⟨u, rfl, ru⟩ := r1.one
    cases (show u = Value.ref a from ru)
    obtain ⟨its, rv, tp, hz⟩ := I1.tuple hq
    refine call_enum1 (begins_tuple a its.toArray) tp fun h' he' hit keep => wpAny_pyIter_enum he' ?_
    have I2 : Inv X pins σ H1 { s1 with heap := h' } := I1.kept (t' := s1.toks) keep
    have ti : h'.IsTupleIter s1.heap.objs.size a 0 := ⟨_, hit, rfl, rfl⟩
    refine ⟨s1.heap.objs.size + 1, [s1.heap.objs.size + 1, s1.heap.objs.size], _, _, H1, rfl, I2, turn_enumT a (s1.heap.objs.size + 1) s1.heap.objs.size, ⟨⟨.none, he'⟩, ti, Nat.succ_ne_self _⟩, fun b hb => ?_, q⟩
    have above : s1.heap.objs.size ≤ b := by
      rcases (show b = s1.heap.objs.size + 1 ∨ b = s1.heap.objs.size by simpa using hb) with z | z
      · rw [z]; exact Nat.le_add_right _ _
      · rw [z]; exact Nat.le_refl _
    exact I1.fpOk above (I1.hok.fresh above)
def numbered : Nat → List D → List D
  | _, [] => []
  | n, d :: ds => .tup [.int n, d] :: numbered (n + 1) ds
theorem numbered_len : ∀ (n : Nat) (ds : List D), (numbered n ds).length = ds.length
  | _, [] => rfl
  | n, d :: ds => by rw [numbered, List.length_cons, List.length_cons, numbered_len (n + 1) ds]
theorem numbered_get : ∀ (n i : Nat) (ds : List D) (z : D), (numbered n ds)[i]? = some z → ∃ d, ds[i]? = some d ∧ z = .tup [.int ((n + i : Nat) : Int), d]
  | _, _, [], _, h => by simp [numbered] at h
  | n, 0, d :: ds, z, h => by
    simp [numbered] at h
    exact ⟨d, rfl, h.symm⟩
  | n, i + 1, d :: ds, z, h => by
    obtain ⟨d', h1, h2⟩ := numbered_get (n + 1) i ds z (by simpa [numbered] using h)
    exact ⟨d', by simpa using h1, by rw [h2]; congr 4; omega⟩
def enumD : D → M (List D)
  | .tup ds => M.pure (numbered 0 ds)
  | _ => M.stuck
theorem yld_enum (cK : G.K = X.K) {ds : List D} {vs : List V} {a : Addr} (h : RdF w a (.tup vs) ∨ KTup G.K a vs) (r : RepVs G w ds vs) : Yld G w (numbered 0 ds) (ItE X.K a) := by
  have sq : ∀ w', Stay w w' → SqT X.K w'.H a vs := fun w' s => sqT_of cK (h.imp (fun z => z.stay s) id)
  refine ⟨fun w' i s hi => ⟨vs, sq w' s, by rw [← r.length, ← numbered_len 0]; exact hi⟩, fun w' i s hi => ?_, fun w' i d x H' S s st hd hy => ?_⟩
  · obtain ⟨v, e⟩ := r.get_len (by rw [← numbered_len 0]; exact hi)
    exact ⟨vs, v, sq w' s, e⟩
  · obtain ⟨T, y, rfl, free, rfl, hx⟩ := hy
    obtain ⟨d', h1, rfl⟩ := numbered_get 0 i ds d hd
    obtain ⟨v, ev, rv⟩ := r.get h1
    have z := hx vs (sq w' s)
    rw [ev] at z
    cases z
    refine ⟨w'.frz T (.tup [.int (i : Nat), y]), rfl, Ext.frz free, st.frz free, T, _, rfl, .inl ⟨.inr rfl, .inl upd_same⟩, _, _, rfl, by rw [Nat.zero_add]; rfl, _, _, rfl, ?_, rfl⟩
    exact RepV.stay (s.trans ((Ext.frz free).stay st.dj)) _ _ rv
theorem i_enum {e : Expr} {f : List SV → M D} {p pos tpos : Pos} {elts : List Expr} {kk : Nat} (c : Ctx G X W k) (hg : Gl X "enumerate") (hm : X.mg "enumerate" = none) (he : PV G X W e f) (hs : notStar e = true) :
    PIV G X W (.Tuple elts kk tpos) (.Call (.Name "enumerate" p) [e] [] pos) (fun sd => M.bind (f sd) enumD) := by
  refine PI.imp (pi_enumT hg hm he hs) fun σ H Q q => ?_
  obtain ⟨w0, w, sd, S, e, r, q⟩ := q
  refine ⟨w0, w, sd, S, e, r, fin_step q fun w1 S1 d v e1 s1 rv q1 => ?_⟩
  cases d with
  | tup ds =>
    obtain ⟨a, vs, ev, ha, rs⟩ := rv
    exact ⟨a, vs, ev, sqT_of c.cK ha, q1 w1 _ (Ext.refl _) s1 (yld_enum c.cK ha rs)⟩
  | _ => exact q1.elim
variable {s : Shared} {H : Hp} {scope : Scope} {env : Env} {fp : List Addr}
theorem blkV {e : Expr} {f : List SV → M D} (c : Ctx G X W k) (h : Ctx G (X.blk s H scope env fp) NoW k → PV G (X.blk s H scope env fp) NoW e f) : PV G (X.blk s H scope env fp) NoW e f := h (c.blk s H scope env fp)
theorem blkT {e : List Expr} {f : List SV → M Bool} (c : Ctx G X W k) (h : Ctx G (X.blk s H scope env fp) NoW k → PTsV G (X.blk s H scope env fp) NoW e f) : PTsV G (X.blk s H scope env fp) NoW e f := h (c.blk s H scope env fp)
theorem blkP {e : Expr} {ts : List Nat} {f : TgP} (c : Ctx G X W k) (h : Ctx G (X.blk s H scope env fp) NoW k → PGP G (X.blk s H scope env fp) ts e f) : PGP G (X.blk s H scope env fp) ts e f := h (c.blk s H scope env fp)
end
end Ev
set_option maxRecDepth 100000
set_option maxHeartbeats 2000000
namespace Ev
open PySem PySem.Spec PyProof.Rows L2
section
variable {P : Program} {w : World} {K : PySem.W.Frag} {mg mb : Str → Option Value} {G : Sg} {k : Nat} {fa a : Addr} {sem : List D → M D} {s₁ : Shared} {vs : List Value} {ns : List Int}
theorem end_core (H : Hp) (KX : K.In s₁.heap) (hns : s₁.heap.Ns mainGlobals mg) (hb : s₁.heap.Ns builtinsNs mb) (hbb : ∀ x : Str, x ≠ "__name__" → mb x = bootBuiltins x) (hlim : s₁.heap.NoLimit) (hg : s₁.gens = #[])
    (ha : s₁.heap.get? a = some { cls := .type "list", data := .seq vs.toArray }) (hr : Room k callerA) (cK : G.K = K)
    (F : ∀ base : Heap, K.In base → base.Ns mainGlobals mg → FnA P w K mg base G k fa sem) (hsem : ∃ S, sem [.scr (ns.map D.int)] [] = some (.ok (.bl true), S))
    (told : ∀ b u, H b = some u → b = a ∧ ∃ o xs, u = .frz o (.lst xs)) (unK : H a ≠ none → K.lookup a = none) (hok : HOk P w H s₁.heap) (hS : SqL K H a (ns.map V.int)) :
    codeAny (model P w) callerA (.call (.ref fa) ⟨[.ref a], []⟩) (fun r s' => r = .ok (.ret (.bool true)) ∧ OldK s₁.heap s'.heap ∧ s'.os = s₁.os ∧ AllBare s'.gens) s₁ := by
  have same : ∀ {b : Addr} {o : Obj}, s₁.heap.get? b = some o → b ≠ a → (hidT s₁.heap H).get? b = some o := fun {b o} e ne => by
    refine hidT_get e ?_
    rcases q : H b with _ | u
    · rfl
    · exact absurd (told b u q).1 ne
  have asNs : ∀ {b : Addr} {m : Str → Option Value}, s₁.heap.Ns b m → (hidT s₁.heap H).Ns b m := by
    rintro b m ⟨o, es, ep, e, d, r⟩
    refine ⟨o, es, ep, same e ?_, d, r⟩
    rintro rfl
    rw [ha] at e
    cases e
    exact Data.noConfusion d
  have inK : K.In (hidT s₁.heap H) := fun b o e => by
    have there := KX b o e
    rcases q : H b with _ | u
    · exact hidT_get there q
    · obtain ⟨rfl, _⟩ := told b u q
      rw [unK (by rw [q]; exact fun z => nomatch z)] at e
      cases e
  have md : Mod K mg (hidT s₁.heap H) := by
    obtain ⟨mc, l1, l2⟩ := hlim
    exact ⟨inK, asNs hns, ⟨mb, asNs hb, hbb⟩, ⟨mc, asNs l1, l2⟩⟩
  have e0 : Env0 P w K mg (hidT s₁.heap H) callerA [] s₁ H := ⟨rfl, md, fun b o e => of_hidT e, Nat.le_of_eq (hidT_size _ _), trivial, fun b z => absurd (show b ∈ ([] : List Addr) from z) (by simp), hok, .of_eq hg⟩
  obtain ⟨S, hsem⟩ := hsem
  have numsR : ∀ (wd : Wd) (l : List Int), RepVs G wd (l.map D.int) (l.map V.int) := fun wd l => by
    induction l with
    | nil => rfl
    | cons z l ih => exact ⟨_, _, rfl, rfl, ih⟩
  have start : spV G sem [.ref a] H (fun v _ => v = .bl true) fun _ _ _ => False := by
    refine ⟨⟨[], fun b => H b ≠ none, H, none⟩, [.scr (ns.map D.int)], [], rfl, ⟨rfl, List.nodup_nil, fun _ _ => by simp, fun _ z => z, fun n b o z => by simp at z⟩, ⟨.ref a, [], rfl, ⟨a, _, rfl, ?_, numsR _ ns⟩, rfl⟩, ?_⟩
    · rcases hS with z | z
      · refine .inl ⟨?_, z⟩
        show H a ≠ none
        rcases z with z | ⟨o, z⟩
        · rw [z]; exact fun q => nomatch q
        · rw [z]; exact fun q => nomatch q
      · rw [← cK] at z
        exact .inr z
    · rw [hsem]
      exact fun w' v _ _ rv => rv
  have vals : Vals [V.ref a] [Value.ref a] := .cons rfl .nil
  refine codeAny_mono ((F _ inK (asNs hns)).run callerA [] s₁ H [.ref a] [.ref a] _ _ ⟨hr, fun _ => rfl⟩ e0 vals start) ?_
  rintro (er | fl) s' got
  · obtain ⟨_, _, _, _, _, _, _, _, _, _, _, _, z⟩ := got
    exact z.elim
  · cases fl with
    | next => exact got.elim
    | brk => exact got.elim
    | cont => exact got.elim
    | ret u =>
      obtain ⟨v, H', os, bare, un, hok', rv, rfl⟩ := got
      obtain rfl : u = Value.bool true := rv
      refine ⟨rfl, OldK.of_keep fun b o e => ?_, os, bare⟩
      rcases q : H b with _ | u
      · exact un.keep b o e q (fun z => absurd (show b ∈ ([] : List Addr) from z) (by simp)) (by simp)
      · obtain ⟨rfl, ob, xs, rfl⟩ := told b u q
        have kept := un.frzs b ob _ q
        obtain ⟨e1, _⟩ := hok b _ q
        obtain ⟨e2, _⟩ := hok' b _ kept
        rw [e] at e1
        cases e1
        exact e2
theorem end_call (KX : K.In s₁.heap) (hns : s₁.heap.Ns mainGlobals mg) (hb : s₁.heap.Ns builtinsNs mb) (hbb : ∀ x : Str, x ≠ "__name__" → mb x = bootBuiltins x) (hlim : s₁.heap.NoLimit) (hg : s₁.gens = #[])
    (ha : s₁.heap.get? a = some { cls := .type "list", data := .seq vs.toArray }) (hi : IntsAre vs ns) (hl : ns.length ≤ sizeLine) (hr : Room k callerA) (cK : G.K = K)
    (F : ∀ base : Heap, K.In base → base.Ns mainGlobals mg → FnA P w K mg base G k fa sem) (hsem : ∃ S, sem [.scr (ns.map D.int)] [] = some (.ok (.bl true), S)) :
    codeAny (model P w) callerA (.call (.ref fa) ⟨[.ref a], []⟩) (fun r s' => r = .ok (.ret (.bool true)) ∧ OldK s₁.heap s'.heap ∧ s'.os = s₁.os ∧ AllBare s'.gens) s₁ := by
  have rv := vals_ints hi
  have size : vs.length ≤ sizeLine := by rw [hi.length]; exact hl
  rcases hk : K.lookup a with _ | o
  · refine end_core (fun b => if b = a then some (.frz { cls := .type "list", data := .seq vs.toArray } (.lst (ns.map V.int))) else none) KX hns hb hbb hlim hg ha hr cK F hsem (fun b u z => ?_) (fun _ => hk) (fun b u z => ?_) (.inl (.inr ⟨_, if_pos rfl⟩))
    · by_cases e : b = a
      · exact ⟨e, _, _, (Option.some.inj ((if_pos e).symm.trans z)).symm⟩
      · cases (if_neg e).symm.trans z
    · by_cases e : b = a
      · cases (if_pos e).symm.trans z
        subst e
        exact ⟨ha, by rw [List.length_map]; exact hl, vs, _, rv, ha⟩
      · cases (if_neg e).symm.trans z
  · have there := KX a o hk
    rw [ha] at there
    cases there
    exact end_core (fun _ => none) KX hns hb hbb hlim hg ha hr cK F hsem (fun b u z => nomatch z) (fun z => absurd rfl z) (fun b u z => nomatch z) (.inr ⟨_, vs.toArray, _, hk, rfl, rfl, rfl, by rw [List.size_toArray]; exact size, by simpa using rv⟩)
end
theorem end_walk {l : PySem.W.OpenLaw} {n k : Nat} {q : Program} {loose : List Str} {XP : (Str → Option Value) → Heap → Prop} {YP : World → Heap → Prop} {d : DefRec} {K : Params → PySem.W.Frag} {sem : List D → M D}
    (hn : l.most = some n) (hn2 : n ≤ sizeLine) (hdf : d.params.defaults = []) (hr : Room k callerA) (hY : ∀ (w : World) (h : Heap), YP w h → (K w.params).In h)
    (F : ∀ (w : World) (mg : Str → Option Value) (fa : Addr) (h : Heap), (K w.params).In h → h.Ns mainGlobals mg → mg d.name = some (.ref fa) → ∃ G : Sg, G.K = K w.params ∧ ∀ base : Heap, (K w.params).In base → base.Ns mainGlobals mg → FnA l.prog w (K w.params) mg base G k fa sem)
    (hsem : ∀ ns : List Int, ns.length ≤ n → (∀ z ∈ ns, Builtin.Int.intBits z ≤ 1048576) → ∃ S, sem [.scr (ns.map D.int)] [] = some (.ok (.bl true), S)) :
    PySem.W.WalkO q loose XP YP l.row.toRowW d [] (fun f vs => PySem.call f vs) := by
  refine Att.attach_callB hn hdf fun w s₀ s₁ mg mb fa o pm cd doc a vs ns Gr Y ho hd hcd hmg hobj hints hlen hbits hg => ?_
  have KX := hY w _ Y
  obtain ⟨G, cK, hF⟩ := F w mg fa _ KX Gr.T.g hmg
  exact end_call KX Gr.T.g Gr.T.b Gr.T.builtins Gr.T.nolimit hg hobj hints (Nat.le_trans hlen hn2) hr cK hF (hsem ns hlen hbits)
theorem kit_cc {K : PySem.W.Frag} {t : Value} {C : Addr} {b : Bool} (h1 : PySem.W.isClsIn K C = true) (h2 : PySem.W.typeIn K (.ref C) = some (.type "type")) (h3 : PySem.W.subIn K t (.ref C) = some b) (h4 : PySem.W.subIn K (.ref C) (.ref C) = some true) : PySem.W.kitOne K t (.ref C) = some b := by
  unfold PySem.W.kitOne
  by_cases e : (t == Value.ref C) = true
  · rw [if_pos e]
    have e2 : t = Value.ref C := eq_of_beq e
    rw [e2, h4] at h3
    exact h3
  · rw [if_neg e]
    unfold PySem.W.kitCls
    have h1' : (PySem.W.clsIn K C).isSome = true := h1
    simp only [h1', h2, h3]
    rfl
theorem kit_ct {K : PySem.W.Frag} {C : Addr} {T : String} {b : Bool} (h1 : PySem.W.kitMeta T = true) (h3 : PySem.W.subIn K (.ref C) (.type T) = some b) : PySem.W.kitOne K (.ref C) (.type T) = some b := by
  unfold PySem.W.kitOne
  by_cases e : (Value.ref C == Value.type T) = true
  · cases eq_of_beq e
  rw [if_neg e]
  unfold PySem.W.kitCls
  simp only [h1, h3]
  rfl
end Ev
set_option maxRecDepth 100000
set_option maxHeartbeats 2000000
namespace Ev
open PySem L2
def Run {α : Type} (f : M α) (S : List Ob) (P : α → List Ob → Prop) : Prop := match f S with
  | some (.ok a, S') => P a S'
  | _ => False
def RunS (f : MS) (sd : List SV) (S : List Ob) (N : List SV → List Ob → Prop) (R : D → List Ob → Prop) (B C : List SV → List Ob → Prop) : Prop := match f sd S with
  | some (.next sd', S') => N sd' S'
  | some (.ret d, S') => R d S'
  | some (.brk sd', S') => B sd' S'
  | some (.cont sd', S') => C sd' S'
  | _ => False
section
variable {α β : Type} {f : M α} {S : List Ob} {P P' : α → List Ob → Prop}
theorem run_pure {a : α} : Run (M.pure a) S P ↔ P a S := Iff.rfl
theorem run_stuck : Run (M.stuck : M α) S P ↔ False := Iff.rfl
theorem run_bind {k : α → M β} {Q : β → List Ob → Prop} : Run (M.bind f k) S Q ↔ Run f S fun a S' => Run (k a) S' Q := by
  unfold Run M.bind
  rcases f S with _ | ⟨_ | a, S'⟩
  · exact Iff.rfl
  · exact Iff.rfl
  · exact Iff.rfl
theorem run_ite {c : Prop} [Decidable c] {g : M α} : Run (if c then f else g) S P ↔ if c then Run f S P else Run g S P := by split <;> exact Iff.rfl
theorem run_noErr : Run (noErr f) S P ↔ Run f S P := by
  unfold Run noErr
  rcases f S with _ | ⟨_ | a, S'⟩ <;> exact Iff.rfl
theorem Run.mono (h : Run f S P) (i : ∀ a S', P a S' → P' a S') : Run f S P' := by
  unfold Run at h ⊢
  rcases e : f S with _ | ⟨_ | a, S'⟩
  · rw [e] at h; exact h
  · rw [e] at h; exact h
  · rw [e] at h; exact i a S' h
theorem Run.ex (h : Run f S P) : ∃ a S', f S = some (.ok a, S') ∧ P a S' := by
  unfold Run at h
  rcases e : f S with _ | ⟨_ | a, S'⟩
  · rw [e] at h; exact h.elim
  · rw [e] at h; exact h.elim
  · rw [e] at h; exact ⟨a, S', rfl, h⟩
theorem pure_of {r : α} (h : ∀ S, Run f S fun d S' => d = r ∧ S' = S) : f = M.pure r := by
  funext S
  obtain ⟨a, S', e, rfl, rfl⟩ := (h S).ex
  rw [e]
  rfl
variable {sd : List SV} {N N' : List SV → List Ob → Prop} {R R' : D → List Ob → Prop} {B B' C C' : List SV → List Ob → Prop} {m1 m2 : MS}
theorem runS_next : RunS nextS sd S N R B C ↔ N sd S := Iff.rfl
theorem runS_stuck : RunS stuckS sd S N R B C ↔ False := Iff.rfl
theorem runS_seq : RunS (seqS m1 m2) sd S N R B C ↔ RunS m1 sd S (fun sd' S' => RunS m2 sd' S' N R B C) R B C := by
  unfold RunS seqS
  rcases m1 sd S with _ | ⟨_ | _ | _ | _ | _, S'⟩ <;> exact Iff.rfl
theorem runS_ex {g : List SV → M α} {k : α → MS} : RunS (exS g k) sd S N R B C ↔ Run (g sd) S fun d S' => RunS (k d) sd S' N R B C := by
  unfold RunS exS Run
  rcases g sd S with _ | ⟨_ | a, S'⟩ <;> exact Iff.rfl
theorem runS_ret {g : List SV → M D} : RunS (retS g) sd S N R B C ↔ Run (g sd) S R := by
  unfold retS
  rw [runS_ex]
  exact Iff.rfl
theorem runS_asg {g : List SV → M D} {i : Nat} : RunS (asgS g (setT i)) sd S N R B C ↔ Run (g sd) S fun d S' => N (sd.set i (.val d)) S' := by
  unfold asgS
  rw [runS_ex]
  exact Iff.rfl
theorem runS_par {g : List SV → M (List D)} {i j : Nat} : RunS (parS i j g) sd S N R B C ↔ Run (g sd) S fun ds S' => match ds with | [a, b] => N ((sd.set i (.val a)).set j (.val b)) S' | _ => False := by
  unfold parS
  rw [runS_ex]
  unfold Run
  rcases g sd S with _ | ⟨_ | ds, S'⟩
  · exact Iff.rfl
  · exact Iff.rfl
  · rcases ds with _ | ⟨a, _ | ⟨b, _ | ⟨c, ds⟩⟩⟩ <;> exact Iff.rfl
theorem runS_if {g : List SV → M Bool} : RunS (exS g fun k => if k = true then m1 else m2) sd S N R B C ↔ Run (g sd) S fun k S' => if k = true then RunS m1 sd S' N R B C else RunS m2 sd S' N R B C := by
  rw [runS_ex]
  have e : (fun (d : Bool) S' => RunS (if d = true then m1 else m2) sd S' N R B C) = fun k S' => if k = true then RunS m1 sd S' N R B C else RunS m2 sd S' N R B C := by
    funext d S'
    cases d <;> rfl
  rw [e]
theorem runS_own {g : List SV → M (List D)} {i : Nat} : RunS (ownS i g) sd S N R B C ↔ Run (g sd) S fun ds S' => N (sd.set i (.own (.lst ds))) S' := by
  unfold ownS
  rw [runS_ex]
  exact Iff.rfl
theorem runS_tgt {g : List SV → M D} {t : Tgt} : RunS (asgS g t) sd S N R B C ↔ Run (g sd) S fun d S' => match t d sd S' with | some (sd2, S2) => N sd2 S2 | none => False := by
  unfold asgS
  rw [runS_ex]
  unfold Run
  rcases g sd S with _ | ⟨_ | d, S'⟩
  · exact Iff.rfl
  · exact Iff.rfl
  · unfold RunS
    simp only
    rcases t d sd S' with _ | ⟨sd2, S2⟩
    · exact Iff.rfl
    · exact Iff.rfl
theorem RunS.mono (h : RunS m1 sd S N R B C) (hN : ∀ sd S, N sd S → N' sd S) (hR : ∀ d S, R d S → R' d S) (hB : ∀ sd S, B sd S → B' sd S) (hC : ∀ sd S, C sd S → C' sd S) : RunS m1 sd S N' R' B' C' := by
  unfold RunS at h ⊢
  rcases e : m1 sd S with _ | ⟨_ | _ | _ | _ | _, S'⟩
  · rw [e] at h; exact h
  · rw [e] at h; exact hN _ _ h
  · rw [e] at h; exact hR _ _ h
  · rw [e] at h; exact hB _ _ h
  · rw [e] at h; exact hC _ _ h
  · rw [e] at h; exact h
theorem loop_rule {t : Tgt} {body : MS} (J : List D → List SV → List Ob → Prop) (step : ∀ d ds sd S, J (d :: ds) sd S → ∃ sd1 S1, t d sd S = some (sd1, S1) ∧ RunS body sd1 S1 (fun sd2 S2 => J ds sd2 S2) R (fun sd2 S2 => N sd2 S2) (fun sd2 S2 => J ds sd2 S2))
    (fin : ∀ sd S, J [] sd S → N sd S) : ∀ ds sd S, J ds sd S → RunS (loopS t body ds) sd S N R B C
  | [], sd, S, h => fin sd S h
  | d :: ds, sd, S, h => by
    obtain ⟨sd1, S1, e, hb⟩ := step d ds sd S h
    have ih := loop_rule J step fin ds
    unfold RunS at hb ⊢
    unfold loopS
    rw [e]
    simp only
    rcases hm : body sd1 S1 with _ | ⟨_ | _ | _ | _ | _, S'⟩
    · rw [hm] at hb; exact hb
    · rw [hm] at hb; exact ih _ _ hb
    · rw [hm] at hb; exact hb
    · rw [hm] at hb; exact hb
    · rw [hm] at hb; exact ih _ _ hb
    · rw [hm] at hb; exact hb
theorem runS_for {g : List SV → M (List D)} {t : Tgt} {body : MS} : RunS (forS g t body) sd S N R B C ↔ Run (g sd) S fun ds S' => RunS (loopS t body ds) sd S' N R B C := by
  unfold forS
  rw [runS_ex]
theorem iter_rule {c : List SV → M Bool} {body : MS} (J : Nat → List SV → List Ob → Prop) (step : ∀ n sd S, J n sd S → Run (c sd) S fun b S1 => if b = true then RunS body sd S1 (fun sd2 S2 => ∃ n', n' < n ∧ J n' sd2 S2) R N (fun sd2 S2 => ∃ n', n' < n ∧ J n' sd2 S2) else N sd S1) :
    ∀ fuel n sd S, n < fuel → J n sd S → RunS (iterS c body fuel) sd S N R B C
  | 0, n, sd, S, l, _ => absurd l (Nat.not_lt_zero n)
  | fuel + 1, n, sd, S, l, h => by
    unfold iterS
    rw [runS_ex]
    refine (step n sd S h).mono fun b S1 hb => ?_
    cases b with
    | false => exact hb
    | true =>
      simp only [if_true] at hb ⊢
      unfold RunS at hb ⊢
      dsimp only at hb ⊢
      rcases hm : body sd S1 with _ | ⟨_ | _ | _ | _ | _, S'⟩
      · simp only [hm] at hb ⊢
      · simp only [hm] at hb ⊢
        obtain ⟨n', l', h'⟩ := hb
        exact iter_rule J step fuel n' _ _ (by omega) h'
      · simp only [hm] at hb ⊢; exact hb
      · simp only [hm] at hb ⊢; exact hb
      · simp only [hm] at hb ⊢
        obtain ⟨n', l', h'⟩ := hb
        exact iter_rule J step fuel n' _ _ (by omega) h'
      · simp only [hm] at hb ⊢
theorem run_fn {m n : Nat} {ms : MS} {ds : List D} {Q : D → List Ob → Prop} : Run (runFn m n ms ds) S Q ↔ ds.length = m ∧ RunS ms (slots n (ds.map .val)) S (fun _ S' => Q .non S') Q (fun _ _ => False) (fun _ _ => False) := by
  unfold Run runFn RunS
  by_cases h : ds.length = m
  · simp only [h, if_true, true_and]
    rcases ms (slots n (ds.map .val)) S with _ | ⟨_ | _ | _ | _ | _, S'⟩ <;> exact Iff.rfl
  · simp only [h, if_false, false_and]
end
theorem getv_val {i : Nat} {sd : List SV} {d : D} (h : sd[i]? = some (.val d)) : getv i sd = M.pure d := by
  unfold getv
  rw [h]
theorem toB_bl (b : Bool) : toB (.bl b) = M.pure b := rfl
theorem add_int (i j : Int) : dAdd (.int i) (.int j) = M.pure (.int (i + j)) := rfl
theorem sub_int (i j : Int) : dSub (.int i) (.int j) = M.pure (.int (i - j)) := rfl
theorem mul_int {i j : Int} (h : mulOk i j = true) : dMul (.int i) (.int j) = M.pure (.int (i * j)) := by
  show (if mulOk i j = true then M.pure (D.int (i * j)) else M.stuck) = _
  rw [if_pos h]
theorem mod_int {i j : Int} (h : 0 < j) : dMod (.int i) (.int j) = M.pure (.int (i % j)) := by
  show (if 0 < j then M.pure (D.int (i % j)) else M.stuck) = _
  rw [if_pos h]
theorem fdiv_int {i j : Int} (h : divOk j = true) : dFdiv (.int i) (.int j) = M.pure (.int (i / j)) := by
  show (if divOk j = true then M.pure (D.int (i / j)) else M.stuck) = _
  rw [if_pos h]
theorem cmp_int (p : Int → Int → Bool) (i j : Int) : dCmpI p (.int i) (.int j) = M.pure (.bl (p i j)) := rfl
theorem int_int (i : Int) : dInt (.int i) = M.pure (.int i) := rfl
theorem ix_tup {ds : List D} {i : Int} {d : D} (h : atI ds i = some d) : dIx (.tup ds) (.int i) = M.pure d := by
  funext S
  show (match atI ds i with | some x => (some (Except.ok x, S) : Option (Except Exn D × List Ob)) | none => none) = _
  rw [h]
  rfl
theorem ix_lst {ds : List D} {i : Int} {d : D} (h : atI ds i = some d) : dIx (.lst ds) (.int i) = M.pure d := by
  funext S
  show (match atI ds i with | some x => (some (Except.ok x, S) : Option (Except Exn D × List Ob)) | none => none) = _
  rw [h]
  rfl
end Ev
set_option maxRecDepth 100000
set_option maxHeartbeats 2000000
namespace PySem.W
open PySem PyProof.Rows
end PySem.W
namespace Ev
open PySem PySem.Spec PyProof.Rows L2
section
variable {G : Sg} {X : Cx} {W : WX} {k n m j : Nat} {f C : Addr} {sem : List D → M D} {x y mm : Str} {p pos apos kpos : Pos} {e o fe : Expr} {es : List Expr} {kws : List Keyword} {ks : List Str} {fa fk : List SV → M (List D)} {ff g : List SV → M D} {σ : L2.St}
theorem EP.mono {pins : List (Addr × Obj)} {Q Q' : VK} {v : Value} {s : Shared} (h : EP X pins σ Q v s) (i : ∀ z H, Q z H → Q' z H) : EP X pins σ Q' v s := by
  obtain ⟨z, H, I, r, q⟩ := h
  exact ⟨z, H, I, r, i z H q⟩
end
end Ev
set_option maxRecDepth 100000
set_option maxHeartbeats 2000000
namespace Ev
open PySem PySem.Spec PyProof.Rows L2
structure ClK (P : Program) (w : World) (K : PySem.W.Frag) (mg : Str → Option Value) (base : Heap) (G : Sg) (k c m : Nat) (ks : List Str) (sem : List D → M D) : Prop where
  ex : ∃ f, Mk K (G.ca c) f ∧ ∀ (A : Around) (fr : List Env) (s : Shared) (H : Hp) (us ws : List Value) (vs zs : List V) (Q : VK) (E : XK), Rm G.gd k A → Env0 P w K mg base A fr s H → Vals vs us → Vals zs ws → vs.length = m + 1 → zs.length = ks.length →
    spN G c sem (vs ++ zs) H Q E → codeAny (model P w) A (.call (.ref f) ⟨us, ks.zip ws⟩) (CR (L2.CX P w) fr P w H s Q E) s
theorem ClK.mono {P : Program} {w : World} {K : PySem.W.Frag} {mg : Str → Option Value} {base : Heap} {G : Sg} {j k c m : Nat} {ks : List Str} {sem : List D → M D} (F : ClK P w K mg base G j c m ks sem) (h : j ≤ k) : ClK P w K mg base G k c m ks sem :=
  ⟨let ⟨f, M, g⟩ := F.ex; ⟨f, M, fun A fr s H us ws vs zs Q E hr => g A fr s H us ws vs zs Q E (hr.mono h)⟩⟩
section
variable {G : Sg} {X : Cx} {W : WX} {k n m j c : Nat} {f C : Addr} {sem : List D → M D} {x y mm : Str} {p pos apos kpos : Pos} {e o fe : Expr} {es : List Expr} {kws : List Keyword} {ks : List Str} {fa fk : List SV → M (List D)} {ff g : List SV → M D} {σ : L2.St}
theorem ClK.call (cx : Ctx G X W k) (F : ClK X.prog X.w X.K X.mg X.base G k c m ks sem) : CallK G X W (G.ca c) m ks sem := by
  obtain ⟨f, M, g⟩ := F.ex
  refine ⟨M.kp, fun pins σ H s Q us ws vs zs I r r2 l1 l2 h => ?_⟩
  have J := Inv.made (C := G.ca c) I
  have body := g _ X.stack _ _ (Value.ref (s.heap.objs.size + 1) :: us) ws (V.ref (s.heap.objs.size + 1) :: vs) zs _ _ (cx.rm.make (G.ca c) us (ks.zip ws)) (J.env0.make (G.ca c) us (ks.zip ws)) (.cons rfl r) r2 (by rw [List.length_cons, l1]) l2
    ⟨_, _, vs ++ zs, H, Q, rfl, rfl, I.hok.fresh (Nat.le_succ _), I.hok.fresh (Nat.le_refl _), Nat.ne_of_lt (Nat.lt_succ_self s.heap.objs.size), rfl, h⟩
  refine wpAny_call (make_map (f := f) I.kIn M.makes M.init (beq_iff_eq.mp M.fn) (codeAny_mono body ?_))
  rintro (er | fl) s' got
  · exact cx.px σ pins _ _ er s' J got
  · cases fl with
    | ret u =>
      obtain ⟨v, H', J2, rv, rfl, q3⟩ := J.after got
      exact ⟨rv, V.ref (s.heap.objs.size + 1), H', J2, rfl, q3⟩
    | next => exact got.elim
    | brk => exact got.elim
    | cont => exact got.elim
end
end Ev
set_option maxRecDepth 100000
set_option maxHeartbeats 2000000
namespace Ev
open PySem PySem.Spec PyProof.Rows L2
end Ev
set_option maxRecDepth 100000
set_option maxHeartbeats 2000000
namespace Ev
open PySem PySem.Spec PyProof.Rows L2 PySem.W NdefX
structure PSsA (X : Cx) (c : Code) (st : List Stmt) (t : TS) : Prop where
  run : ∀ (pins : List (Addr × Obj)) (s : Shared) (σ : L2.St) (H : Hp) (D : Ends), Inv X pins σ H s → t D σ H → _root_.PySem.wpAt (model X.prog X.w) X.A c (execs st X.env) (SP X pins D) X.xe s
structure PSA (X : Cx) (c : Code) (st : Stmt) (t : TS) : Prop where
  run : ∀ (pins : List (Addr × Obj)) (s : Shared) (σ : L2.St) (H : Hp) (D : Ends), Inv X pins σ H s → t D σ H → _root_.PySem.wpAt (model X.prog X.w) X.A c (exec st X.env) (SP X pins D) X.xe s
abbrev PSsAV (G : Sg) (X : Cx) (W : WX) (c : Code) (st : List Stmt) (f : MS) : Prop := PSsA X c st (tsV G W f)
abbrev PSAV (G : Sg) (X : Cx) (W : WX) (c : Code) (st : Stmt) (f : MS) : Prop := PSA X c st (tsV G W f)
section
variable {G : Sg} {X : Cx} {W : WX} {k : Nat} {c : Code} {st : Stmt} {rest sts : List Stmt} {f g : MS}
theorem sa_of (h : PSsV G X W sts f) : PSsAV G X W c sts f := ⟨fun pins s σ H D I q => wpAt_of_wpAny (h.run pins s σ H D I q)⟩
theorem sa_st (h : PSV G X W st f) : PSAV G X W c st f := ⟨fun pins s σ H D I q => wpAt_of_wpAny (h.run pins s σ H D I q)⟩
theorem sa_seq {t u : TS} (h1 : PSA X c st t) (h2 : PSsA X c rest u) : PSsA X c (st :: rest) (tSeq t u) := by
  refine ⟨fun pins s σ H D I h => ?_⟩
  refine ks_wpAt_execs_cons (ks_wpAt_mono (h1.run pins s σ H { D with nx := u D } I h) (fun fl s1 q => ?_) fun _ _ x => x)
  cases fl with
  | next =>
    obtain ⟨σ', H', I', q⟩ := q
    exact h2.run pins s1 σ' H' D I' q
  | ret v => exact q
  | brk => exact q
  | cont => exact q
theorem sa_cons (h1 : PSAV G X W c st f) (h2 : PSsAV G X W c rest g) : PSsAV G X W c (st :: rest) (seqS f g) := by
  refine ⟨fun pins s σ H D I h => (sa_seq h1 h2).run pins s σ H D I ?_⟩
  obtain ⟨w0, w, sd, S, e, r, q⟩ := h
  refine ⟨w0, w, sd, S, e, r, ?_⟩
  unfold seqS at q
  rcases hf : f sd S with _ | ⟨_ | _ | _ | _ | _, S1⟩
  · rw [hf] at q; exact q
  · rw [hf] at q
    exact fun w' σ' s r' => ⟨w0, w', _, S1, rfl, r', FinS.stay s q⟩
  · rw [hf] at q; exact q
  · rw [hf] at q; exact q
  · rw [hf] at q; exact q
  · rw [hf] at q; exact q
end
theorem FnS.mono {P : Program} {w : World} {K : Frag} {mg : Str → Option Value} {base : Heap} {b : Bool} {j k : Nat} {f : Addr} {sp : Sp} (F : FnS P w K mg base b j f sp) (h : j ≤ k) : FnS P w K mg base b k f sp := fun A fr s H us vs Q E hr => F A fr s H us vs Q E (hr.mono h)
structure Sup (P : Program) (K : PySem.W.Frag) (name qual : Str) (st : Stmt) (f cc cda Dc C f2 : Addr) : Prop where
  fu : ∃ (oc : Value) (od : Option Addr) (kV doc pm : Value) (an : Option Addr) (ct : Value) (osl : Array (Option Value)), K.lookup f = some ⟨oc, od, .func (fnX name qual (defArgs st) (defBody st) (defScope st) [("__class__", cc)] .none kV doc pm an (.ref cda) ct), osl⟩
  cd : codeIn K (.ref cda) qual = true
  kp : keepIn K (.ref f) = true
  cell : ∃ (cl : Value) (cld : Option Addr) (csl : Array (Option Value)), K.lookup cc = some ⟨cl, cld, .cell (some (.ref Dc)), csl⟩
  code : ∃ (ccl : Value) (cdd : Option Addr) (vs : Array Value) (ccs : Array (Option Value)) (file : Str) (tf : Tok), K.lookup cda = some ⟨ccl, cdd, .fields vs, ccs⟩ ∧ vs[2]? = some (.str file tf) ∧ ((P.main.file : Str) == file) = true
  cls : ∃ cdD, clsIn K Dc = some cdD
  sub : mroIn K C (.ref Dc) = some true
  sup : ks_superIn K C Dc "__init__" = some (some (.ref f2))
  ty : typeIn K (.ref f2) = some (.type "function")
  fi : fnIn K f2 = true
  op : nsIn K cStatics "thirdparty.any" = some none
  top : (P.main.scope.names.lookup ("super" : Str)).isSome = false
def notOwn : SV → Bool
  | .own _ => false
  | _ => true
def supS (c0 m2 n2 : Nat) (ms2 : MS) (fa : List SV → M (List D)) : Ev.MS := fun (sd : List Ev.SV) (S : List Ev.Ob) => match (sd[0]? : Option Ev.SV) with
  | some (Ev.SV.own (Ev.Ob.ins c es)) => if c = c0 ∧ (sd.drop 1).all notOwn = true then exS fa (fun ds sd S => if ds.length + 1 = m2 then match ms2 (slots n2 (.own (.ins c es) :: ds.map .val)) S with
      | some (.next sd', S') => match (sd'[0]? : Option Ev.SV) with
        | some (Ev.SV.own o') => some (.next (sd.set 0 (.own o')), S')
        | _ => none
      | _ => none
    else none) sd S else none
  | _ => none
theorem no_own {sd : List Ev.SV} {i : Nat} {o : Ev.Ob} (h : (sd.drop 1).all notOwn = true) (hi : i ≠ 0) : sd[i]? ≠ some (Ev.SV.own o) := fun z => by
  obtain ⟨j, rfl⟩ : ∃ j, i = j + 1 := ⟨i - 1, by omega⟩
  have m : Ev.SV.own o ∈ sd.drop 1 := by
    refine List.mem_of_getElem? (i := j) ?_
    rw [List.getElem?_drop, Nat.add_comm]
    exact z
  have := List.all_eq_true.mp h _ m
  cases this
theorem R.enterO {G : Sg} {wd w1 : Wd} {N : List Str} {ds : List D} {vs : List V} {S : List Ob} {a : Addr} {o : Ob} (e : Ext wd w1) (s : RepS G w1 S) (r : RepVs G w1 ds vs) (h : ds.length + 1 ≤ N.length) (ha : RepO G w1 a o) (nF : ¬ w1.F a) (nm : a ∉ w1.m) (n0 : wd.H a = none) :
    R G { wd with x := some a } w1 (slots N.length (.own o :: ds.map .val)) S (L2.start N (V.ref a :: vs)) := by
  have hd : ∀ {i : Nat} {y : SV}, (slots N.length (SV.own o :: ds.map .val))[i]? = some y → (i = 0 ∧ y = .own o) ∨ (∃ j, i = j + 1 ∧ (slots (N.length - 1) (ds.map SV.val))[j]? = some y) := fun {i y} z => by
    cases i with
    | zero =>
      refine .inl ⟨rfl, ?_⟩
      unfold slots at z
      simp at z
      exact z.symm
    | succ j =>
      refine .inr ⟨j, rfl, ?_⟩
      unfold slots at z ⊢
      have e1 : N.length - (SV.own o :: ds.map SV.val).length = N.length - 1 - (ds.map SV.val).length := by
        rw [List.length_cons]
        omega
      rw [e1, List.cons_append, List.getElem?_cons_succ] at z
      exact z
  have s0 : (L2.start N (V.ref a :: vs))[0]? = some (some (V.ref a)) := start_get rfl
  refine ⟨⟨e.m, e.F, e.H, e.nm, e.nF, e.al⟩, s, ?_, fun i d z => ?_, fun i o z => ?_, fun i j o o' b z1 z2 _ _ => ?_, fun b o eb z => ?_⟩
  · have l : vs.length = ds.length := r.length.symm
    rw [start_len (by rw [List.length_cons, l]; exact h), slots_len (by rw [List.length_cons, List.length_map]; exact h)]
  · rcases hd z with ⟨_, e2⟩ | ⟨j, rfl, z2⟩
    · cases e2
    · obtain ⟨v, h1, h2⟩ := r.get (slots_val z2)
      exact ⟨v, start_get (by rw [List.getElem?_cons_succ]; exact h1), h2⟩
  · rcases hd z with ⟨rfl, e2⟩ | ⟨j, rfl, z2⟩
    · cases e2
      exact ⟨a, s0, ha, nF, nm, n0⟩
    · exact (slots_own z2).elim
  · rcases hd z1 with ⟨e1, _⟩ | ⟨j1, _, z1⟩
    · rcases hd z2 with ⟨e2, _⟩ | ⟨j2, _, z2⟩
      · rw [e1, e2]
      · exact (slots_own z2).elim
    · exact (slots_own z1).elim
  · cases eb
    exact s0
abbrev nfOf (name qual : Str) (st : Stmt) (cc cda : Addr) : NF := ⟨name, qual, defArgs st, defBody st, defScope st, [("__class__", cc)], cda⟩
section
variable {G : Sg} {X : Cx} {W : WX} {k n : Nat} {body : List Stmt} {name qual self : Str} {st : Stmt} {f cc cda Dc C f2 : Addr} {p0 p1 apos pos pos2 : Pos} {e : Expr} {es : List Expr} {fa : List SV → M (List D)}
theorem s_super {c0 m2 n2 : Nat} {N2 ps2 : List Str} {ms2 : MS} {L : Addr} {ar : Arg} {ars : List Arg} (c : Ctx G X W k) (U : Sup X.prog X.K name qual st f cc cda Dc (G.ca c0) f2) (he : X.env = envF (nfOf name qual st cc cda) f L)
    (B2 : FnS X.prog X.w X.K X.mg X.base G.gd k f2 (fun vs H Q E => vs.length = ps2.length ∧ spT G N2 ms2 vs H Q E)) (e2 : ps2.length = m2) (en : N2.length = n2) (hmn : m2 ≤ n2)
    (hm : X.mg "super" = none) (hks : (defScope st).names.lookup ("super" : Str) = some .globalImplicit) (hkc : (defScope st).names.lookup ("__class__" : Str) = some .free) (hp : (defArgs st).posonlyargs ++ (defArgs st).args = ar :: ars) (hka : (defScope st).names.lookup ar.arg = some .local) (h0 : X.N[0]? = some ar.arg)
    (ha : PLn G X W n (e :: es) fa) (hs : (e :: es).all notStar = true)
    (hi : interactive X.env = false) (hsw : swapsWith (.Call (.Attribute (.Call (.Name "super" p0) [] [] p1) "__init__" apos) (e :: es) [] pos) none pos2.line X.env = pure false)
    (htree : eval (.Call (.Attribute (.Call (.Name "super" p0) [] [] p1) "__init__" apos) (e :: es) [] pos) X.env = (do
      let ov ← attributeBase (.Call (.Name "super" p0) [] [] p1) "__init__" X.env (eval (.Call (.Name "super" p0) [] [] p1) X.env)
      standAt apos.atName
      let (f, first) ← holding [ov] (getMethod ov "__init__" (do return (← importBound (.Call (.Name "super" p0) [] [] p1) X.env).getD true))
      callWith pos f first (backTo pos (starEach (e :: es) X.env)) [])) :
    PSAV G X W (.func body X.env) (.Expr (.Call (.Attribute (.Call (.Name "super" p0) [] [] p1) "__init__" apos) (e :: es) [] pos) pos2) (supS c0 m2 n2 ms2 fa) := by
  have hs2 : notStar e = true ∧ es.all notStar = true := by simpa using hs
  obtain ⟨oc, od, kV, doc, pm, an, ct, osl, hf⟩ := U.fu
  obtain ⟨cl, cld, csl, hcell⟩ := U.cell
  obtain ⟨ccl, cdd, vsC, ccs, file, tf, hcode, hvs, hfile⟩ := U.code
  obtain ⟨cdD, hD⟩ := U.cls
  constructor
  intro pins s σ H En I ⟨w0, w, sd, S, eH, r, q⟩
  subst eH
  unfold supS at q
  rcases hsd : sd[0]? with _ | _ | _ | ⟨_ | _ | ⟨c', es'⟩⟩
  · rw [hsd] at q; exact q.elim
  · rw [hsd] at q; exact q.elim
  · rw [hsd] at q; exact q.elim
  · rw [hsd] at q; exact q.elim
  · rw [hsd] at q; exact q.elim
  rw [hsd] at q
  simp only at q
  split at q
  case isFalse => exact q.elim
  case isTrue hc =>
  obtain ⟨rfl, hno⟩ := hc
  obtain ⟨a, hσ, ho, nF, nm, n0⟩ := r.ow 0 _ hsd
  obtain ⟨dx, vs0, hb, _, _⟩ := id ho
  obtain ⟨m1, O1, _⟩ := ins_get I.hok hb
  obtain ⟨od1, J1, _⟩ := O1.look
  have X1 := I.kIn
  have hk := I.ok.kind
  have kof : ∀ x, X.env.kindOf x = (defScope st).names.lookup x := fun x => by rw [he]; rfl
  obtain ⟨oD, hD1, hD2⟩ : ∃ oD, s.heap.get? Dc = some oD ∧ oD.data = .cls cdD := by
    unfold clsIn at hD
    split at hD
    · rename_i c d cd' sl ho
      cases hD
      exact ⟨_, X1 _ _ ho, rfl⟩
    · cases hD
  refine ks_wpAt_Expr_any (ks_wpAt_MethodCall (pl := (do return (← importBound (.Call (.Name "super" p0) [] [] p1) X.env).getD true)) ?_ htree) hi hsw
  obtain ⟨hh, g, d, t, os⟩ := s
  refine ks_wpAt_super_base (env := X.env) ((kof _).trans hks) ((kof _).trans hkc) rfl (by rw [he]) (X1 _ _ hf) rfl (ar := ar) (by show ((defArgs st).posonlyargs ++ (defArgs st).args).head? = _; rw [hp]; rfl) (by rw [he]) (X1 _ _ hcode) rfl hvs hfile U.top ?_
  obtain ⟨mb, hb1, hb2⟩ := I.mod.blt
  refine ks_loadName_global hk ((kof _).trans hks) (Calls.loadGlobal_builtin (by rw [I.ok.glob]; exact I.mod.glob.keeps I.bk) hm (by rw [I.ok.blt]; exact hb1.keeps I.bk) ((hb2 "super" (by decide)).trans (show bootBuiltins "super" = some (.type "super") by decide +kernel)) ⟨rfl, ?_⟩)
  refine wpAny_loadName_free hk ((kof _).trans hkc) (by rw [he]; rfl) ⟨_, X1 _ _ hcell, rfl⟩ ?_
  obtain ⟨m, hns, hlook⟩ := I.loc
  obtain ⟨u0, ru0, lk0⟩ := hlook 0 ar.arg (.ref a) h0 hσ (.inl ((show X.env.scope.names.lookup ar.arg = (defScope st).names.lookup ar.arg by rw [he]).trans hka))
  cases (show u0 = Value.ref a from ru0)
  have hself : m ar.arg = some (.ref a) := by
    rcases lk0 with ⟨_, z⟩ | ⟨z, _⟩
    · exact z
    · have e1 : X.env.scope.names.lookup ar.arg = some .local := (show X.env.scope.names.lookup ar.arg = (defScope st).names.lookup ar.arg by rw [he]).trans hka
      rcases z with z | z <;> (rw [show X.env.kindOf ar.arg = X.env.scope.names.lookup ar.arg from rfl, e1] at z; cases z)
  refine wpAny_loadName_local hk ((kof _).trans hka) hns hself ?_
  refine ks_wpAny_isType_cls hD1 hD2 ⟨rfl, ?_⟩
  refine ks_wpAny_call_super hD1 hD2 J1.at_ J1.cls (fun c e => ?_) (looks_mroIn X1 U.sub) (fun h' eso k1 => ?_)
  · have := J1.no
    unfold notCls at this
    rw [e] at this
    exact Bool.noConfusion this
  have hsz : hh.objs.size < h'.objs.size := Heap.lt_size eso
  have nq : w.H h'.objs.size = none := I.hok.fresh (Nat.le_of_lt hsz)
  have X2 : X.K.In h' := fun b o z => k1 b o (X1 b o z)
  obtain ⟨cdC, hcC⟩ : ∃ cdC, clsIn X.K (G.ca c') = some cdC := by
    have z := U.sup
    unfold ks_superIn at z
    cases hz : clsIn X.K (G.ca c') with
    | none => rw [hz] at z; cases z
    | some cd => exact ⟨cd, rfl⟩
  have halong : alongIn X.K "__init__" ((cdC.mro.dropWhile (· != .ref Dc)).drop 1) = some (some (.ref f2)) := by
    have z := U.sup
    unfold ks_superIn at z
    rw [hcC] at z
    exact z
  obtain ⟨of, hof, hofc⟩ : ∃ of, h'.get? f2 = some of ∧ of.cls = .type "function" := by
    have ht' : (X.K.lookup f2).map (·.cls) = some (.type "function") := U.ty
    cases z : X.K.lookup f2 with
    | none => rw [z] at ht'; cases ht'
    | some of => rw [z] at ht'; exact ⟨of, X2 _ _ z, Option.some.inj ht'⟩
  refine ks_wpAny_getMethod_super eso (looks_opaque X2 U.op) (l₀ := cdC.mro) (fun A Q E s k q => wpAny_bind ((looks_clsIn X2 hcC) A _ E s k (wpAny_pure q))) rfl X2 halong hof hofc (ks_ne X1 J1 hcC) rfl ?_
  have I1 := I.laid (h' := h'.push (methodObj (.ref f2) (.ref a))) (t' := t + 1) (a := h'.objs.size) (o := .met f2 a) (fun b u z => Heap.get?_push_of_some _ (k1 b u z)) (Nat.le_of_lt hsz)
    (show (h'.push (methodObj (.ref f2) (.ref a))).get? h'.objs.size = some (methodObj (.ref f2) (.ref a)) from Heap.get?_push_size h' rfl)
  have eF := Ext.frz (w := w) (p := h'.objs.size) (o := .met f2 a) nq
  have r1 := r.step eF (r.st.frz nq)
  have hmet : (w.frz h'.objs.size (.met f2 a)).H h'.objs.size = some (.met f2 a) := upd_same
  have nmq : h'.objs.size ∉ (w.frz h'.objs.size (.met f2 a)).m := fun z => r.st.there z nq
  have q1 := FinS.stay (eF.stay r.st.dj) q
  have eargs : starEach (e :: es) X.env = (false, eval e X.env) :: starEach es X.env := starEach_cons hs2.1
  have run := ha.run pos pins _ σ (w.frz h'.objs.size (.met f2 a)).H (fun vs H2 => vs.length = n ∧ ∃ w2 S2 ds, w2.H = H2 ∧ R G w0 w2 sd S2 σ ∧ RepVs G w2 ds vs ∧ w2.H h'.objs.size = some (.met f2 a) ∧
      FinS G W w0 w2 En ((fun ds sd S => if ds.length + 1 = m2 then match ms2 (slots n2 (.own (.ins c' es') :: ds.map .val)) S with
      | some (.next sd', S') => match (sd'[0]? : Option Ev.SV) with
        | some (Ev.SV.own o') => some (.next (sd.set 0 (.own o')), S')
        | _ => none
      | _ => none
    else none : List D → Ev.MS) ds sd S2)) I1 ⟨w0, _, sd, S, rfl, r1, exS_step q1 r1 fun w2 S2 ds vs e2 r2 rv q2 => ⟨rv.2, w2, S2, ds, rfl, r2, rv.1, e2.H _ _ nmq hmet, q2⟩⟩
  rw [eargs] at run ⊢
  refine PySem.W.callWith_of (P := PySem.W.MethP X.K h'.objs.size f2 (.ref a)) (by show ((false || (backTo pos (starEach es X.env)).any (·.1)) || false) = false; rw [starEach_all hs2.2 pos]; rfl) (PySem.W.keeps_M U.fi) (Calls.evalArgs_plain (thn run fun us s2 => ?_))
  rintro ⟨vs, H2, I2, rv, lv, w2, S2, ds, rfl, r2, rds, hmet2, q2⟩
  refine ⟨met_P I2 hmet2, ?_⟩
  dsimp only at q2
  split at q2
  case isFalse => exact q2.elim
  case isTrue hl =>
  obtain ⟨a2, hσ2, ho2, nF2, nm2, _⟩ := r2.ow 0 _ hsd
  rw [hσ] at hσ2
  cases hσ2
  have hlen : ds.length + 1 ≤ N2.length := by rw [en, hl]; exact hmn
  have start := R.enterO (N := N2) r2.ex r2.st rds hlen ho2 nF2 nm2 n0
  rw [en] at start
  rcases hms : ms2 (slots n2 (.own (.ins c' es') :: ds.map .val)) S2 with _ | ⟨sd' | _ | _ | _ | _, S3⟩
  · rw [hms] at q2; exact q2.elim
  · rw [hms] at q2
    simp only at q2
    rcases hsd' : sd'[0]? with _ | _ | _ | o'
    · rw [hsd'] at q2; exact q2.elim
    · rw [hsd'] at q2; exact q2.elim
    · rw [hsd'] at q2; exact q2.elim
    rw [hsd'] at q2
    simp only at q2
    have want : (V.ref a :: vs).length = ps2.length ∧ spT G N2 ms2 (V.ref a :: vs) w2.H (fun v H3 => v = .non ∧ ∃ w3, w3.H = H3 ∧ Stay w2 w3 ∧ RepS G w3 S3 ∧ Ext w0 w3 ∧ RepO G w3 a o' ∧ ¬ w3.F a ∧ a ∉ w3.m) (WE W σ) := by
      refine ⟨by rw [List.length_cons, ← rds.length, hl, e2], { w0 with x := some a }, w2, _, S2, rfl, start, ?_⟩
      rw [hms]
      intro w' σ' st3 r3
      obtain ⟨b, hb', ho3, nF3, nm3, _⟩ := r3.ow 0 _ hsd'
      have hb2' := r3.sf a _ rfl hsd'
      rw [hb'] at hb2'
      cases hb2'
      exact ⟨rfl, w', rfl, st3, r3.st, ⟨r3.ex.m, r3.ex.F, r3.ex.H, r3.ex.nm, r3.ex.nF, r3.ex.al⟩, ho3, nF3, nm3⟩
    have bd := B2 X.A X.stack s2 w2.H (.ref a :: us) (V.ref a :: vs) _ _ c.rm0 I2.env0 (.cons rfl rv) want
    refine wpAny_call (PySem.W.method_call (met_P I2 hmet2).1 (codeAny_mono bd ?_))
    rintro (er | fl) s' got
    · exact c.px σ pins _ _ er s' I2 got
    · cases fl with
      | ret u =>
        obtain ⟨v, H', I3, rv3, rfl, w3, rfl, st3, rs3, ex3, ho3, nF3, nm3⟩ := I2.after got
        refine ⟨σ, w3.H, I3, q2 w3 σ st3 ⟨ex3, rs3, by rw [List.length_set]; exact r2.ln, fun i d z => ?_, fun i o z => ?_, fun i j o o2 b z1 z2 _ _ => ?_, fun b o eb z => ?_⟩⟩
        · by_cases hi0 : i = 0
          · subst hi0
            rw [List.getElem?_set_self (List.getElem?_eq_some_iff.mp hsd).1] at z
            cases z
          · rw [List.getElem?_set_ne (fun z => hi0 z.symm)] at z
            obtain ⟨v, z1, z2⟩ := r2.vl i d z
            exact ⟨v, z1, RepV.stay st3 d v z2⟩
        · by_cases hi0 : i = 0
          · subst hi0
            rw [List.getElem?_set_self (List.getElem?_eq_some_iff.mp hsd).1] at z
            cases z
            exact ⟨a, hσ, ho3, nF3, nm3, n0⟩
          · rw [List.getElem?_set_ne (fun z => hi0 z.symm)] at z
            exact absurd z (no_own hno hi0)
        · have e1 : i = 0 := by
            by_cases hi0 : i = 0
            · exact hi0
            · rw [List.getElem?_set_ne (fun z => hi0 z.symm)] at z1
              exact absurd z1 (no_own hno hi0)
          have e2 : j = 0 := by
            by_cases hi0 : j = 0
            · exact hi0
            · rw [List.getElem?_set_ne (fun z => hi0 z.symm)] at z2
              exact absurd z2 (no_own hno hi0)
          rw [e1, e2]
        · exact r2.sf b _ eb hsd
      | next => exact got.elim
      | brk => exact got.elim
      | cont => exact got.elim
  · rw [hms] at q2; exact q2.elim
  · rw [hms] at q2; exact q2.elim
  · rw [hms] at q2; exact q2.elim
  · rw [hms] at q2; exact q2.elim
end
abbrev XS (P : Program) (w : World) (K : PySem.W.Frag) (mg : Str → Option Value) (base : Heap) (N : List Str) (name qual : Str) (st : Stmt) (cc cda f : Addr) (A : Around) (fr : List Env) (s : Shared) (H : Hp) (E : XK) : Cx :=
  ncx (L2.CX P w) P w K mg base N (nfOf name qual st cc cda) f A fr s H E
def BodyS (P : Program) (w : World) (K : PySem.W.Frag) (mg : Str → Option Value) (base : Heap) (G : Sg) (k : Nat) (f cc cda : Addr) (N : List Str) (name qual : Str) (st : Stmt) (ms : Ev.MS) : Prop :=
  ∀ (A : Around) (fr : List Env) (s : Shared) (H : Hp) (E : XK), Ctx G (XS P w K mg base N name qual st cc cda f A fr s H E) (WF E) k →
    PSsAV G (XS P w K mg base N name qual st cc cda f A fr s H E) (WF E) (.func (defBody st) (XS P w K mg base N name qual st cc cda f A fr s H E).env) (defBody st) ms
section
variable {P : Program} {w : World} {K : PySem.W.Frag} {mg : Str → Option Value} {base : Heap} {G : Sg} {k : Nat} {f cc cda Dc C f2 : Addr} {name qual : Str} {st : Stmt} {N ps : List Str} {ms : Ev.MS}
theorem ctxS (cK : G.K = K) (SC : NScope N ps ["__class__"] (defScope st)) {A : Around} {fr : List Env} {s : Shared} {H : Hp} {E : XK} (hr : Rm G.gd (k + 1) (A.deeper (envF (nfOf name qual st cc cda) f s.heap.objs.size))) :
    Ctx G (XS P w K mg base N name qual st cc cda f A fr s H E) (WF E) k := ⟨cK, rfl, hr, SC.nd, fun σ => L2.passAt (L2.takes_of rfl rfl rfl rfl) σ, L2.passes_of rfl⟩
theorem startF_eq {vs : List V} (h : vs.length + 1 ≤ N.length) : startF N vs [none] = L2.start N vs := by
  unfold startF L2.start
  congr 1
  have e : N.length - vs.length = (N.length - vs.length - 1) + 1 := by omega
  rw [e, List.replicate_succ]
  rfl
theorem fns_super (U : Sup P K name qual st f cc cda Dc C f2) (SC : NScope N ps ["__class__"] (defScope st)) (cK : G.K = K) (B : BodyS P w K mg base G k f cc cda N name qual st ms)
    {A : Around} {fr : List Env} {s : Shared} {H : Hp} {args : Args} {us : List Value} {vs : List V} {Q : VK} {E : XK}
    (hb : ∀ (kV doc pm : Value) (an : Option Addr) (ct : Value), bindArgs (fnX name qual (defArgs st) (defBody st) (defScope st) [("__class__", cc)] .none kV doc pm an (.ref cda) ct) args = pure (ps.zip us))
    (hr : Rm G.gd (k + 2) A) (e0 : Env0 P w K mg base A fr s H) (r : Vals vs us) (h : vs.length = ps.length ∧ spT G N ms vs H Q E) : codeAny (model P w) A (.call (.ref f) args) (CR (L2.CX P w) fr P w H s Q E) s := by
  obtain ⟨oc, od, kV, doc, pm, an, ct, osl, hf⟩ := U.fu
  obtain ⟨cl, cld, csl, hcell⟩ := U.cell
  obtain ⟨hl, hsp⟩ := h
  have inK : K.In s.heap := e0.mod.kin.keeps fun b o e => (e0.bs b o e).1
  have lim : s.heap.NoLimit := e0.mod.nolimit.keeps fun b o e => (e0.bs b o e).1
  have hnl : ps.length + 1 ≤ N.length := by
    have q := congrArg List.length SC.pre
    rw [List.length_take, List.length_append] at q
    have : (["__class__"] : List Str).length = 1 := rfl
    omega
  have Cc : CellsAt [(("__class__" : Str), cc)] ["__class__"] [none] s.heap H := by
    refine ⟨rfl, fun y c z => ?_, fun x y c z1 z2 => ?_, fun i y z => ?_⟩
    · have : c = cc := by
        simp only [List.lookup] at z
        split at z
        · cases z; rfl
        · cases z
      subst this
      exact ⟨(e0.bs _ _ (e0.mod.kin _ _ hcell)).2, _, _, inK _ _ hcell, rfl⟩
    · have one : ∀ {x : Str} {c : Addr}, ([(("__class__" : Str), cc)] : List (Str × Addr)).lookup x = some c → x = "__class__" := fun {x c} z => by
        simp only [List.lookup] at z
        split at z
        · next h => exact beq_iff_eq.mp h
        · cases z
      rw [one z1, one z2]
    · refine ⟨cc, ?_, fun v z2 => ?_⟩
      · cases i with
        | zero => simp at z; subst z; rfl
        | succ i => simp at z
      · cases i with
        | zero => simp at z2
        | succ i => simp at z2
  refine ks_codeAny_call_defAt (fd := fnX name qual (defArgs st) (defBody st) (defScope st) [("__class__", cc)] .none kV doc pm an (.ref cda) ct) (body := defBody st) (binds := ps.zip us) hr.room.depth (inK _ _ hf) rfl lim (codeRec_of inK U.cd) rfl (.of_eq (hb kV doc pm an ct)) SC.nocell
    (fun ⟨n, _⟩ hy => SC.par n (List.of_mem_zip hy).1) (fun h₁ hns kp => ?_) SC.co SC.gen SC.kind
  have I : Inv (XS P w K mg base N name qual st cc cda f A fr s H E) [] (startF N vs [none]) H { s with heap := h₁, toks := s.toks + (ps.zip us).length } := inv_startN SC hr.room.hd e0 hl r Cc hns kp
  rw [startF_eq (by omega)] at I
  have run := (B A fr s H E (ctxS cK SC (hr.deeper _))).run [] _ (L2.start N vs) H { nx := fun _ H' => Q .non H', rt := Q } I hsp
  refine ks_wpAt_mono run (fun fl s' hs => ?_) fun e s' hs => hs
  have fin : ∀ {σ' : L2.St} {H' : Hp} {v : V} {u : Value}, Inv (XS P w K mg base N name qual st cc cda f A fr s H E) [] σ' H' s' → L2.RelV v u → Q v H' → CE fr P w H s Q u s' :=
    fun {σ' H' v u} J rv q => ⟨v, H', J.os, J.bare, J.base, J.hok, rv, q⟩
  cases fl with
  | ret u =>
    obtain ⟨v, σ', H', J, rv, q⟩ := hs
    exact fin J rv q
  | next =>
    obtain ⟨σ', H', J, q⟩ := hs
    exact fin (v := V.non) (u := Value.none) J rfl q
  | brk =>
    obtain ⟨_, _, _, q⟩ := hs
    exact False.elim q
  | cont =>
    obtain ⟨_, _, _, q⟩ := hs
    exact False.elim q
theorem cla_super {c : Nat} (U : Sup P K name qual st f cc cda Dc (G.ca c) f2) (SC : NScope N ps ["__class__"] (defScope st)) (cK : G.K = K) (B : BodyS P w K mg base G k f cc cda N name qual st ms)
    (hb : ∀ (kV doc pm : Value) (an : Option Addr) (ct : Value) (us : List Value), us.length = ps.length → bindArgs (fnX name qual (defArgs st) (defBody st) (defScope st) [("__class__", cc)] .none kV doc pm an (.ref cda) ct) ⟨us, []⟩ = pure (ps.zip us))
    (M : Mk K (G.ca c) f) {m n : Nat} (em : ps.length = m) (en : N.length = n) (hmn : m ≤ n) : ClA P w K mg base G (k + 2) c (mkFn c m n ms) := by
  refine ⟨f, M, fun A fr s H us vs Q E hr e0 r h => ?_⟩
  obtain ⟨a, dx, vs, H, Q, rfl, rfl, ha, hdx, ne, rfl, wd, ds, S, eH, rs, rv, q⟩ := h
  subst em en eH
  obtain ⟨w1, e1, ex, s1, nF, nm⟩ := made (C := G.ca c) rs ha hdx ne
  unfold mkFn at q
  split at q
  · next e =>
    have hl : (V.ref a :: vs).length = ps.length := by rw [List.length_cons, ← rv.length]; exact e
    refine fns_super U SC cK B (us := us) (fun kV doc pm an ct => hb kV doc pm an ct us (r.length.symm.trans hl)) hr e0 r ⟨hl, ?_⟩
    rw [← e1]
    exact fin_mk ex s1 (RepVs.mono ex rs.dj _ _ rv) (by omega) (by rw [e1, upd_same]) nF nm ha q
  · exact q.elim
end
end Ev
set_option maxRecDepth 100000
set_option maxHeartbeats 2000000
namespace Ev
open PySem L2
@[irreducible] def Bd (k : Nat) (x : Int) : Prop := x.natAbs < 2 ^ k
theorem Bd.nat {k : Nat} {x : Int} (h : Bd k x) : x.natAbs < 2 ^ k := by
  unfold Bd at h
  exact h
theorem Bd.mk {k : Nat} {x : Int} (h : x.natAbs < 2 ^ k) : Bd k x := by
  unfold Bd
  exact h
theorem Bd.mono {j k : Nat} {x : Int} (h : Bd j x) (l : j ≤ k) : Bd k x := .mk (Nat.lt_of_lt_of_le h.nat (Nat.pow_le_pow_right (by decide) l))
theorem Bd.mul {j k : Nat} {x y : Int} (h : Bd j x) (l : Bd k y) : Bd (j + k) (x * y) := by
  unfold Bd at *
  rw [Int.natAbs_mul, Nat.pow_add]
  have p : 0 < 2 ^ k := Nat.pow_pos (by decide)
  calc x.natAbs * y.natAbs ≤ x.natAbs * 2 ^ k := Nat.mul_le_mul_left _ (Nat.le_of_lt l)
    _ < 2 ^ j * 2 ^ k := Nat.mul_lt_mul_of_pos_right h p
theorem Bd.add {j k : Nat} {x y : Int} (h : Bd j x) (l : Bd k y) : Bd (j + k + 1) (x + y) := by
  have a := Bd.mono h (show j ≤ j + k by omega)
  have b := Bd.mono l (show k ≤ j + k by omega)
  unfold Bd at *
  rw [Nat.pow_succ]
  omega
theorem Bd.sub {j k : Nat} {x y : Int} (h : Bd j x) (l : Bd k y) : Bd (j + k + 1) (x - y) := by
  have a := Bd.mono h (show j ≤ j + k by omega)
  have b := Bd.mono l (show k ≤ j + k by omega)
  unfold Bd at *
  rw [Nat.pow_succ]
  omega
theorem Bd.neg {j : Nat} {x : Int} (h : Bd j x) : Bd j (-x) := by
  unfold Bd at *
  omega
theorem Bd.of64 {x : Int} (h : -18446744073709551616 < x) (l : x < 18446744073709551616) : Bd 64 x := by
  unfold Bd
  omega
theorem Bd.of128 {x : Int} (h : -340282366920938463463374607431768211456 < x) (l : x < 340282366920938463463374607431768211456) : Bd 128 x := by
  unfold Bd
  omega
theorem Bd.ediv {j : Nat} {x y : Int} (h : Bd j x) : Bd j (x / y) := by
  unfold Bd at *
  have := Int.natAbs_ediv_le_natAbs x y
  omega
theorem Bd.emod {j : Nat} {x y : Int} (h : Bd j y) (p : 0 < y) : Bd j (x % y) := by
  unfold Bd at *
  have a := Int.emod_nonneg x (show y ≠ 0 by omega)
  have b := Int.emod_lt_of_pos x p
  omega
theorem Bd.abs {j : Nat} {x : Int} (h : Bd j x) : Bd j (x.natAbs : Int) := by
  unfold Bd at *
  omega
theorem bd_bits {k : Nat} {x : Int} (h : PySem.Builtin.Int.intBits x ≤ k) : Bd k x := by
  unfold Bd
  unfold PySem.Builtin.Int.intBits at h
  by_cases z : x = 0
  · subst z
    exact Nat.pow_pos (by decide)
  · have e : (x == 0) = false := by simpa using z
    rw [e] at h
    simp only [Bool.false_eq_true, if_false] at h
    exact (Nat.log2_lt (by omega)).mp (by omega)
theorem mulOk_bd {j k : Nat} {x y : Int} (h : Bd j x) (l : Bd k y) (c : j + k ≤ 134217728) : mulOk x y = true := mulOk_by h.nat l.nat c
theorem divOk_bd {j : Nat} {x : Int} (p : 0 < x) (h : Bd j x) (c : j ≤ 9000) : divOk x = true := by
  unfold divOk
  rw [Bool.and_eq_true]
  refine ⟨decide_eq_true p, decide_eq_true ?_⟩
  have := (Nat.log2_lt (by omega)).mpr h.nat
  omega
@[irreducible] def Wp {α : Type} (f : M α) (S : List Ob) (P : α → List Ob → Prop) : Prop := Run f S P
@[irreducible] def Ws (f : MS) (sd : List SV) (S : List Ob) (N : List SV → List Ob → Prop) (R : D → List Ob → Prop) (B C : List SV → List Ob → Prop) : Prop := RunS f sd S N R B C
theorem wp_run {α : Type} {f : M α} {S : List Ob} {P : α → List Ob → Prop} : Wp f S P ↔ Run f S P := by unfold Wp; exact Iff.rfl
theorem ws_run {f : MS} {sd : List SV} {S : List Ob} {N : List SV → List Ob → Prop} {R : D → List Ob → Prop} {B C : List SV → List Ob → Prop} : Ws f sd S N R B C ↔ RunS f sd S N R B C := by unfold Ws; exact Iff.rfl
theorem Wp.run {α : Type} {f : M α} {S : List Ob} {P : α → List Ob → Prop} (h : Wp f S P) : Run f S P := wp_run.mp h
theorem Run.wp {α : Type} {f : M α} {S : List Ob} {P : α → List Ob → Prop} (h : Run f S P) : Wp f S P := wp_run.mpr h
theorem Ws.run {f : MS} {sd : List SV} {S : List Ob} {N : List SV → List Ob → Prop} {R : D → List Ob → Prop} {B C : List SV → List Ob → Prop} (h : Ws f sd S N R B C) : RunS f sd S N R B C := ws_run.mp h
theorem RunS.ws {f : MS} {sd : List SV} {S : List Ob} {N : List SV → List Ob → Prop} {R : D → List Ob → Prop} {B C : List SV → List Ob → Prop} (h : RunS f sd S N R B C) : Ws f sd S N R B C := ws_run.mpr h
theorem Wp.mono {α : Type} {f : M α} {S : List Ob} {P P' : α → List Ob → Prop} (h : Wp f S P) (i : ∀ a S', P a S' → P' a S') : Wp f S P' := (h.run.mono i).wp
theorem Ws.mono {m : MS} {sd : List SV} {S : List Ob} {N N' : List SV → List Ob → Prop} {R R' : D → List Ob → Prop} {B B' C C' : List SV → List Ob → Prop} (h : Ws m sd S N R B C) (hN : ∀ sd S, N sd S → N' sd S) (hR : ∀ d S, R d S → R' d S) (hB : ∀ sd S, B sd S → B' sd S) (hC : ∀ sd S, C sd S → C' sd S) : Ws m sd S N' R' B' C' := (h.run.mono hN hR hB hC).ws
theorem Wp.ex {α : Type} {f : M α} {S : List Ob} {P : α → List Ob → Prop} (h : Wp f S P) : ∃ a S', f S = some (.ok a, S') ∧ P a S' := h.run.ex
theorem pure_wp {α : Type} {f : M α} {r : α} (h : ∀ S, Wp f S fun d S' => d = r ∧ S' = S) : f = M.pure r := pure_of fun S => (h S).run
section
variable {α β : Type} {f : M α} {S : List Ob} {P : α → List Ob → Prop} {PD : D → List Ob → Prop} {sd : List SV} {N : List SV → List Ob → Prop} {R : D → List Ob → Prop} {B C : List SV → List Ob → Prop} {m1 m2 : MS}
theorem go_bind {k : α → M β} {Q : β → List Ob → Prop} (h : Wp f S fun a S' => Wp (k a) S' Q) : Wp (M.bind f k) S Q := wp_run.mpr (run_bind.mpr (h.run.mono fun _ _ h => h.run))
theorem go_pure {a : α} (h : P a S) : Wp (M.pure a) S P := wp_run.mpr h
theorem go_get {i : Nat} {d : D} (e : sd[i]? = some (.val d)) (h : PD d S) : Wp (getv i sd) S PD := by rw [getv_val e]; exact wp_run.mpr h
theorem go_ite {c : Prop} [Decidable c] {g : M α} (h : if c then Wp f S P else Wp g S P) : Wp (if c then f else g) S P := by split <;> rename_i c' <;> simpa only [c', if_true, if_false] using h
theorem go_noErr (h : Wp f S P) : Wp (noErr f) S P := wp_run.mpr (run_noErr.mpr h.run)
theorem go_val {r : α} (e : f = M.pure r) (h : P r S) : Wp f S P := by subst e; exact wp_run.mpr h
theorem go_use {P' : α → List Ob → Prop} (h : Wp f S P') (i : ∀ a S', P' a S' → P a S') : Wp f S P := h.mono i
theorem gs_next (h : N sd S) : Ws nextS sd S N R B C := ws_run.mpr h
theorem gs_seq (h : Ws m1 sd S (fun sd' S' => Ws m2 sd' S' N R B C) R B C) : Ws (seqS m1 m2) sd S N R B C := ws_run.mpr (runS_seq.mpr (h.run.mono (fun _ _ h => h.run) (fun _ _ h => h) (fun _ _ h => h) (fun _ _ h => h)))
theorem gs_ret {g : List SV → M D} (h : Wp (g sd) S R) : Ws (retS g) sd S N R B C := ws_run.mpr (runS_ret.mpr h.run)
theorem gs_retN (h : R .non S) : Ws (fun _ S => some (.ret .non, S)) sd S N R B C := ws_run.mpr h
theorem gs_brk (h : B sd S) : Ws (fun sd S => some (.brk sd, S)) sd S N R B C := ws_run.mpr h
theorem gs_cont (h : C sd S) : Ws (fun sd S => some (.cont sd, S)) sd S N R B C := ws_run.mpr h
theorem gs_asg {g : List SV → M D} {i : Nat} (h : Wp (g sd) S fun d S' => N (sd.set i (.val d)) S') : Ws (asgS g (setT i)) sd S N R B C := ws_run.mpr (runS_asg.mpr h.run)
theorem gs_tgt {g : List SV → M D} {t : Tgt} (h : Wp (g sd) S fun d S' => match t d sd S' with | some (sd2, S2) => N sd2 S2 | none => False) : Ws (asgS g t) sd S N R B C := ws_run.mpr (runS_tgt.mpr h.run)
theorem gs_par {g : List SV → M (List D)} {i j : Nat} (h : Wp (g sd) S fun ds S' => match ds with | [a, b] => N ((sd.set i (.val a)).set j (.val b)) S' | _ => False) : Ws (parS i j g) sd S N R B C := ws_run.mpr (runS_par.mpr h.run)
theorem gs_if {g : List SV → M Bool} (h : Wp (g sd) S fun k S' => if k = true then Ws m1 sd S' N R B C else Ws m2 sd S' N R B C) : Ws (exS g fun k => if k = true then m1 else m2) sd S N R B C := ws_run.mpr (runS_if.mpr (h.run.mono fun k _ h => by cases k <;> exact Ws.run h))
theorem gs_own {g : List SV → M (List D)} {i : Nat} (h : Wp (g sd) S fun ds S' => N (sd.set i (.own (.lst ds))) S') : Ws (ownS i g) sd S N R B C := ws_run.mpr (runS_own.mpr h.run)
theorem gs_for {g : List SV → M (List D)} {t : Tgt} {body : MS} (h : Wp (g sd) S fun ds S' => Ws (loopS t body ds) sd S' N R B C) : Ws (forS g t body) sd S N R B C := ws_run.mpr (runS_for.mpr (h.run.mono fun _ _ h => h.run))
theorem gs_expr {g : List SV → M α} (h : Wp (g sd) S fun _ S' => N sd S') : Ws (exS g fun _ => nextS) sd S N R B C := by
  refine ws_run.mpr ?_
  rw [runS_ex]
  exact h.run
theorem gs_app {g : List SV → M D} {i : Nat} {ds : List D} (e : sd[i]? = some (.own (.lst ds))) (l : ds.length < lim) (h : Wp (g sd) S fun d S' => N (sd.set i (.own (.lst (ds ++ [d])))) S') : Ws (appS i g) sd S N R B C := by
  have z : appS i g sd S = exS g (fun d sd S => some (.next (sd.set i (.own (.lst (ds ++ [d])))), S)) sd S := by
    unfold appS
    rw [e]
    simp only [l, if_true]
  refine ws_run.mpr ?_
  unfold RunS
  rw [z]
  exact (runS_ex (k := fun d sd S => some (.next (sd.set i (.own (.lst (ds ++ [d])))), S))).mpr h.run
theorem gs_frz {i : Nat} {o : Ob} (e : sd[i]? = some (.own o)) (h : N (sd.set i (.val (frzO o))) S) : Ws (frzS i) sd S N R B C := by
  refine ws_run.mpr ?_
  unfold RunS frzS
  rw [e]
  exact h
theorem go_fn {m n : Nat} {ms : MS} {ds : List D} (l : ds.length = m) (h : Ws ms (slots n (ds.map .val)) S (fun _ S' => PD .non S') PD (fun _ _ => False) (fun _ _ => False)) : Wp (runFn m n ms ds) S PD := wp_run.mpr (run_fn.mpr ⟨l, h.run⟩)
theorem gs_loop {t : Tgt} {body : MS} (J : List D → List SV → List Ob → Prop) (step : ∀ d ds sd S, J (d :: ds) sd S → ∃ sd1 S1, t d sd S = some (sd1, S1) ∧ Ws body sd1 S1 (fun sd2 S2 => J ds sd2 S2) R (fun sd2 S2 => N sd2 S2) (fun sd2 S2 => J ds sd2 S2))
    (fin : ∀ sd S, J [] sd S → N sd S) (ds : List D) (sd : List SV) (S : List Ob) (h : J ds sd S) : Ws (loopS t body ds) sd S N R B C :=
  ws_run.mpr (loop_rule J (fun d ds sd S h => let ⟨a, b, c, e⟩ := step d ds sd S h; ⟨a, b, c, e.run⟩) fin ds sd S h)
theorem gs_iter {c : List SV → M Bool} {body : MS} (J : Nat → List SV → List Ob → Prop) (step : ∀ n sd S, J n sd S → Wp (c sd) S fun b S1 => if b = true then Ws body sd S1 (fun sd2 S2 => ∃ n', n' < n ∧ J n' sd2 S2) R N (fun sd2 S2 => ∃ n', n' < n ∧ J n' sd2 S2) else N sd S1)
    (n : Nat) (sd : List SV) (S : List Ob) (l : n < bigW) (h : J n sd S) : Ws (whileS c body) sd S N R B C :=
  ws_run.mpr (iter_rule J (fun n sd S h => (step n sd S h).run.mono fun b _ h => by cases b <;> first | exact h | exact Ws.run h) bigW n sd S l h)
theorem ite_d {p : Prop} [Decidable p] {X Y : Prop} (h : p → X) (l : ¬p → Y) : if decide p = true then X else Y := by
  by_cases c : p
  · rw [if_pos (decide_eq_true c)]; exact h c
  · rw [if_neg (by simpa using c)]; exact l c
theorem ite_dt {p : Prop} [Decidable p] {X Y : Prop} (c : p) (h : X) : if decide p = true then X else Y := by
  rw [if_pos (decide_eq_true c)]; exact h
theorem ite_df {p : Prop} [Decidable p] {X Y : Prop} (c : ¬p) (h : Y) : if decide p = true then X else Y := by
  rw [if_neg (by simpa using c)]; exact h
theorem ite_t {X Y : Prop} (h : X) : if true = true then X else Y := h
theorem ite_f {X Y : Prop} (h : Y) : if false = true then X else Y := h
theorem ite_n {b : Bool} {X Y : Prop} (h : if b = true then Y else X) : if (!b) = true then X else Y := by
  cases b <;> exact h
theorem p_toB {b : Bool} {P : Bool → List Ob → Prop} (h : P b S) : Wp (toB (.bl b)) S P := wp_run.mpr h
theorem p_toI {i : Int} {P : Option Int → List Ob → Prop} (h : P (some i) S) : Wp (toI (.int i)) S P := wp_run.mpr h
theorem p_on1 {g : D → M D} {d : D} (h : Wp (g d) S PD) : Wp (on1 g [d]) S PD := h
theorem p_on2 {g : D → D → M D} {d e : D} (h : Wp (g d e) S PD) : Wp (on2 g [d, e]) S PD := h
theorem p_add {i j : Int} (h : PD (.int (i + j)) S) : Wp (dAdd (.int i) (.int j)) S PD := wp_run.mpr h
theorem p_sub {i j : Int} (h : PD (.int (i - j)) S) : Wp (dSub (.int i) (.int j)) S PD := wp_run.mpr h
theorem p_neg {i : Int} (h : PD (.int (-i)) S) : Wp (dNeg (.int i)) S PD := wp_run.mpr h
theorem p_abs {i : Int} (h : PD (.int (i.natAbs : Int)) S) : Wp (dAbs (.int i)) S PD := by
  have e : (if i < 0 then -i else i) = (i.natAbs : Int) := by split <;> omega
  refine wp_run.mpr ?_
  show PD (.int (if i < 0 then -i else i)) S
  rw [e]
  exact h
theorem p_mul {j k : Nat} {x y : Int} (hx : Bd j x) (hy : Bd k y) (c : j + k ≤ 134217728) (h : PD (.int (x * y)) S) : Wp (dMul (.int x) (.int y)) S PD := by
  rw [mul_int (mulOk_bd hx hy c)]
  exact wp_run.mpr h
theorem p_div {k : Nat} {x y : Int} (p : 0 < y) (hy : Bd k y) (c : k ≤ 9000) (h : PD (.int (x / y)) S) : Wp (dFdiv (.int x) (.int y)) S PD := by
  rw [fdiv_int (divOk_bd p hy c)]
  exact wp_run.mpr h
theorem p_mod {x y : Int} (p : 0 < y) (h : PD (.int (x % y)) S) : Wp (dMod (.int x) (.int y)) S PD := by
  rw [mod_int p]
  exact wp_run.mpr h
theorem p_cmp {p : Int → Int → Bool} {i j : Int} (h : PD (.bl (p i j)) S) : Wp (dCmpI p (.int i) (.int j)) S PD := wp_run.mpr h
theorem p_int {i : Int} (h : PD (.int i) S) : Wp (dInt (.int i)) S PD := wp_run.mpr h
theorem p_ixT {ds : List D} {i : Int} {d : D} (e : L2.atI ds i = some d) (h : PD d S) : Wp (dIx (.tup ds) (.int i)) S PD := by
  rw [ix_tup e]
  exact wp_run.mpr h
theorem p_ixL {ds : List D} {i : Int} {d : D} (e : L2.atI ds i = some d) (h : PD d S) : Wp (dIx (.lst ds) (.int i)) S PD := by
  rw [ix_lst e]
  exact wp_run.mpr h
theorem p_lenT {ds : List D} (h : PD (.int ds.length) S) : Wp (dLen (.tup ds)) S PD := wp_run.mpr h
theorem p_lenL {ds : List D} (h : PD (.int ds.length) S) : Wp (dLen (.lst ds)) S PD := wp_run.mpr h
theorem p_lenS {ds : List D} (h : PD (.int ds.length) S) : Wp (dLen (.scr ds)) S PD := wp_run.mpr h
theorem p_isN (h : PD (.bl true) S) : Wp (dIs false .non .non) S PD := wp_run.mpr h
theorem p_isntN (h : PD (.bl false) S) : Wp (dIs true .non .non) S PD := wp_run.mpr h
theorem p_eqI {i j : Int} (h : PD (.bl (decide (i = j))) S) : Wp (dEq false (.int i) (.int j)) S PD := wp_run.mpr h
theorem p_neI {i j : Int} (h : PD (.bl (!decide (i = j))) S) : Wp (dEq true (.int i) (.int j)) S PD := wp_run.mpr h
theorem p_eqS {x y : Str} (h : PD (.bl (decide (x = y))) S) : Wp (dEq false (.str x) (.str y)) S PD := wp_run.mpr h
theorem p_neS {x y : Str} (h : PD (.bl (!decide (x = y))) S) : Wp (dEq true (.str x) (.str y)) S PD := wp_run.mpr h
theorem p_seqT {ds : List D} {P : List D → List Ob → Prop} (h : P ds S) : Wp (seqOf (.tup ds)) S P := wp_run.mpr h
theorem p_seqL {ds : List D} {P : List D → List Ob → Prop} (h : P ds S) : Wp (seqOf (.lst ds)) S P := wp_run.mpr h
theorem p_ref {o : Ob} (h : PD (.ref S.length) (S ++ [o])) : Wp (newRef o) S PD := wp_run.mpr h
end
section
variable {S : List Ob} {PD : D → List Ob → Prop} {PL : List D → List Ob → Prop}
theorem p_min {i j : Int} (h : PD (.int (if j < i then j else i)) S) : Wp (dMin (.int i) (.int j)) S PD := wp_run.mpr h
theorem p_max {i j : Int} (h : PD (.int (if j > i then j else i)) S) : Wp (dMax (.int i) (.int j)) S PD := wp_run.mpr h
theorem p_rng1 {i : Int} (l : -4611686018427387904 ≤ i) (u : i < 4611686018427387904) (h : PL (rngD 0 i.toNat) S) : Wp (rng1 [.int i]) S PL := by
  refine wp_run.mpr ?_
  show Run (if -(2 ^ 62) ≤ i ∧ i < 2 ^ 62 then M.pure (rngD 0 i.toNat) else M.stuck) S PL
  rw [if_pos ⟨by omega, by omega⟩]
  exact h
theorem p_rng2 {i j : Int} (l : -4611686018427387904 ≤ i) (u : i < 4611686018427387904) (l2 : -4611686018427387904 ≤ j) (u2 : j < 4611686018427387904) (h : PL (rngD i (j - i).toNat) S) : Wp (rng2 [.int i, .int j]) S PL := by
  refine wp_run.mpr ?_
  show Run (if (-(2 ^ 62) ≤ i ∧ i < 2 ^ 62) ∧ -(2 ^ 62) ≤ j ∧ j < 2 ^ 62 then M.pure (rngD i (j - i).toNat) else M.stuck) S PL
  rw [if_pos ⟨⟨by omega, by omega⟩, by omega, by omega⟩]
  exact h
theorem rng_mem {lo : Int} {n : Nat} {d : D} (h : d ∈ rngD lo n) : ∃ i : Int, d = .int i ∧ lo ≤ i ∧ i < lo + n := by
  obtain ⟨m, hm, rfl⟩ := List.mem_map.mp h
  have := List.mem_range.mp hm
  exact ⟨_, rfl, by omega, by omega⟩
theorem rng_len {lo : Int} {n : Nat} : (rngD lo n).length = n := by
  unfold rngD
  rw [List.length_map, List.length_range]
end
theorem go_lc {fi : List SV → M (List D)} {vs : List Nat} {t : TgP} {tt : List SV → M Bool} {fe : List SV → M D} {sd : List SV} {S : List Ob} {P : D → List Ob → Prop}
    (h : Wp (fi sd) S fun ds S' => Wp (compS t tt fe (wipeD sd vs) ds []) S' fun acc S2 => P (.lst acc) S2) : Wp (lcS fi vs t tt fe sd) S P :=
  go_bind (h.mono fun _ _ h => go_bind (h.mono fun _ _ h => go_pure h))
theorem go_comp {t : TgP} {tt : List SV → M Bool} {fe : List SV → M D} {sdw : List SV} {P : List D → List Ob → Prop} (J : List D → List D → List Ob → Prop)
    (step : ∀ d ds acc S, J (d :: ds) acc S → ∃ sd1, t d sdw = some sd1 ∧ acc.length < lim ∧ Wp (tt sd1) S fun b S1 => if b = true then Wp (fe sd1) S1 fun y S2 => J ds (acc ++ [y]) S2 else J ds acc S1)
    (fin : ∀ acc S, J [] acc S → P acc S) : ∀ ds acc S, J ds acc S → Wp (compS t tt fe sdw ds acc) S P
  | [], acc, S, h => go_pure (fin acc S h)
  | d :: ds, acc, S, h => by
    obtain ⟨sd1, e, l, hb⟩ := step d ds acc S h
    unfold compS
    rw [e]
    refine go_bind (go_noErr (hb.mono fun b S1 hc => ?_))
    cases b with
    | false => exact go_comp J step fin ds acc S1 hc
    | true =>
      refine go_bind (go_noErr (Wp.mono hc fun y S2 hy => ?_))
      rw [if_pos l]
      exact go_comp J step fin ds _ S2 hy
theorem all_true {acc : List D} (h : ∀ a ∈ acc, a = .bl true) : dAll (.lst acc) = M.pure (.bl true) := by
  have : ∀ acc : List D, (∀ a ∈ acc, a = .bl true) → ∃ bs, bls acc = some bs ∧ bs.all id = true := by
    intro acc
    induction acc with
    | nil => exact fun _ => ⟨[], rfl, rfl⟩
    | cons a acc ih =>
      intro h
      obtain ⟨bs, e1, e2⟩ := ih fun x hx => h x (List.mem_cons_of_mem _ hx)
      have ea := h a List.mem_cons_self
      subst ea
      refine ⟨true :: bs, ?_, ?_⟩
      · unfold bls
        rw [e1]
        rfl
      · rw [List.all_cons, e2]
        rfl
  obtain ⟨bs, e1, e2⟩ := this acc h
  unfold dAll
  simp only [e1, e2]
theorem all_spots {t : TgP} {fe : List SV → M D} {sdw : List SV} {n : Nat} (hn : n ≤ 100) (S : List Ob)
    (step : ∀ i : Int, 0 ≤ i → i < 100 → ∀ S, ∃ sd1, t (.int i) sdw = some sd1 ∧ Wp (fe sd1) S fun y _ => y = .bl true) :
    Wp (compS t (fun _ => M.pure true) fe sdw (rngD 0 n) []) S fun acc _ => dAll (.lst acc) = M.pure (.bl true) := by
  refine go_comp (J := fun ds acc _ => (∀ d ∈ ds, ∃ i : Int, d = .int i ∧ 0 ≤ i ∧ i < 100) ∧ (∀ a ∈ acc, a = .bl true) ∧ acc.length + ds.length ≤ 100) ?_ ?_ _ _ _ ?_
  · rintro d ds acc S ⟨hd, ha, hl⟩
    obtain ⟨i, rfl, h0, h1⟩ := hd d List.mem_cons_self
    obtain ⟨sd1, e, hw⟩ := step i h0 h1 S
    rw [List.length_cons] at hl
    refine ⟨sd1, e, by unfold lim; omega, go_pure (ite_t (hw.mono fun y S2 hy => ⟨fun d hd' => hd d (List.mem_cons_of_mem _ hd'), fun a ha' => ?_, ?_⟩))⟩
    · rcases List.mem_append.mp ha' with h | h
      · exact ha a h
      · rw [List.mem_singleton.mp h, hy]
    · rw [List.length_append, List.length_singleton]; omega
  · rintro acc S ⟨_, ha, _⟩
    exact all_true ha
  · refine ⟨fun d hd => ?_, fun a ha => absurd ha List.not_mem_nil, ?_⟩
    · obtain ⟨i, e, h0, h1⟩ := rng_mem hd
      exact ⟨i, e, h0, by omega⟩
    · rw [rng_len, List.length_nil]; omega
end Ev
local macro_rules | `(tactic| regstrif_fact) => `(tactic| first
  | assumption
  | ((with_reducible show Ev.Bd _ (_ * _)); refine Ev.Bd.mul (by regstrif_fact) (by regstrif_fact))
  | ((with_reducible show Ev.Bd _ (_ + _)); refine Ev.Bd.add (by regstrif_fact) (by regstrif_fact))
  | ((with_reducible show Ev.Bd _ (_ - _)); refine Ev.Bd.sub (by regstrif_fact) (by regstrif_fact))
  | ((with_reducible show Ev.Bd _ (-_)); refine Ev.Bd.neg (by regstrif_fact))
  | ((with_reducible show Ev.Bd _ (Int.natAbs _ : Int)); refine Ev.Bd.abs (by regstrif_fact))
  | ((with_reducible show Ev.Bd _ (_ % _)); refine Ev.Bd.emod (by regstrif_fact) (by first | assumption | omega))
  | ((with_reducible show Ev.Bd _ (_ / _)); refine Ev.Bd.ediv (by regstrif_fact))
  | exact Ev.Bd.of64 (by omega) (by omega)
  | exact Ev.Bd.of128 (by omega) (by omega))
local macro_rules | `(tactic| regstrif_gather) => `(tactic| first
  | with_reducible refine Ev.go_bind ?_
  | with_reducible refine Ev.go_pure ?_
  | ((with_reducible show Ev.Wp (Ev.getv _ _) _ _); refine Ev.go_get (by exact rfl) ?_)
  | with_reducible (first
    | refine Ev.gs_seq ?_ | refine Ev.gs_next ?_ | refine Ev.gs_asg ?_ | refine Ev.gs_if ?_ | refine Ev.gs_ret ?_ | refine Ev.gs_for ?_ | refine Ev.gs_par ?_ | refine Ev.gs_own ?_ | refine Ev.gs_expr ?_
    | refine Ev.p_toB ?_ | refine Ev.p_on1 ?_ | refine Ev.p_on2 ?_ | refine Ev.p_cmp ?_ | refine Ev.p_add ?_ | refine Ev.p_sub ?_
    | refine Ev.go_lc ?_ | refine Ev.go_ite ?_ | refine Ev.go_noErr ?_ | refine Ev.ite_t ?_ | refine Ev.ite_f ?_ | refine Ev.ite_n ?_
    | refine Ev.p_eqI ?_ | refine Ev.p_neI ?_ | refine Ev.p_eqS ?_ | refine Ev.p_neS ?_
    | refine Ev.p_neg ?_ | refine Ev.p_abs ?_ | refine Ev.p_int ?_ | refine Ev.p_toI ?_
    | refine Ev.p_lenT ?_ | refine Ev.p_lenL ?_ | refine Ev.p_lenS ?_ | refine Ev.p_isN ?_ | refine Ev.p_isntN ?_ | refine Ev.p_seqT ?_ | refine Ev.p_seqL ?_
    | refine Ev.p_min ?_ | refine Ev.p_max ?_ | refine Ev.p_ref ?_ | refine Ev.gs_retN ?_ | refine Ev.gs_brk ?_ | refine Ev.gs_cont ?_)
  | ((with_reducible refine Ev.p_mod ?_ ?_); (· first | assumption | omega))
  | ((with_reducible show Ev.Wp (Ev.dMul (.int _) (.int _)) _ _); refine Ev.p_mul (by regstrif_fact) (by regstrif_fact) (by first | decide | omega) ?_)
  | ((with_reducible show Ev.Wp (Ev.dFdiv (.int _) (.int _)) _ _); refine Ev.p_div (by first | assumption | omega) (by regstrif_fact) (by first | decide | omega) ?_)
  | ((with_reducible show Ev.Wp (Ev.dIx (.tup _) (.int _)) _ _); refine Ev.p_ixT (by exact rfl) ?_)
  | ((with_reducible show Ev.Wp (Ev.dIx (.lst _) (.int _)) _ _); refine Ev.p_ixL (by exact rfl) ?_)
  | ((with_reducible show Ev.Ws (Ev.appS _ _) _ _ _ _ _ _); refine Ev.gs_app (by exact rfl) (by first | decide | omega) ?_)
  | ((with_reducible show Ev.Ws (Ev.frzS _) _ _ _ _ _ _); refine Ev.gs_frz (by exact rfl) ?_)
  | ((with_reducible refine Ev.p_rng1 ?_ ?_ ?_); (· omega); (· omega))
  | ((with_reducible refine Ev.p_rng2 ?_ ?_ ?_ ?_ ?_); (· omega); (· omega); (· omega); (· omega))
  | ((with_reducible refine Ev.ite_dt ?_ ?_); (· first | assumption | omega))
  | ((with_reducible refine Ev.ite_df ?_ ?_); (· first | assumption | omega))
  | regstrif_slice
  | with_reducible refine Ev.gs_tgt ?_)
local macro_rules | `(tactic| regstrif_slice) => `(tactic| fail "no step is ev_known")
set_option maxRecDepth 100000
set_option maxHeartbeats 2000000
namespace Ev
open PySem L2
@[irreducible] def Shw (k n : Nat) (d : D) : Prop := ∃ p, toP d = some p ∧ p.showable = true ∧ p.canLay0 = true ∧ p.depth ≤ k ∧ p.shown.length ≤ n
@[irreducible] def ShwL (k n : Nat) (ds : List D) : Prop := ∃ ps, toPs ds = some ps ∧ PyData.showableAll ps = true ∧ PyData.canLayAll0 ps = true ∧ PyData.depthAll ps ≤ k ∧ ((PyData.shownAll ps).map (·.length)).sum + 2 * ps.length ≤ n
theorem Shw.mono {k n k' n' : Nat} {d : D} (h : Shw k n d) (hk : k ≤ k') (hn : n ≤ n') : Shw k' n' d := by
  unfold Shw at *
  obtain ⟨p, a, b, c, e, f⟩ := h
  exact ⟨p, a, b, c, by omega, by omega⟩
theorem shw_non : Shw 0 5 .non := by
  unfold Shw
  exact ⟨_, rfl, rfl, rfl, Nat.le_refl _, by decide⟩
theorem shw_bl (b : Bool) : Shw 0 5 (.bl b) := by
  unfold Shw
  exact ⟨_, rfl, rfl, rfl, Nat.le_refl _, by cases b <;> decide⟩
theorem shw_int {j : Nat} {i : Int} (h : Bd j i) (l : j ≤ 1920) : Shw 0 1921 (.int i) := by
  have a := (h.mono l).nat
  have b : i.natAbs.log2 < 1920 := by
    by_cases z : i.natAbs = 0
    · rw [z]
      decide +kernel
    · exact (Nat.log2_lt z).mpr a
  have c := PyProof.Rows.int_text_len_1921 b
  unfold Shw
  refine ⟨_, rfl, decide_eq_true b, rfl, Nat.le_refl _, ?_⟩
  show (Str.ofString (toString i)).length ≤ 1921
  omega
theorem shl_nil : ShwL 0 0 [] := by
  unfold ShwL
  exact ⟨[], rfl, rfl, rfl, Nat.le_refl _, Nat.le_refl _⟩
theorem shl_cons {k n k' n' : Nat} {d : D} {ds : List D} (h : Shw k n d) (l : ShwL k' n' ds) : ShwL (k + k') (n + 2 + n') (d :: ds) := by
  unfold Shw at h
  unfold ShwL at *
  obtain ⟨p, a, b, c, e, f⟩ := h
  obtain ⟨ps, a', b', c', e', f'⟩ := l
  refine ⟨p :: ps, ?_, ?_, ?_, ?_, ?_⟩
  · unfold toPs
    rw [a, a']
  · unfold PyData.showableAll
    rw [b, b']
    rfl
  · unfold PyData.canLayAll0
    rw [c, c']
    rfl
  · unfold PyData.depthAll
    omega
  · unfold PyData.shownAll
    simp only [List.map_cons, List.sum_cons, List.length_cons]
    omega
theorem len_shownAll : ∀ ps : List PyData, (PyData.shownAll ps).length = ps.length
  | [] => rfl
  | p :: ps => by
    unfold PyData.shownAll
    rw [List.length_cons, List.length_cons, len_shownAll ps]
theorem shw_tup {k n : Nat} {ds : List D} (h : ShwL k n ds) : Shw (k + 1) (n + 3) (.tup ds) := by
  unfold ShwL at h
  unfold Shw
  obtain ⟨ps, a, b, c, e, f⟩ := h
  refine ⟨.tuple ps, by unfold toP; rw [a]; rfl, by unfold PyData.showable; exact b, by unfold PyData.canLay0; exact c, by unfold PyData.depth; omega, ?_⟩
  have := tupleText_len_le (PyData.shownAll ps)
  rw [len_shownAll] at this
  show (tupleText (PyData.shownAll ps)).length ≤ _
  omega
theorem shw_lst {k n : Nat} {ds : List D} (h : ShwL k n ds) : Shw (k + 1) (n + 3) (.lst ds) := by
  unfold ShwL at h
  unfold Shw
  obtain ⟨ps, a, b, c, e, f⟩ := h
  refine ⟨.list ps, by unfold toP; rw [a]; rfl, by unfold PyData.showable; exact b, by unfold PyData.canLay0; exact c, by unfold PyData.depth; omega, ?_⟩
  have := listText_len_le (PyData.shownAll ps)
  rw [len_shownAll] at this
  show (listText (PyData.shownAll ps)).length ≤ _
  omega
@[irreducible] def txtD (d : D) : Str := match toP d with
  | some p => p.shown
  | none => ""
theorem repr_get {k n : Nat} {d : D} (h : Shw k n d) (hk : k ≤ 60) (hn : n ≤ lim) : dRepr d = M.pure (.str (txtD d)) := by
  unfold Shw at h
  obtain ⟨p, a, b, c, e, f⟩ := h
  unfold dRepr txtD
  rw [a]
  have g : reprOk p = true := by
    unfold reprOk
    rw [b, PyData.hasDict_of_canLay p c]
    simp only [Bool.not_false, Bool.and_true, Bool.true_and, Bool.and_eq_true, decide_eq_true_eq]
    omega
  simp only [g, if_true]
section
variable {S : List Ob} {PD : D → List Ob → Prop}
theorem p_repr {k n : Nat} {d : D} (h : Shw k n d) (hk : k ≤ 60) (hn : n ≤ lim) (q : PD (.str (txtD d)) S) : Wp (dRepr d) S PD := by
  rw [repr_get h hk hn]
  exact go_pure q
theorem p_eqSS {x : Str} (h : PD (.bl true) S) : Wp (dEq false (.str x) (.str x)) S PD := by
  refine p_eqS ?_
  rw [decide_eq_true rfl]
  exact h
theorem p_neSS {x : Str} (h : PD (.bl false) S) : Wp (dEq true (.str x) (.str x)) S PD := by
  refine p_neS ?_
  rw [decide_eq_true rfl]
  exact h
theorem p_eqB {x y : Bool} (h : PD (.bl (decide (x = y))) S) : Wp (dEq false (.bl x) (.bl y)) S PD := wp_run.mpr h
theorem p_neB {x y : Bool} (h : PD (.bl (!decide (x = y))) S) : Wp (dEq true (.bl x) (.bl y)) S PD := wp_run.mpr h
end
mutual
def noB : PyData → Bool
  | .none | .int _ | .str _ => true
  | .bool _ | .dict _ => false
  | .list xs | .tuple xs => noBs xs
def noBs : List PyData → Bool
  | [] => true
  | x :: xs => noB x && noBs xs
end
mutual
theorem eqv_iff : ∀ p q : PyData, noB p = true → noB q = true → PyData.eqv p q = true → p = q
  | .none, q, _, h, e => by cases q <;> first | rfl | simp [PyData.eqv] at e
  | .int i, q, _, h, e => by cases q <;> simp [PyData.eqv, noB] at e h; rw [e]
  | .str x, q, _, h, e => by cases q <;> simp [PyData.eqv, noB] at e h; rw [e]
  | .list xs, .list ys, g, h, e => by
    unfold noB at g h
    unfold PyData.eqv at e
    rw [eqvAll_iff xs ys g h e]
  | .tuple xs, .tuple ys, g, h, e => by
    unfold noB at g h
    unfold PyData.eqv at e
    rw [eqvAll_iff xs ys g h e]
  | .list xs, .none, _, _, e | .list xs, .int _, _, _, e | .list xs, .str _, _, _, e | .list xs, .tuple _, _, _, e | .list xs, .bool _, _, _, e | .list xs, .dict _, _, _, e => by simp [PyData.eqv] at e
  | .tuple xs, .none, _, _, e | .tuple xs, .int _, _, _, e | .tuple xs, .str _, _, _, e | .tuple xs, .list _, _, _, e | .tuple xs, .bool _, _, _, e | .tuple xs, .dict _, _, _, e => by simp [PyData.eqv] at e
  | .bool _, _, g, _, _ => by simp [noB] at g
  | .dict _, _, g, _, _ => by simp [noB] at g
theorem eqvAll_iff : ∀ ps qs : List PyData, noBs ps = true → noBs qs = true → PyData.eqvAll ps qs = true → ps = qs
  | [], [], _, _, _ => rfl
  | [], _ :: _, _, _, e => by simp [PyData.eqvAll] at e
  | _ :: _, [], _, _, e => by simp [PyData.eqvAll] at e
  | p :: ps, q :: qs, g, h, e => by
    unfold noBs at g h
    unfold PyData.eqvAll at e
    rw [Bool.and_eq_true] at g h e
    rw [eqv_iff p q g.1 h.1 e.1, eqvAll_iff ps qs g.2 h.2 e.2]
end
@[irreducible] def Pln (k : Nat) (d : D) (p : PyData) : Prop := toP d = some p ∧ noB p = true ∧ p.canLay0 = true ∧ p.depth ≤ k
@[irreducible] def PlnL (k : Nat) (ds : List D) (ps : List PyData) : Prop := toPs ds = some ps ∧ noBs ps = true ∧ PyData.canLayAll0 ps = true ∧ PyData.depthAll ps ≤ k
theorem pln_int {i : Int} : Pln 0 (.int i) (.int i) := by unfold Pln; exact ⟨rfl, rfl, rfl, Nat.le_refl _⟩
theorem pll_nil : PlnL 0 [] [] := by unfold PlnL; exact ⟨rfl, rfl, rfl, Nat.le_refl _⟩
theorem pll_cons {j k : Nat} {d : D} {p : PyData} {ds : List D} {ps : List PyData} (h : Pln j d p) (l : PlnL k ds ps) : PlnL (j + k) (d :: ds) (p :: ps) := by
  unfold Pln at h
  unfold PlnL at *
  obtain ⟨a, b, c, e⟩ := h
  obtain ⟨a', b', c', e'⟩ := l
  refine ⟨?_, ?_, ?_, ?_⟩
  · unfold toPs
    rw [a, a']
  · unfold noBs
    rw [b, b']
    rfl
  · unfold PyData.canLayAll0
    rw [c, c']
    rfl
  · unfold PyData.depthAll
    omega
theorem pll_map {α : Type} {k : Nat} {f : α → D} {g : α → PyData} : ∀ {xs : List α}, (∀ x ∈ xs, Pln k (f x) (g x)) → PlnL k (xs.map f) (xs.map g)
  | [], _ => by unfold PlnL; exact ⟨rfl, rfl, rfl, Nat.zero_le _⟩
  | x :: xs, h => by
    have h1 := h x List.mem_cons_self
    have h2 := pll_map (xs := xs) fun y hy => h y (List.mem_cons_of_mem _ hy)
    unfold Pln at h1
    unfold PlnL at *
    obtain ⟨a, b, c, e⟩ := h1
    obtain ⟨a', b', c', e'⟩ := h2
    refine ⟨?_, ?_, ?_, ?_⟩
    · rw [List.map_cons, List.map_cons]
      unfold toPs
      rw [a, a']
    · rw [List.map_cons]
      unfold noBs
      rw [b, b']
      rfl
    · rw [List.map_cons]
      unfold PyData.canLayAll0
      rw [c, c']
      rfl
    · rw [List.map_cons]
      unfold PyData.depthAll
      omega
theorem pln_tup {k : Nat} {ds : List D} {ps : List PyData} (h : PlnL k ds ps) : Pln (k + 1) (.tup ds) (.tuple ps) := by
  unfold PlnL at h
  unfold Pln
  obtain ⟨a, b, c, e⟩ := h
  exact ⟨by unfold toP; rw [a]; rfl, by unfold noB; exact b, by unfold PyData.canLay0; exact c, by unfold PyData.depth; omega⟩
theorem eqv_dec {p q : PyData} (g : noB p = true) (h : noB q = true) (c : p.canLay0 = true) {P : Prop} [Decidable P] (i : p = q ↔ P) : PyData.eqv p q = decide P := by
  by_cases z : P
  · rw [decide_eq_true z]
    have e := i.mpr z
    subst e
    exact SeqAt.eqv_refl p c
  · rw [decide_eq_false z]
    cases e : PyData.eqv p q with
    | false => rfl
    | true => exact absurd (i.mp (eqv_iff p q g h e)) z
theorem eq_pln {j k : Nat} {d e : D} {p q : PyData} (neg : Bool) (h : Pln j d p) (l : Pln k e q) (hj : j ≤ 64) (hk : k ≤ 64) {P : Prop} [Decidable P] (i : p = q ↔ P)
    (z : dEq neg d e = match toP d, toP e with
      | some p, some q => if SeqAt.shaped p = true ∧ SeqAt.shaped q = true then M.pure (.bl (if neg then !PyData.eqv p q else PyData.eqv p q)) else M.stuck
      | _, _ => M.stuck) : dEq neg d e = M.pure (.bl (if neg then !decide P else decide P)) := by
  unfold Pln at h l
  obtain ⟨a, b, c, f⟩ := h
  obtain ⟨a', b', c', f'⟩ := l
  rw [z, a, a']
  simp only
  rw [eqv_dec b b' c i]
  refine if_pos ⟨?_, ?_⟩
  · unfold SeqAt.shaped
    rw [c, decide_eq_true (by omega)]
    rfl
  · unfold SeqAt.shaped
    rw [c', decide_eq_true (by omega)]
    rfl
theorem cut_take {α : Type} {xs : List α} {j : Int} (h0 : 0 ≤ j) : cutD xs none (some j) = xs.take j.toNat := by
  unfold cutD HT.sIx
  simp only [show ¬(j < 0) by omega, if_false, List.drop_zero, Nat.sub_zero]
  show List.take (min j.toNat xs.length) xs = _
  rw [List.take_eq_take_iff]
  omega
theorem cut_drop {α : Type} {xs : List α} {j : Int} (h0 : 0 ≤ j) : cutD xs (some j) none = xs.drop j.toNat := by
  unfold cutD HT.sIx
  simp only [show ¬(j < 0) by omega, if_false]
  show List.take (xs.length - min j.toNat xs.length) (xs.drop (min j.toNat xs.length)) = _
  by_cases l : j.toNat ≤ xs.length
  · rw [Nat.min_eq_left l]
    exact List.take_of_length_le (by rw [List.length_drop]; omega)
  · rw [Nat.min_eq_right (by omega), List.drop_of_length_le (Nat.le_refl _), List.drop_of_length_le (by omega)]
    simp
section
variable {S : List Ob} {PD : D → List Ob → Prop}
theorem p_take {ds : List D} {j : Int} (h0 : 0 ≤ j) (h : PD (.lst (ds.take j.toNat)) S) : Wp (dSl (.lst ds) none (some j)) S PD := by
  show Wp (M.pure (D.lst (cutD ds none (some j)))) S PD
  rw [cut_take h0]
  exact go_pure h
theorem p_drop {ds : List D} {j : Int} (h0 : 0 ≤ j) (h : PD (.lst (ds.drop j.toNat)) S) : Wp (dSl (.lst ds) (some j) none) S PD := by
  show Wp (M.pure (D.lst (cutD ds (some j) none))) S PD
  rw [cut_drop h0]
  exact go_pure h
theorem p_takeT {ds : List D} {j : Int} (h0 : 0 ≤ j) (h : PD (.tup (ds.take j.toNat)) S) : Wp (dSl (.tup ds) none (some j)) S PD := by
  show Wp (M.pure (D.tup (cutD ds none (some j)))) S PD
  rw [cut_take h0]
  exact go_pure h
theorem p_dropT {ds : List D} {j : Int} (h0 : 0 ≤ j) (h : PD (.tup (ds.drop j.toNat)) S) : Wp (dSl (.tup ds) (some j) none) S PD := by
  show Wp (M.pure (D.tup (cutD ds (some j) none))) S PD
  rw [cut_drop h0]
  exact go_pure h
theorem p_revL {ds : List D} (h : PD (.lst ds.reverse) S) : Wp (dRev (.lst ds)) S PD := wp_run.mpr h
theorem p_addL {as bs : List D} (l : as.length + bs.length ≤ lim) (h : PD (.lst (as ++ bs)) S) : Wp (dAdd (.lst as) (.lst bs)) S PD := by
  show Wp (if as.length + bs.length ≤ lim then M.pure (D.lst (as ++ bs)) else M.stuck) S PD
  rw [if_pos l]
  exact go_pure h
theorem p_addT {as bs : List D} (l : as.length + bs.length ≤ lim) (h : PD (.tup (as ++ bs)) S) : Wp (dAdd (.tup as) (.tup bs)) S PD := by
  show Wp (if as.length + bs.length ≤ lim then M.pure (D.tup (as ++ bs)) else M.stuck) S PD
  rw [if_pos l]
  exact go_pure h
theorem p_isT {ds : List D} {neg : Bool} (h : PD (.bl neg) S) : Wp (dIs neg (.tup ds) .non) S PD := by
  cases neg <;> exact wp_run.mpr h
theorem p_isO {c : Nat} {ds : List D} {neg : Bool} (h : PD (.bl neg) S) : Wp (dIs neg (.ins c ds) .non) S PD := by
  cases neg <;> exact wp_run.mpr h
theorem p_isI {i : Int} {neg : Bool} (h : PD (.bl neg) S) : Wp (dIs neg (.int i) .non) S PD := by
  cases neg <;> exact wp_run.mpr h
end
end Ev
local macro_rules | `(tactic| nest_fact) => `(tactic| first
  | assumption
  | exact Ev.shw_non
  | exact Ev.shw_bl _
  | exact Ev.shw_int (by regstrif_fact) (by first | decide | omega)
  | ((with_reducible apply Ev.shw_tup); nest_fact)
  | ((with_reducible apply Ev.shw_lst); nest_fact)
  | with_reducible exact Ev.shl_nil
  | ((with_reducible apply Ev.shl_cons); (· nest_fact); (· nest_fact)))
local macro_rules | `(tactic| regstrif_gather) => `(tactic| first
  | with_reducible refine Ev.p_eqSS ?_
  | with_reducible refine Ev.p_neSS ?_
  | with_reducible refine Ev.p_eqB ?_
  | with_reducible refine Ev.p_neB ?_
  | with_reducible refine Ev.p_isT ?_
  | with_reducible refine Ev.p_isO ?_
  | with_reducible refine Ev.p_isI ?_
  | with_reducible refine Ev.p_revL ?_
  | ((with_reducible show Ev.Wp (Ev.dRepr _) _ _); refine Ev.p_repr (by nest_fact) (by first | decide | omega) (by first | decide | omega) ?_)
  | ((with_reducible refine Ev.p_take ?_ ?_); (· omega))
  | ((with_reducible refine Ev.p_drop ?_ ?_); (· omega))
  | ((with_reducible refine Ev.p_takeT ?_ ?_); (· omega))
  | ((with_reducible refine Ev.p_dropT ?_ ?_); (· omega)))
set_option maxRecDepth 100000
set_option maxHeartbeats 2000000
namespace Ev
open PySem L2
@[irreducible] def Tg (t : Tgt) (d : D) (sd : List SV) (S : List Ob) (N : List SV → List Ob → Prop) : Prop := ∃ sd2 S2, t d sd S = some (sd2, S2) ∧ N sd2 S2
@[irreducible] def TgL (t : Tgts) (ds : List D) (sd : List SV) (S : List Ob) (N : List SV → List Ob → Prop) : Prop := ∃ sd2 S2, t ds sd S = some (sd2, S2) ∧ N sd2 S2
section
variable {S : List Ob} {sd : List SV} {N : List SV → List Ob → Prop} {R : D → List Ob → Prop} {B C : List SV → List Ob → Prop} {d : D} {ds : List D}
theorem gs_tg {g : List SV → M D} {t : Tgt} (h : Wp (g sd) S fun d S' => Tg t d sd S' N) : Ws (asgS g t) sd S N R B C := by
  refine gs_tgt (h.mono fun d S' q => ?_)
  unfold Tg at q
  obtain ⟨sd2, S2, e, q⟩ := q
  rw [e]
  exact q
theorem tg_set {i : Nat} (h : N (sd.set i (.val d)) S) : Tg (setT i) d sd S N := by
  unfold Tg
  exact ⟨_, _, rfl, h⟩
theorem tg_tup {k : Nat} {t : Tgts} (l : ds.length = k) (h : TgL t ds sd S N) : Tg (tupT k t) (.tup ds) sd S N := by
  unfold TgL at h
  unfold Tg
  obtain ⟨sd2, S2, e, q⟩ := h
  refine ⟨sd2, S2, ?_, q⟩
  show (if ds.length = k then t ds sd S else none) = _
  rw [if_pos l]
  exact e
theorem tg_lst {k : Nat} {t : Tgts} (l : ds.length = k) (h : TgL t ds sd S N) : Tg (tupT k t) (.lst ds) sd S N := by
  unfold TgL at h
  unfold Tg
  obtain ⟨sd2, S2, e, q⟩ := h
  refine ⟨sd2, S2, ?_, q⟩
  show (if ds.length = k then t ds sd S else none) = _
  rw [if_pos l]
  exact e
theorem tl_cons {t : Tgt} {ts : Tgts} (h : Tg t d sd S fun sd2 S2 => TgL ts ds sd2 S2 N) : TgL (consT t ts) (d :: ds) sd S N := by
  unfold Tg at h
  obtain ⟨sd1, S1, e, q⟩ := h
  unfold TgL at q ⊢
  obtain ⟨sd2, S2, e2, q⟩ := q
  refine ⟨sd2, S2, ?_, q⟩
  show (match t d sd S with | none => none | some (sd1, S1) => ts ds sd1 S1) = _
  rw [e]
  exact e2
theorem tl_nil (h : N sd S) : TgL (fun _ sd S => some (sd, S)) [] sd S N := by
  unfold TgL
  exact ⟨_, _, rfl, h⟩
theorem Tg.ex {t : Tgt} (h : Tg t d sd S N) : ∃ sd2 S2, t d sd S = some (sd2, S2) ∧ N sd2 S2 := by
  unfold Tg at h
  exact h
theorem gs_each {α : Type} {f : α → D} {t : Tgt} {body : MS} (J : List α → List SV → List Ob → Prop)
    (step : ∀ x xs sd S, J (x :: xs) sd S → Tg t (f x) sd S fun sd1 S1 => Ws body sd1 S1 (fun sd2 S2 => J xs sd2 S2) R (fun sd2 S2 => N sd2 S2) (fun sd2 S2 => J xs sd2 S2))
    (fin : ∀ sd S, J [] sd S → N sd S) (xs : List α) (sd : List SV) (S : List Ob) (h : J xs sd S) : Ws (loopS t body (xs.map f)) sd S N R B C := by
  refine gs_loop (J := fun ds sd S => ∃ xs : List α, ds = xs.map f ∧ J xs sd S) ?_ ?_ _ _ _ ⟨xs, rfl, h⟩
  · rintro d ds sd S ⟨xs, e, hj⟩
    rcases xs with _ | ⟨x, xs⟩
    · cases e
    rw [List.map_cons] at e
    cases e
    obtain ⟨sd1, S1, e1, q⟩ := (step x xs sd S hj).ex
    exact ⟨sd1, S1, e1, q.mono (fun sd S h => ⟨xs, rfl, h⟩) (fun _ _ h => h) (fun _ _ h => h) (fun sd S h => ⟨xs, rfl, h⟩)⟩
  · rintro sd S ⟨xs, e, hj⟩
    rcases xs with _ | ⟨x, xs⟩
    · exact fin sd S hj
    · cases e
theorem gs_frzL {i : Nat} (e : sd[i]? = some (.own (.lst ds))) (h : N (sd.set i (.val (.lst ds))) S) : Ws (frzS i) sd S N R B C := gs_frz e h
theorem ws_sd {m : MS} {sd' : List SV} (e : sd = sd') (h : Ws m sd' S N R B C) : Ws m sd S N R B C := e ▸ h
theorem tl_sd {t : Tgts} {sd' : List SV} (e : sd = sd') (h : TgL t ds sd' S N) : TgL t ds sd S N := e ▸ h
end
end Ev
local macro_rules | `(tactic| regstrif_gather) => `(tactic| first
  | ((with_reducible show Ev.Ws _ (List.set _ _ _) _ _ _ _ _); apply Ev.ws_sd; (· first | (simp only [List.set_cons_zero, List.set_cons_succ]; done) | (simp only [List.set_cons_zero, List.set_cons_succ]; exact rfl)))
  | ((with_reducible show Ev.TgL _ _ (List.set _ _ _) _ _); apply Ev.tl_sd; (· first | (simp only [List.set_cons_zero, List.set_cons_succ]; done) | (simp only [List.set_cons_zero, List.set_cons_succ]; exact rfl)))
  | with_reducible refine Ev.gs_seq ?_
  | with_reducible refine Ev.gs_asg ?_
  | with_reducible refine Ev.tg_set ?_
  | ((with_reducible refine Ev.tg_tup ?_ ?_); (· exact rfl))
  | with_reducible refine Ev.tl_cons ?_
  | with_reducible refine Ev.tl_nil ?_
  | ((with_reducible refine Ev.tg_lst ?_ ?_); (· exact rfl))
  | ((with_reducible show Ev.Ws (Ev.asgS _ (Ev.tupT _ _)) _ _ _ _ _ _); refine Ev.gs_tg ?_)
  | ((with_reducible show Ev.Ws (Ev.appS _ _) _ _ _ _ _ _); refine Ev.gs_app (by exact rfl) (by simp only [List.length_append, List.length_cons, List.length_nil, List.length_map, Nat.zero_add, Nat.add_zero]; first | decide | (unfold Ev.lim; omega)) ?_)
  | ((with_reducible refine Ev.p_addL ?_ ?_); (· simp only [List.length_append, List.length_cons, List.length_nil, List.length_map, List.length_take, List.length_drop, List.length_reverse]; unfold Ev.lim; omega))
  | ((with_reducible refine Ev.p_addT ?_ ?_); (· simp only [List.length_append, List.length_cons, List.length_nil, List.length_map, List.length_take, List.length_drop, List.length_reverse]; unfold Ev.lim; omega))
  | ((with_reducible refine Ev.ite_dt ?_ ?_); (· first | with_reducible rfl | decide))
  | ((with_reducible refine Ev.ite_df ?_ ?_); (· decide))
  | ((with_reducible show Ev.Ws (Ev.frzS _) _ _ _ _ _ _); refine Ev.gs_frzL (by exact rfl) ?_))
set_option maxRecDepth 100000
set_option maxHeartbeats 2000000
namespace Ev
open PySem L2
theorem step_rev {α : Type} (xs : List α) : Ev.stepL (-1) xs = xs.reverse := by
  have n : stepNo xs.length (-1) = xs.length := by
    unfold stepNo stepLo Builtin.Slice.slicePlaces
    simp only [show (-1 : Int) < 0 by decide, if_true]
    simp
    omega
  unfold Ev.stepL
  rw [n]
  have lo : stepLo xs.length (-1) = (xs.length : Int) - 1 := by unfold stepLo; simp
  rw [lo]
  have : ∀ k, k ≤ xs.length → ((List.range k).filterMap fun (m : Nat) => xs[((xs.length : Int) - 1 + (m : Int) * (-1)).toNat]?) = (xs.drop (xs.length - k)).reverse := by
    intro k
    induction k with
    | zero => intro _; simp
    | succ k ih =>
      intro h
      have hk : xs.length - (k + 1) < xs.length := by omega
      have e : ((xs.length : Int) - 1 + (k : Int) * (-1)).toNat = xs.length - (k + 1) := by omega
      rw [List.range_succ, List.filterMap_append, ih (by omega), List.drop_eq_getElem_cons hk, List.reverse_cons]
      have e2 : xs.length - (k + 1) + 1 = xs.length - k := by omega
      rw [e2]
      congr 1
      simp only [List.filterMap_cons, List.filterMap_nil, e, List.getElem?_eq_getElem hk]
  have := this xs.length (Nat.le_refl _)
  simpa using this
theorem dStep_rev (ds : List D) : dStep (-1) (.tup ds) = M.pure (.tup ds.reverse) := by
  show M.pure (D.tup (Ev.stepL (-1) ds)) = _
  rw [step_rev]
section
variable {S : List Ob} {PD : D → List Ob → Prop}
theorem p_lenT0 (h : PD (.int 0) S) : Wp (dLen (.tup [])) S PD := wp_run.mpr h
theorem p_lenT1 {x0 : D} (h : PD (.int 1) S) : Wp (dLen (.tup [x0])) S PD := wp_run.mpr h
theorem p_lenT2 {x0 x1 : D} (h : PD (.int 2) S) : Wp (dLen (.tup [x0, x1])) S PD := wp_run.mpr h
theorem p_lenT3 {x0 x1 x2 : D} (h : PD (.int 3) S) : Wp (dLen (.tup [x0, x1, x2])) S PD := wp_run.mpr h
theorem p_lenT4 {x0 x1 x2 x3 : D} (h : PD (.int 4) S) : Wp (dLen (.tup [x0, x1, x2, x3])) S PD := wp_run.mpr h
theorem p_lenT5 {x0 x1 x2 x3 x4 : D} (h : PD (.int 5) S) : Wp (dLen (.tup [x0, x1, x2, x3, x4])) S PD := wp_run.mpr h
theorem p_lenL0 (h : PD (.int 0) S) : Wp (dLen (.lst [])) S PD := wp_run.mpr h
theorem p_lenL1 {x0 : D} (h : PD (.int 1) S) : Wp (dLen (.lst [x0])) S PD := wp_run.mpr h
theorem p_lenL2 {x0 x1 : D} (h : PD (.int 2) S) : Wp (dLen (.lst [x0, x1])) S PD := wp_run.mpr h
theorem p_lenL3 {x0 x1 x2 : D} (h : PD (.int 3) S) : Wp (dLen (.lst [x0, x1, x2])) S PD := wp_run.mpr h
theorem p_lenL4 {x0 x1 x2 x3 : D} (h : PD (.int 4) S) : Wp (dLen (.lst [x0, x1, x2, x3])) S PD := wp_run.mpr h
theorem p_lenL5 {x0 x1 x2 x3 x4 : D} (h : PD (.int 5) S) : Wp (dLen (.lst [x0, x1, x2, x3, x4])) S PD := wp_run.mpr h
theorem p_revT {ds : List D} (h : PD (.tup ds.reverse) S) : Wp (dStep (-1) (.tup ds)) S PD := by
  rw [dStep_rev]
  exact go_pure h
end
end Ev
local macro_rules | `(tactic| regstrif_gather) => `(tactic| first
  | with_reducible refine Ev.p_lenT0 ?_
  | with_reducible refine Ev.p_lenT1 ?_
  | with_reducible refine Ev.p_lenT2 ?_
  | with_reducible refine Ev.p_lenT3 ?_
  | with_reducible refine Ev.p_lenT4 ?_
  | with_reducible refine Ev.p_lenT5 ?_
  | with_reducible refine Ev.p_lenL0 ?_
  | with_reducible refine Ev.p_lenL1 ?_
  | with_reducible refine Ev.p_lenL2 ?_
  | with_reducible refine Ev.p_lenL3 ?_
  | with_reducible refine Ev.p_lenL4 ?_
  | with_reducible refine Ev.p_lenL5 ?_
  | with_reducible refine Ev.p_revT ?_)
set_option maxRecDepth 100000
set_option maxHeartbeats 2000000
namespace Ev
open PySem L2
section
variable {S : List Ob} {sd : List SV} {N : List SV → List Ob → Prop} {R : D → List Ob → Prop} {B C : List SV → List Ob → Prop} {Q : D → List Ob → Prop} {c m n : Nat} {ms : MS} {ds : List D}
theorem go_mk (l : ds.length + 1 = m) (h : Ws ms (slots n (.own (.ins c []) :: ds.map .val)) S (fun sd S' => ∃ es, sd[0]? = some (.own (.ins c es)) ∧ Q (.ins c es) S') (fun _ _ => False) (fun _ _ => False) (fun _ _ => False)) : Wp (mkFn c m n ms ds) S Q := by
  have h := h.run
  refine wp_run.mpr ?_
  unfold Run mkFn
  unfold RunS at h
  rw [if_pos l]
  rcases e : ms (slots n (.own (.ins c []) :: ds.map .val)) S with _ | ⟨sd | _ | _ | _ | _, S'⟩
  · rw [e] at h; exact h
  · rw [e] at h
    obtain ⟨es, e0, q⟩ := h
    unfold mkR
    simp only
    rw [e0]
    simp only [if_true]
    exact q
  · rw [e] at h; exact h
  · rw [e] at h; exact h
  · rw [e] at h; exact h
  · rw [e] at h; exact h
theorem gs_setF {i : Nat} {tbl : Nat → Option Nat} {g : List SV → M D} {j : Nat} (e : sd[i]? = some (.own (.ins c ds))) (t : tbl c = some j) (h : Wp (g sd) S fun d S' => ∃ es, putL ds j d = some es ∧ N (sd.set i (.own (.ins c es))) S') : Ws (setFS i tbl g) sd S N R B C := by
  have h := h.run
  refine ws_run.mpr ?_
  unfold RunS setFS exS
  unfold Run at h
  rcases e2 : g sd S with _ | ⟨_ | d, S'⟩
  · rw [e2] at h; exact h
  · rw [e2] at h; exact h
  · rw [e2] at h
    obtain ⟨es, e3, q⟩ := h
    simp only [e, t, e3]
    exact q
end
structure IsRt (n s : Int) : Prop where
  nn : 0 ≤ s
  le : s * s ≤ n
  lt : n < (s + 1) * (s + 1)
theorem IsRt.uniq {n s t : Int} (h : IsRt n s) (l : IsRt n t) : s = t := by
  have a := h.nn
  have b := l.nn
  rcases Int.lt_trichotomy s t with c | c | c
  · have x : (s + 1) * (s + 1) ≤ t * t := Int.mul_le_mul (by omega) (by omega) (by omega) (by omega)
    have := h.lt
    have := l.le
    omega
  · exact c
  · have x : (t + 1) * (t + 1) ≤ s * s := Int.mul_le_mul (by omega) (by omega) (by omega) (by omega)
    have := l.lt
    have := h.le
    omega
theorem newton {n s g : Int} (h : IsRt n s) (g1 : 1 ≤ g) (gs : s ≤ g) : s ≤ (g + n / g) / 2 ∧ (s < g → 2 * ((g + n / g) / 2 - s) ≤ g - s) := by
  have a := h.nn
  have b := h.le
  have c := h.lt
  constructor
  · have k : 2 * s - g ≤ n / g := by
      refine Int.le_ediv_of_mul_le (by omega) ?_
      have e : s * s - (2 * s - g) * g = (s - g) * (s - g) := by grind
      have z : 0 ≤ (s - g) * (s - g) := by
        have : (s - g) * (s - g) = (g - s) * (g - s) := by grind
        rw [this]
        exact Int.mul_nonneg (by omega) (by omega)
      omega
    omega
  · intro l
    have k : n / g ≤ s := by
      refine Int.lt_add_one_iff.mp (Int.ediv_lt_of_lt_mul (by omega) ?_)
      have : (s + 1) * (s + 1) ≤ (s + 1) * g := Int.mul_le_mul_of_nonneg_left (by omega) (by omega)
      omega
    omega
theorem rt_lt {n s : Int} {k : Nat} (h : IsRt n s) (l : n < 2 ^ (2 * k)) : s < 2 ^ k := by
  rcases Int.lt_or_le s (2 ^ k) with z | z
  · exact z
  · have p : (0 : Int) < 2 ^ k := Int.pow_pos (by decide)
    have x : (2 : Int) ^ k * 2 ^ k ≤ s * s := Int.mul_le_mul z z (by omega) h.nn
    have e : (2 : Int) ^ (2 * k) = 2 ^ k * 2 ^ k := by rw [Nat.two_mul, Int.pow_add]
    have := h.le
    omega
end Ev
set_option maxRecDepth 100000
set_option maxHeartbeats 2000000
namespace Ev
open PySem L2
theorem gs_sup {S : List Ob} {sd : List SV} {N : List SV → List Ob → Prop} {R : D → List Ob → Prop} {B C : List SV → List Ob → Prop} {c m2 n2 : Nat} {ms2 : MS} {fa : List SV → M (List D)} {es : List D}
    (e : sd[0]? = some (.own (.ins c es))) (no : (sd.drop 1).all notOwn = true)
    (h : Wp (fa sd) S fun ds S1 => ds.length + 1 = m2 ∧ Ws ms2 (slots n2 (.own (.ins c es) :: ds.map .val)) S1 (fun sd' S2 => ∃ o, sd'[0]? = some (.own o) ∧ N (sd.set 0 (.own o)) S2) (fun _ _ => False) (fun _ _ => False) (fun _ _ => False)) :
    Ws (supS c m2 n2 ms2 fa) sd S N R B C := by
  have h := h.run
  refine ws_run.mpr ?_
  unfold Run at h
  unfold RunS supS
  rw [e]
  simp only
  rw [if_pos ⟨trivial, no⟩]
  unfold exS
  rcases e2 : fa sd S with _ | ⟨_ | ds, S1⟩
  · rw [e2] at h; exact h
  · rw [e2] at h; exact h
  · rw [e2] at h
    obtain ⟨l, q⟩ := h
    have q := q.run
    unfold RunS at q
    simp only
    rw [if_pos l]
    rcases e3 : ms2 (slots n2 (.own (.ins c es) :: ds.map .val)) S1 with _ | ⟨sd' | _ | _ | _ | _, S2⟩
    · rw [e3] at q; exact q
    · rw [e3] at q
      obtain ⟨o, e4, q⟩ := q
      simp only [e4]
      exact q
    · rw [e3] at q; exact q
    · rw [e3] at q; exact q
    · rw [e3] at q; exact q
    · rw [e3] at q; exact q
end Ev
set_option maxRecDepth 100000
set_option maxHeartbeats 2000000
namespace Ev
open PySem PySem.Spec PyProof.Rows L2
section
variable {G : Sg} {X : Cx} {W : WX} {k : Nat}
def par3S (i j l : Nat) (f : List SV → M (List D)) : MS := exS f fun ds sd S => match ds with
  | [a, b, c] => some (.next (((sd.set i (.val a)).set j (.val b)).set l (.val c)), S)
  | _ => none
theorem s_par3 {n i j l : Nat} {x y z : Str} {a b e : Expr} {f : List SV → M (List D)} {px py pz pt pos : Pos} {kt k2 : Nat} {pt2 : Pos} (c : Ctx G X W k) (hi : X.N[i]? = some x) (hj : X.N[j]? = some y) (hl : X.N[l]? = some z) (hij : i ≠ j) (hil : i ≠ l) (hjl : j ≠ l)
    (hx : X.env.scope.names.lookup x = some .local) (hy : X.env.scope.names.lookup y = some .local) (hz : X.env.scope.names.lookup z = some .local) (ha : PLn G X W n [a, b, e] f)
    (hw : swappedStores [.Tuple [.Name x px, .Name y py, .Name z pz] kt pt] (.Tuple [a, b, e] k2 pt2) X.env = pure (some [x, y, z])) :
    PSV G X W (.Assign [.Tuple [.Name x px, .Name y py, .Name z pz] kt pt] (.Tuple [a, b, e] k2 pt2) pos) (par3S i j l f) := by
  refine PS.imp (ps_par3 c.calm c.nd hi hj hl hij hil hjl hx hy hz ha hw rfl) fun D σ H q => ?_
  obtain ⟨w0, w, sd, S, e, r, q⟩ := q
  refine ⟨w0, w, sd, S, e, r, exS_step q r fun w1 S1 ds vs e1 r1 rv q1 => ?_⟩
  rcases ds with _ | ⟨d1, _ | ⟨d2, _ | ⟨d3, _ | ⟨d4, ds⟩⟩⟩⟩
  · exact q1.elim
  · exact q1.elim
  · exact q1.elim
  · obtain ⟨⟨v1, t1, e1, h1, v2, t2, e2, h2, v3, t3, e3, h3, e4⟩, _⟩ := rv
    subst e1 e2 e3
    cases (show t3 = [] from e4)
    exact ⟨v1, v2, v3, rfl, q1 w1 _ (Stay.refl w1) (((r1.setv h1 i).setv h2 j).setv h3 l)⟩
  · exact q1.elim
end
section
variable {S : List Ob} {sd : List SV} {N : List SV → List Ob → Prop} {R : D → List Ob → Prop} {B C : List SV → List Ob → Prop}
theorem gs_par3 {g : List SV → M (List D)} {i j l : Nat} (h : Wp (g sd) S fun ds S' => ∃ a b c, ds = [a, b, c] ∧ N (((sd.set i (.val a)).set j (.val b)).set l (.val c)) S') : Ws (par3S i j l g) sd S N R B C := by
  refine ws_run.mpr ?_
  unfold par3S
  refine runS_ex.mpr (h.run.mono fun ds S' q => ?_)
  obtain ⟨a, b, c, rfl, q⟩ := q
  exact q
end
end Ev
set_option maxRecDepth 100000
set_option maxHeartbeats 2000000
namespace Ev
open PySem PySem.Spec PyProof.Rows L2
end Ev
set_option maxRecDepth 100000
set_option maxHeartbeats 2000000
namespace Ev
open PySem PySem.Spec PyProof.Rows L2
end Ev
set_option maxRecDepth 100000
set_option maxHeartbeats 2000000
namespace Ev
open PySem PySem.Spec PyProof.Rows L2
end Ev
set_option maxRecDepth 100000
set_option maxHeartbeats 2000000
namespace Ev
open PySem PySem.Spec PyProof.Rows L2
end Ev
set_option maxRecDepth 100000
set_option maxHeartbeats 2000000
namespace Ev
open PySem PySem.Spec PyProof.Rows L2
end Ev
set_option maxRecDepth 100000
set_option maxHeartbeats 2000000
namespace Ev
open PySem PySem.Spec PyProof.Rows L2
section
variable {P : Program} {w : World} {K : PySem.W.Frag} {mg : Str → Option Value} {base : Heap} {j k : Nat} {f : Addr} {fd : FuncData} {N ps : List Str}
def DecR (fr : List Env) (P : Program) (w : World) (H : Hp) (s : Shared) (Q : Hp → Prop) (r : Result) (s' : Shared) : Prop :=
  r = .ok (.ret .notImplemented) ∧ CE fr P w H s (fun v H' => v = .non ∧ Q H') .none s'
def DecS (P : Program) (w : World) (K : PySem.W.Frag) (mg : Str → Option Value) (base : Heap) (G : Sg) (k m n : Nat) (f : Addr) (fc : List SV → M Bool) : Prop :=
  ∀ (A : Around) (fr : List Env) (s : Shared) (wd : Wd) (us : List Value) (vs : List V) (ds : List D) (S S' : List Ob) (Q : Hp → Prop),
    Rm G.gd k A → Env0 P w K mg base A fr s wd.H → Vals vs us → RepS G wd S → RepVs G wd ds vs → ds.length = m → fc (slots n (ds.map .val)) S = some (.ok true, S') → (∀ w', Ext wd w' → RepS G w' S' → Q w'.H) →
    codeAny (model P w) A (.call (.ref f) ⟨us, []⟩) (DecR fr P w wd.H s Q) s
end
end Ev
set_option maxRecDepth 100000
set_option maxHeartbeats 2000000
namespace PySem.W
open PySem PyProof.Rows
end PySem.W
set_option maxRecDepth 100000
set_option maxHeartbeats 2000000
namespace PySem.W
open PyProof.Rows
open PySem.AutoSeq1 (wpAny_loadPart')
end PySem.W
namespace PySem.W
open PyProof.Rows L2
def KindV (K : Frag) (H : Hp) (v : V) (T : String) : Prop :=
  (v = .non ∧ T = "NoneType") ∨ (∃ b, v = .bl b ∧ T = "bool") ∨ (∃ i, v = .int i ∧ T = "int") ∨ (∃ x, v = .str x ∧ T = "str") ∨ (∃ a xs, v = .ref a ∧ SqT K H a xs ∧ T = "tuple") ∨ (∃ a xs, v = .ref a ∧ SqL K H a xs ∧ T = "list")
section
variable {X : Cx} {pins : List (Addr × Obj)} {σ : L2.St} {H : Hp} {s : Shared} {A : Around} {E : Value → Shared → Prop} {Q : Option Value → Shared → Prop} {v : V} {u : Value} {T : String} {l C dx : Addr}
theorem KindV.type (I : Inv X pins σ H s) (k : KindV X.K H v T) (r : L2.RelV v u) : s.TypeIs u T := by
  rcases k with ⟨rfl, rfl⟩ | ⟨b, rfl, rfl⟩ | ⟨i, rfl, rfl⟩ | ⟨x, rfl, rfl⟩ | ⟨a, xs, rfl, q, rfl⟩ | ⟨a, xs, rfl, q, rfl⟩
  · cases r; exact rfl
  · cases r; exact rfl
  · obtain ⟨t, rfl⟩ := r; exact rfl
  · obtain ⟨t, rfl⟩ := r; exact rfl
  · cases r
    obtain ⟨its, _, ⟨o, e, c, _⟩, _⟩ := I.tuple q
    exact ⟨o, e, c⟩
  · cases r
    obtain ⟨its, _, ⟨o, n, e, c, _⟩, _⟩ := I.list q
    exact ⟨o, e, c⟩
end
end PySem.W
set_option maxRecDepth 100000
set_option maxHeartbeats 2000000
namespace PySem.W
open PySem PyProof.Rows
end PySem.W
namespace PySem.W
open PyProof.Rows L2
end PySem.W
namespace Ev
open PySem PySem.Spec PyProof.Rows L2
section
variable {G : Sg} {X : Cx} {W : WX} {k : Nat} {σ : L2.St}
theorem DecS.mono {P : Program} {w : World} {K : PySem.W.Frag} {mg : Str → Option Value} {base : Heap} {j m n : Nat} {f : Addr} {fc : List SV → M Bool} (h : DecS P w K mg base G j m n f fc) (l : j ≤ k) : DecS P w K mg base G k m n f fc :=
  fun A fr s wd us vs ds S S' Q hr => h A fr s wd us vs ds S S' Q (hr.mono l)
end
end Ev
set_option maxRecDepth 100000
set_option maxHeartbeats 2000000
namespace Ev
open PySem PySem.Spec PyProof.Rows L2
end Ev
set_option maxRecDepth 100000
set_option maxHeartbeats 2000000
namespace Ev
open PySem PySem.Spec PyProof.Rows L2
end Ev
set_option maxRecDepth 100000
set_option maxHeartbeats 2000000
namespace Ev
open PySem PySem.Spec PyProof.Rows L2
abbrev MG : Type := List SV → List Ob → List D → Option (Out × List Ob × List D)
def FinN (G : Sg) (W : WX) (w0 w : Wd) (D : GEnds) : Option (Out × List Ob × List Ev.D) → Prop
  | none => False
  | some (.next sd, S, out) => ∀ w' σ' ys, Stay w w' → R G w0 w' sd S σ' → RepVs G w' out ys → D.nx ys σ' w'.H
  | some (.ret _, _, _) => False
  | some (.brk sd, S, out) => ∀ w' σ' ys, Stay w w' → R G w0 w' sd S σ' → RepVs G w' out ys → D.bk ys σ' w'.H
  | some (.cont sd, S, out) => ∀ w' σ' ys, Stay w w' → R G w0 w' sd S σ' → RepVs G w' out ys → D.ct ys σ' w'.H
  | some (.err e sd, S, _) => ∀ w' σ' cls x, Stay w w' → R G w0 w' sd S σ' → RepX G w' e cls x → W cls x σ' w'.H
theorem FinN.stay {G : Sg} {W : WX} {w0 w w1 : Wd} {D : GEnds} {r : Option (Out × List Ob × List Ev.D)} (e : Stay w w1) (h : FinN G W w0 w D r) : FinN G W w0 w1 D r := by
  rcases r with _ | ⟨_ | _ | _ | _ | _, _, _⟩
  · exact h
  · exact fun w' σ' ys s => h w' σ' ys (e.trans s)
  · exact h
  · exact fun w' σ' ys s => h w' σ' ys (e.trans s)
  · exact fun w' σ' ys s => h w' σ' ys (e.trans s)
  · exact fun w' σ' c x s => h w' σ' c x (e.trans s)
end Ev
set_option maxRecDepth 100000
set_option maxHeartbeats 2000000
namespace Ev
open PySem PySem.Spec PyProof.Rows L2
def Sg.un (G : Sg) : Sg := { G with gd := false }
section
variable {G : Sg} {w : Wd}
mutual
theorem rep_un : ∀ (d : D) (v : V), RepV G.un w d v ↔ RepV G w d v
  | .non, _ => Iff.rfl
  | .bl _, _ => Iff.rfl
  | .int _, _ => Iff.rfl
  | .str _, _ => Iff.rfl
  | .tup ds, v => by
    constructor
    · rintro ⟨a, vs, e, h, r⟩; exact ⟨a, vs, e, h, (reps_un ds vs).mp r⟩
    · rintro ⟨a, vs, e, h, r⟩; exact ⟨a, vs, e, h, (reps_un ds vs).mpr r⟩
  | .lst ds, v => by
    constructor
    · rintro ⟨a, vs, e, f, h, r⟩; exact ⟨a, vs, e, f, h, (reps_un ds vs).mp r⟩
    · rintro ⟨a, vs, e, f, h, r⟩; exact ⟨a, vs, e, f, h, (reps_un ds vs).mpr r⟩
  | .scr ds, v => by
    constructor
    · rintro ⟨a, vs, e, h, r⟩; exact ⟨a, vs, e, h, (reps_un ds vs).mp r⟩
    · rintro ⟨a, vs, e, h, r⟩; exact ⟨a, vs, e, h, (reps_un ds vs).mpr r⟩
  | .dct ks ds, v => by
    constructor
    · rintro ⟨a, vs, e, f, h, l, r⟩; exact ⟨a, vs, e, f, h, l, (reps_un ds vs).mp r⟩
    · rintro ⟨a, vs, e, f, h, l, r⟩; exact ⟨a, vs, e, f, h, l, (reps_un ds vs).mpr r⟩
  | .ins c ds, v => by
    constructor
    · rintro ⟨a, dx, vs, e, f, h, l, r⟩; exact ⟨a, dx, vs, e, f, h, l, (reps_un ds vs).mp r⟩
    · rintro ⟨a, dx, vs, e, f, h, l, r⟩; exact ⟨a, dx, vs, e, f, h, l, (reps_un ds vs).mpr r⟩
  | .ref _, _ => Iff.rfl
  | .ty _, _ => Iff.rfl
  | .cls _, _ => Iff.rfl
theorem reps_un : ∀ (ds : List D) (vs : List V), RepVs G.un w ds vs ↔ RepVs G w ds vs
  | [], _ => Iff.rfl
  | d :: ds, vs => by
    constructor
    · rintro ⟨v, r, e, h, t⟩; exact ⟨v, r, e, (rep_un d v).mp h, (reps_un ds r).mp t⟩
    · rintro ⟨v, r, e, h, t⟩; exact ⟨v, r, e, (rep_un d v).mpr h, (reps_un ds r).mpr t⟩
end
theorem repo_un {a : Addr} {o : Ob} : RepO G.un w a o ↔ RepO G w a o := by
  cases o with
  | lst ds =>
    constructor
    · rintro ⟨vs, h, r⟩; exact ⟨vs, h, (reps_un ds vs).mp r⟩
    · rintro ⟨vs, h, r⟩; exact ⟨vs, h, (reps_un ds vs).mpr r⟩
  | dct ks ds =>
    constructor
    · rintro ⟨vs, h, l, r⟩; exact ⟨vs, h, l, (reps_un ds vs).mp r⟩
    · rintro ⟨vs, h, l, r⟩; exact ⟨vs, h, l, (reps_un ds vs).mpr r⟩
  | ins c ds =>
    constructor
    · rintro ⟨dx, vs, h, l, r⟩; exact ⟨dx, vs, h, l, (reps_un ds vs).mp r⟩
    · rintro ⟨dx, vs, h, l, r⟩; exact ⟨dx, vs, h, l, (reps_un ds vs).mpr r⟩
theorem store_un {S : List Ob} : RepS G.un w S ↔ RepS G w S := by
  constructor
  · rintro ⟨a, b, c, d, e⟩; exact ⟨a, b, c, d, fun n x o h1 h2 => repo_un.mp (e n x o h1 h2)⟩
  · rintro ⟨a, b, c, d, e⟩; exact ⟨a, b, c, d, fun n x o h1 h2 => repo_un.mpr (e n x o h1 h2)⟩
end
def FinL (G : Sg) (w : Wd) (Q : List V → Hp → Prop) : Option (Except Exn (List D) × List Ob) → Prop
  | some (.ok l, S) => ∀ w' vs, Ext w w' → RepS G w' S → RepVs G w' l vs → Q vs w'.H
  | _ => False
end Ev
set_option maxRecDepth 100000
set_option maxHeartbeats 2000000
namespace Ev
open PySem PySem.Spec PyProof.Rows L2
section
variable {P : Program} {w : World} {K : PySem.W.Frag} {mg : Str → Option Value} {base : Heap} {G : Sg} {k m : Nat} {f : Addr} {x qual : Str} {st : Stmt} {fd : FuncData} {N ps ks : List Str} {ms : MG} {ix : List Nat}
theorem FinL.un {wd : Wd} {Q : List V → Hp → Prop} {r : Option (Except Exn (List D) × List Ob)} (h : FinL G wd Q r) : FinL G.un wd Q r := by
  rcases r with _ | ⟨_ | l, S⟩
  · exact h
  · exact h
  · exact fun w' vs e s r => h w' vs e (store_un.mp s) ((reps_un _ _).mp r)
end
end Ev
set_option maxRecDepth 100000
set_option maxHeartbeats 2000000
namespace Ev
open PySem L2
end Ev
set_option maxRecDepth 100000
set_option maxHeartbeats 2000000
namespace PySem.SeqAt
open AutoSeq1 (wpAny_loadPart')
open MeetsSeq MeetsSeq2 MeetsSeq3
theorem dict_ne_declines_str (l : Addr) (es : Array DictEntry) (n : Nat) (dd : Option Addr) (sl : Array (Option Value)) (b : Str) (u : Tok) :
    Meets (Builtin.«dict.__ne__» ⟨[.ref l, .str b u], []⟩) (fun _ R s => s.heap.get? l = some { cls := .type "dict", dict := dd, data := .dict es n, slots := sl } ∧ R (.ok (.ret .notImplemented)) s) :=
  .of_wp fun prog w A R s h => by obtain ⟨hp, g, d, tk, os⟩ := s; obtain ⟨hl, h⟩ := h; have f1 := F.sub_str_dict; wp_walk using wpAny_loadPart' hl; exact ⟨_, rfl, h⟩
theorem str_ne_declines_dict (b : Str) (u : Tok) (l : Addr) (es : Array DictEntry) (n : Nat) (dd : Option Addr) (sl : Array (Option Value)) :
    Meets (Builtin.«str.__ne__» ⟨[.str b u, .ref l], []⟩) (fun _ R s => s.heap.get? l = some { cls := .type "dict", dict := dd, data := .dict es n, slots := sl } ∧ R (.ok (.ret .notImplemented)) s) :=
  .of_wp fun prog w A R s h => by obtain ⟨hp, g, d, tk, os⟩ := s; obtain ⟨hl, h⟩ := h; wp_walk using wpAny_loadPart' hl, wpAny_load hl; exact ⟨_, rfl, h⟩
theorem dict_ne_declines_tuple (l b : Addr) (es : Array DictEntry) (n : Nat) (dd : Option Addr) (sl : Array (Option Value)) (items2 : Array Value) (n2 : Nat) (dd2 : Option Addr) (sl2 : Array (Option Value)) :
    Meets (Builtin.«dict.__ne__» ⟨[.ref l, .ref b], []⟩) (fun _ R s => s.heap.get? l = some { cls := .type "dict", dict := dd, data := .dict es n, slots := sl } ∧ s.heap.get? b = some { cls := .type "tuple", dict := dd2, data := .seq items2 n2, slots := sl2 } ∧ R (.ok (.ret .notImplemented)) s) :=
  .of_wp fun prog w A R s h => by obtain ⟨hp, g, d, tk, os⟩ := s; obtain ⟨hl, hb, h⟩ := h; have f1 := F.sub_tuple_dict; wp_walk using wpAny_loadPart' hl, wpAny_loadPart' hb; exact ⟨_, rfl, h⟩
theorem tuple_ne_declines_dict (b l : Addr) (es : Array DictEntry) (n : Nat) (dd : Option Addr) (sl : Array (Option Value)) (items2 : Array Value) (n2 : Nat) (dd2 : Option Addr) (sl2 : Array (Option Value)) :
    Meets (Builtin.«tuple.__ne__» ⟨[.ref b, .ref l], []⟩) (fun _ R s => s.heap.get? l = some { cls := .type "dict", dict := dd, data := .dict es n, slots := sl } ∧ s.heap.get? b = some { cls := .type "tuple", dict := dd2, data := .seq items2 n2, slots := sl2 } ∧ R (.ok (.ret .notImplemented)) s) :=
  .of_wp fun prog w A R s h => by obtain ⟨hp, g, d, tk, os⟩ := s; obtain ⟨hl, hb, h⟩ := h; have f1 := F.sub_dict_tuple; wp_walk using wpAny_loadPart' hl, wpAny_loadPart' hb; exact ⟨_, rfl, h⟩
end PySem.SeqAt
namespace PySem.SeqAt
open PyProof.Rows
section
variable {A : Around} {s : Shared}
theorem RcNeAt.dict_str {l : Addr} {o : Obj} {es : Array DictEntry} {n : Nat} (b : Str) (u : Tok) (hl : s.heap.get? l = some o) (hx : o.ExactDict) (hd : o.data = .dict es n) (hu : A.units < cLine) : RcNeAt A s (.ref l) (.str b u) true := fun prog w E Q h => by
  obtain ⟨cls, dd, data, sl⟩ := o
  obtain ⟨c1, c2, c3⟩ := hx
  simp only at c1 c2 c3 hd
  subst c1 hd
  exact rc_ne_decline_or (k := false) ⟨_, hl, rfl⟩ (typeIs_str s b u) (by decide) F.sub_str_dict F.slot_dict_ne F.slot_str_ne_refl
    (fun _ hq => call_meets F.slot_dict_ne ⟨_, hl, rfl⟩ F.entry_dict_ne (F.args_dict_ne_2 _ _) (dict_ne_declines_str l es n dd sl b u) ⟨hl, hq⟩)
    (fun _ hq => call_meets F.slot_str_ne_refl (typeIs_str s b u) F.entry_str_ne (F.args_str_ne_2 _ _) (str_ne_declines_dict b u l es n dd sl) ⟨hl, hq⟩)
    (fun _ hq => wpAny_of_eq (rfl : isSame (.ref l) (.str b u) = pure false) hq) (.inr hu) h
theorem RcNeAt.dict_tuple {l b : Addr} {o : Obj} {es : Array DictEntry} {n : Nat} {items2 : Array Value} (hl : s.heap.get? l = some o) (hx : o.ExactDict) (hd : o.data = .dict es n) (hb : s.heap.IsTuple b items2) (hu : A.units < cLine) : RcNeAt A s (.ref l) (.ref b) true := fun prog w E Q h => by
  obtain ⟨cls, dd, data, sl⟩ := o
  obtain ⟨c1, c2, c3⟩ := hx
  simp only at c1 c2 c3 hd
  subst c1 hd
  obtain ⟨⟨cls2, dd2, data2, sl2⟩, ho2, hc2, n2, hd2⟩ := id hb
  simp only at hc2 hd2
  subst hc2 hd2
  have hne : l ≠ b := fun e => by
    rw [e, ho2] at hl
    have c := congrArg Obj.cls (Option.some.inj hl)
    exact absurd c (by simp)
  exact rc_ne_decline_or (k := false) ⟨_, hl, rfl⟩ ⟨_, ho2, rfl⟩ (by decide) F.sub_tuple_dict F.slot_dict_ne F.slot_tuple_ne_refl
    (fun _ hq => call_meets F.slot_dict_ne ⟨_, hl, rfl⟩ F.entry_dict_ne (F.args_dict_ne_2 _ _) (dict_ne_declines_tuple l b es n dd sl items2 n2 dd2 sl2) ⟨hl, ho2, hq⟩)
    (fun _ hq => call_meets F.slot_tuple_ne_refl ⟨_, ho2, rfl⟩ F.entry_tuple_ne (F.args_tuple_ne_2 _ _) (tuple_ne_declines_dict b l es n dd sl items2 n2 dd2 sl2) ⟨hl, ho2, hq⟩)
    (fun _ hq => wpAny_isSame_ref_other hne hl ho2 (by simp) hq) (.inr hu) h
end
end PySem.SeqAt
namespace Ev
open PySem PySem.Spec PyProof.Rows L2
section
variable {G : Sg} {X : Cx} {W : WX} {k : Nat}
theorem op_ne_dct (hu : X.A.units < cLine) : OpR X (compareOp .NotEq) (fun x y H Q => ∃ a kvs, x = .ref a ∧ H a = some (.dK kvs) ∧ ((∃ z, y = .str z) ∨ ∃ b xs, y = .ref b ∧ SqT X.K H b xs) ∧ Q (.bl true) H) := by
  intro pins s σ H x y v u Q I rx ry h
  obtain ⟨a, kvs, rfl, ha, hy, q⟩ := h
  obtain ⟨_, _, vs, _, o, es, ep, e1, e2, e3, _⟩ := I.hok a _ ha
  obtain rfl : v = Value.ref a := rx
  refine PySem.W.cmp_ofNotEq ?_
  rcases hy with ⟨z, rfl⟩ | ⟨b, xs, rfl, sq⟩
  · obtain ⟨t, rfl⟩ := ry
    exact SeqAt.RcNeAt.dict_str z t e1 e2 e3 hu _ _ _ _ ⟨.bl true, H, I, rfl, q⟩
  · obtain rfl : u = Value.ref b := ry
    obtain ⟨its, _, pl, _⟩ := I.tuple sq
    exact SeqAt.RcNeAt.dict_tuple e1 e2 e3 pl hu _ _ _ _ ⟨.bl true, H, I, rfl, q⟩
def dNeZ : D → D → M D
  | .dct _ _, .str _ => M.pure (.bl true)
  | .dct _ _, .tup _ => M.pure (.bl true)
  | d, e => dEq true d e
theorem o_neZ (cK : G.K = X.K) (hr : Rm G.gd k X.A) : OpR X (compareOp .NotEq) (rD2 G dNeZ) := by
  refine OpR.imp ((op_ne_dct (by have := hr.room.units; omega)).or (o_ne cK hr)) fun v u H Q q => ?_
  obtain ⟨W, w, S, d, e, rfl, s, r1, r2, q⟩ := q
  cases d with
  | dct ks ds =>
    obtain ⟨a, vs, e1, _, hh, _⟩ := r1
    cases e with
    | str z =>
      cases (show u = .str z from r2)
      exact .inl ⟨a, _, e1, hh, .inl ⟨z, rfl⟩, fin_pure q s rfl⟩
    | tup es =>
      obtain ⟨b, xs, e2, h2, _⟩ := r2
      exact .inl ⟨a, _, e1, hh, .inr ⟨b, xs, e2, sqT_of cK h2⟩, fin_pure q s rfl⟩
    | _ => exact q.elim
  | _ => exact .inr ⟨W, w, S, _, e, rfl, s, r1, r2, q⟩
theorem v_dict0 {pos : Pos} : PV G X W (.Dict [] [] pos) (fun _ => M.pure (.dct [] [])) := by
  refine PE.imp pe_dnewK fun σ H Q q p hp => ?_
  obtain ⟨w0, w, sd, S, e, r, q⟩ := q
  subst e
  exact q (w.frz p (.dK [])) _ (Ext.frz hp) (r.st.frz hp) ⟨p, [], rfl, .inr rfl, upd_same, rfl, rfl⟩
end
end Ev
set_option maxRecDepth 100000
set_option maxHeartbeats 2000000
namespace Ev
open PySem PySem.Spec PyProof.Rows L2
structure KTabD (K : PySem.W.Frag) (w : World) (G : Sg) (d : Addr) (js : List (Str × Option D)) : Prop where
  ex : ∃ es n, KDict K w d es n ∧ es.toList.map He.keyOf = He.keysIn w.params (js.map (·.1))
  val : ∀ z e, js.lookup z = some (some e) → ∃ u v, PySem.W.nsIn K d z = some (some u) ∧ RelV v u ∧ ∀ wd : Wd, RepV G wd e v
theorem find_keys {w : World} {z : Str} : ∀ {l : List DictEntry} {js : List (Str × Option D)}, l.map He.keyOf = He.keysIn w.params (js.map (·.1)) → (l.find? (·.key.isStr z)).isSome = (js.lookup z).isSome ∧ l.any (·.refKey) = false
  | [], [], _ => ⟨rfl, rfl⟩
  | [], _ :: _, h => by cases h
  | _ :: _, [], h => by cases h
  | e :: l, (k, x) :: js, h => by
    have h1 : He.keyOf e :: l.map He.keyOf = some (k, PyData.keyHash w.params k) :: He.keysIn w.params (js.map (·.1)) := h
    injection h1 with h2 h3
    obtain ⟨i1, i2⟩ := find_keys (z := z) h3
    unfold He.keyOf at h2
    split at h2
    · rename_i y t q
      obtain ⟨h5, h6⟩ := Prod.mk.inj (Option.some.inj h2)
      subst h5
      have hs : e.key.isStr z = (y == z) := by rw [q]; rfl
      have hr : e.refKey = false := by unfold DictEntry.refKey; rw [q]
      refine ⟨?_, by rw [List.any_cons, hr, i2]; rfl⟩
      rw [List.find?_cons, List.lookup_cons, hs]
      by_cases hz : y = z
      · subst hz
        simp
      · have e1 : (y == z) = false := by simpa using hz
        have e2 : (z == y) = false := by simpa using fun q => hz q.symm
        rw [e1, e2]
        exact i1
    · cases h2
theorem KTabD.ns {K : PySem.W.Frag} {w : World} {G : Sg} {d : Addr} {js : List (Str × Option D)} (T : KTabD K w G d js) (z : Str) : ∃ r, PySem.W.nsIn K d z = some r ∧ r.isSome = (js.lookup z).isSome := by
  obtain ⟨es, n, k, h⟩ := T.ex
  obtain ⟨i1, i2⟩ := find_keys (z := z) h
  rcases hf : es.toList.find? (·.key.isStr z) with _ | e
  · rw [hf] at i1
    refine ⟨none, ?_, i1⟩
    unfold PySem.W.nsIn
    rw [k.at_]
    simp only [hf, i2, Bool.false_eq_true, if_false]
  · rw [hf] at i1
    refine ⟨some e.val, ?_, i1⟩
    unfold PySem.W.nsIn
    rw [k.at_]
    simp only [hf]
def dInK (neg : Bool) (tbl : Nat → Option (List (Str × Option D))) : D → D → M D
  | .str z, .cls c => match tbl c with
    | some js => M.pure (.bl (neg != (js.lookup z).isSome))
    | none => M.stuck
  | _, _ => M.stuck
def dIxK (tbl : Nat → Option (List (Str × Option D))) : D → D → M D
  | .cls c, .str z => match tbl c with
    | some js => match js.lookup z with
      | some (some e) => M.pure e
      | _ => M.stuck
    | none => M.stuck
  | _, _ => M.stuck
section
variable {G : Sg} {X : Cx} {W : WX} {k n i : Nat} {x : Str} {p pos : Pos} {e : Expr} {es : List Expr} {fa : List SV → M (List D)} {tbl : Nat → Option (List (Str × Option D))}
theorem o_notInK (T : ∀ c js, tbl c = some js → KTabD X.K X.w G (G.ca c) js) : OpR X (compareOp .NotIn) (rD2 G (dInK true tbl)) := by
  intro pins s σ H x y v u Q I rx ry ⟨W, w, S, d, e, eH, st, r1, r2, q⟩
  unfold dInK at q
  cases d <;> try exact q.elim
  rename_i z
  cases e <;> try exact q.elim
  rename_i c
  rcases ht : tbl c with _ | js
  · simp only [ht] at q; exact q.elim
  · simp only [ht] at q
    have Tc := T c js ht
    obtain ⟨es, n, kd, _⟩ := Tc.ex
    obtain ⟨r, h1, h2⟩ := Tc.ns z
    cases (show x = .str z from r1)
    cases (show y = .ref (G.ca c) from r2)
    refine op_notIn_kd kd pins s σ H _ _ v u Q I rx ry ⟨z, r, rfl, rfl, h1, ?_⟩
    have q2 := fin_pure (b := V.bl _) q st rfl
    rw [eH, ← h2, Bool.true_bne] at q2
    exact q2
theorem ix_K (T : ∀ c js, tbl c = some js → KTabD X.K X.w G (G.ca c) js) : IxR X (rD2 G (dIxK tbl)) := by
  intro value slice pins s σ H x y v u Q I rx ry h hs
  obtain ⟨W, w, S, d, e, eH, st, r1, r2, q⟩ := h
  unfold dIxK at q
  cases d <;> try exact q.elim
  rename_i c
  cases e <;> try exact q.elim
  rename_i z
  rcases ht : tbl c with _ | js
  · simp only [ht] at q; exact q.elim
  · simp only [ht] at q
    rcases hl : js.lookup z with _ | _ | e
    · simp only [hl] at q; exact q.elim
    · simp only [hl] at q; exact q.elim
    · simp only [hl] at q
      have Tc := T c js ht
      obtain ⟨es, n, kd, _⟩ := Tc.ex
      obtain ⟨u0, v0, h1, h2, h3⟩ := Tc.val z e hl
      cases (show x = .ref (G.ca c) from r1)
      cases (show y = .str z from r2)
      refine ix_kdict value slice pins s σ H _ _ v u Q I rx ry ⟨G.ca c, z, v0, rfl, rfl, ⟨es, n, u0, kd.at_, kd.lit, h1, h2⟩, ?_⟩ hs
      rw [← eH]
      exact fin_pure q st (h3 w)
theorem v_ixK {a b : Expr} {fb fA : List SV → M D} (T : ∀ c js, tbl c = some js → KTabD X.K X.w G (G.ca c) js) (ha : PV G X W a fA) (hb : PV G X W b fb) (hs : notSlice b = true) : PV G X W (.Subscript a b pos) (fun sd => M.bind (fA sd) fun x => M.bind (fb sd) fun y => dIxK tbl x y) := by
  refine PE.imp (pe_ix (ix_K T) ha hb (plain_ix hs)) fun σ H Q h => ?_
  obtain ⟨w0, w, sd, S, e, r, q⟩ := h
  refine ⟨w0, w, sd, S, e, r, fin_step q fun w1 S1 d v e1 s1 rv q1 => ⟨w0, w1, sd, S1, rfl, r.step e1 s1, fin_step q1 fun w2 S2 d2 v2 e2 s2 rv2 q2 => ?_⟩⟩
  exact ⟨_, w2, S2, d, d2, rfl, s2, RepV.mono e2 s1.dj d v rv, rv2, q2⟩
def pickF (tbl : Nat → Option (List D → M D)) : D → M (List D → M D)
  | .cls c => match tbl c with
    | some g => M.pure g
    | none => M.stuck
  | _ => M.stuck
theorem v_callV {tbl : Nat → Option (List D → M D)} (c : Ctx G X W k) (T : ∀ c g, tbl c = some g → FnX X G k (G.ca c) g) (hN : X.N[i]? = some x) (hv : Vis X.env.scope x) (hd : (x == ("__debug__" : Str)) = false) (hcd : (x == ("__classdict__" : Str)) = false) (ha : PLn G X W n (e :: es) fa) (hs : (e :: es).all notStar = true) :
    PV G X W (.Call (.Name x p) (e :: es) [] pos) (fun sd => M.bind (getv i sd) fun d => M.bind (pickF tbl d) fun g => M.bind (fa sd) g) := by
  have hs2 : notStar e = true ∧ es.all notStar = true := by simpa using hs
  constructor
  intro pins s σ H Q I ⟨w0, w, sd, S, eH, r, q⟩
  rcases hx : sd[i]? with _ | _ | d | o
  · unfold M.bind getv at q; simp only [hx] at q; exact q.elim
  · unfold M.bind getv at q; simp only [hx] at q; exact q.elim
  · have q : FinG G (RepV G) (fun c x H => W c x σ H) w Q (M.bind (pickF tbl d) (fun g => M.bind (fa sd) g) S) := by
      unfold M.bind getv at q
      simp only [hx] at q
      exact q
    obtain ⟨v, hv1, rv⟩ := r.vl i d hx
    cases d with
    | cls cc =>
      rcases ht : tbl cc with _ | g
      · unfold M.bind pickF at q; simp only [ht] at q; exact q.elim
      · have q : FinG G (RepV G) (fun c x H => W c x σ H) w Q (M.bind (fa sd) g S) := by
          unfold M.bind pickF at q
          simp only [ht] at q
          exact q
        obtain rfl : v = V.ref (G.ca cc) := rv
        have F := T cc g ht
        refine wpAny_Call_Name_kw (thn ((pe_var (pos := p) hN hv hd hcd).run pins s σ H (fun v H1 => v = .ref (G.ca cc) ∧ H1 = H) I ⟨_, hv1, rfl, rfl⟩) ?_)
        rintro u s1 ⟨v, H1, I1, r1, rfl, rfl⟩
        obtain rfl : u = Value.ref (G.ca cc) := r1
        refine PySem.W.callWith_K (h₀ := X.base) I1.ok.mod.kin F.kp (thn (ha.run pos pins s1 σ _ (fun vs H2 => spV G g vs H2 Q (WE W σ)) I1 ?_) ?_) (starEach_cons hs2.1) (starEach_all hs2.2 pos)
        · exact ⟨w0, w, sd, S, eH, r, fin_step q fun w2 S2 ds vs e2 s2 rv2 q2 => ⟨w2, ds, S2, rfl, s2, rv2.1, q2⟩⟩
        · rintro us s2 ⟨vs, H2, I2, rv2, q2⟩
          exact ⟨I2.kIn, run_fa c F I2 rv2 q2⟩
    | _ => exact q.elim
  · unfold M.bind getv at q; simp only [hx] at q; exact q.elim
end
end Ev
namespace Ev
open PySem L2
theorem val_nil {PP : Str → D → Prop} : ∀ z e, ([] : List (Str × Option D)).lookup z = some (some e) → PP z e := fun _ _ h => nomatch h
theorem val_cons {k : Str} {x : Option D} {js : List (Str × Option D)} {PP : Str → D → Prop} (h0 : ∀ e, x = some e → PP k e) (h : ∀ z e, js.lookup z = some (some e) → PP z e) : ∀ z e, ((k, x) :: js).lookup z = some (some e) → PP z e := fun z e hz => by
  rw [List.lookup_cons] at hz
  by_cases q : z = k
  · subst q
    simp only [beq_self_eq_true] at hz
    exact h0 e (Option.some.inj hz)
  · have q2 : (z == k) = false := by simpa using q
    rw [q2] at hz
    exact h z e hz
end Ev
namespace Ev
open PySem PySem.Spec PyProof.Rows L2
def dRevX : D → M D
  | .tup ds => dStep (-1) (.tup ds)
  | d => dRev d
theorem v_revX {G : Sg} {X : Cx} {W : WX} {e : Expr} {f : List SV → M D} {j : Nat} {p1 p2 p3 pos : Pos} (cK : G.K = X.K) (he : PV G X W e f) : PV G X W (.Subscript e (.Slice none none (some (.UnaryOp .USub (.Constant (.int 1) j p1) p2)) p3) pos) (fun sd => M.bind (f sd) dRevX) := by
  have h1 := v_rev (j := j) (p1 := p1) (p2 := p2) (p3 := p3) (pos := pos) cK he
  have h2 := v_stepT (p3 := p3) (pos := pos) cK he (po_neg1 (j := j) (p1 := p1) (p2 := p2)) (by decide) (by decide)
  constructor
  intro pins s σ H Q I ⟨w0, w, sd, S, eH, r, q⟩
  have q : FinG G (RepV G) (fun c x H => W c x σ H) w Q (M.bind (f sd) dRevX S) := q
  rcases hf : f sd S with _ | ⟨er | d, S1⟩
  · have e1 : M.bind (f sd) dRevX S = none := by unfold M.bind; rw [hf]
    rw [e1] at q
    exact q.elim
  · have e1 : ∀ k : D → M D, M.bind (f sd) k S = some (.error er, S1) := fun k => by unfold M.bind; rw [hf]
    refine h1.run pins s σ H Q I ⟨w0, w, sd, S, eH, r, ?_⟩
    show FinG _ _ _ _ _ (M.bind (f sd) dRev S)
    rw [e1] at q ⊢
    exact q
  · have e1 : ∀ k : D → M D, M.bind (f sd) k S = k d S1 := fun k => by unfold M.bind; rw [hf]
    rw [e1] at q
    cases d with
    | tup ds =>
      refine h2.run pins s σ H Q I ⟨w0, w, sd, S, eH, r, ?_⟩
      show FinG _ _ _ _ _ (M.bind (f sd) (dStep (-1)) S)
      rw [e1]
      exact q
    | _ =>
      refine h1.run pins s σ H Q I ⟨w0, w, sd, S, eH, r, ?_⟩
      show FinG _ _ _ _ _ (M.bind (f sd) dRev S)
      rw [e1]
      exact q
end Ev
set_option maxRecDepth 100000
set_option maxHeartbeats 2000000
namespace Ev
open PySem PySem.Spec PyProof.Rows L2
end Ev
set_option maxRecDepth 100000
set_option maxHeartbeats 2000000
namespace Ev
open PySem PySem.Spec PyProof.Rows L2
end Ev
set_option maxRecDepth 100000
set_option maxHeartbeats 2000000
namespace Ev
open PySem PySem.Spec PyProof.Rows L2
end Ev
set_option maxRecDepth 100000
set_option maxHeartbeats 2000000
namespace Ev
open PySem PySem.Spec PyProof.Rows L2
end Ev
set_option maxRecDepth 100000
set_option maxHeartbeats 4000000
local macro_rules | `(tactic| leaf_len) => `(tactic| first | exact Or.inl rfl | exact Or.inr (Or.inl rfl) | exact Or.inr (Or.inr rfl))
local macro_rules | `(tactic| mem_news) => `(tactic| first | exact Or.inl rfl | exact Or.inr rfl)
namespace K72
open PySem PySem.Spec PyProof.Rows L2 Ev
def top (i : Nat) : Stmt := PySem.Challenge.pw_rungladders_k72_patterns_and_limits_judg.main.body.getD i (.Pass ⟨0, 0, 0, 0⟩)
def flds : Nat → List Str := fun c => match c with | 0 => ["told"] | 1 => ["row", "chain", "scale"] | 2 => ["triple"] | 5 => ["first", "pattern"] | _ => []
abbrev GG (b : Bool) (K : PySem.W.Frag) (ad : Nat → Addr) : Sg := { K := K, ca := fun c => ad (1000 + c), fn := flds, xc := fun _ => .none, xf := fun _ => Str.empty, gd := b }
abbrev st__law_pick : Stmt := top 103
theorem sc__law_pick : FnScope ["_law_tape", "_law_many", "_law_digit"] ["_law_tape", "_law_many"] (defScope st__law_pick) := ⟨rfl, rfl, rfl, by decide +kernel, rfl, by decide +kernel, by decide +kernel⟩
abbrev st__law_even : Stmt := top 110
theorem sc__law_even : FnScope ["_law_tape", "_law_rail", "_law_rung", "_law_end"] ["_law_tape"] (defScope st__law_even) := ⟨rfl, rfl, rfl, by decide +kernel, rfl, by decide +kernel, by decide +kernel⟩
abbrev st__law_anyrow : Stmt := top 109
theorem sc__law_anyrow : FnScope ["_law_tape", "_law_longest", "_law_many", "_law_turn"] ["_law_tape", "_law_longest"] (defScope st__law_anyrow) := ⟨rfl, rfl, rfl, by decide +kernel, rfl, by decide +kernel, by decide +kernel⟩
abbrev st__law_some_row : Stmt := top 111
theorem sc__law_some_row : FnScope ["_law_tape", "_law_longest"] ["_law_tape", "_law_longest"] (defScope st__law_some_row) := ⟨rfl, rfl, rfl, by decide +kernel, rfl, by decide +kernel, by decide +kernel⟩
abbrev st__law_anyload : Stmt := top 113
theorem sc__law_anyload : FnScope ["_law_tape", "_law_way", "_law_by"] ["_law_tape"] (defScope st__law_anyload) := ⟨rfl, rfl, rfl, by decide +kernel, rfl, by decide +kernel, by decide +kernel⟩
abbrev st__law_near : Stmt := top 112
theorem sc__law_near : FnScope ["_law_tape", "_law_row", "_law_way", "_law_place", "_law_size", "_law_more", "_law_word"] ["_law_tape", "_law_row"] (defScope st__law_near) := ⟨rfl, rfl, rfl, by decide +kernel, rfl, by decide +kernel, by decide +kernel⟩
abbrev st__law_crossing : Stmt := top 123
theorem sc__law_crossing : FnScope ["_law_tape", "_law_size", "_law_row"] ["_law_tape"] (defScope st__law_crossing) := ⟨rfl, rfl, rfl, by decide +kernel, rfl, by decide +kernel, by decide +kernel⟩
abbrev st__law_led : Stmt := top 107
theorem sc__law_led : FnScope ["_law_row", "_law_pair", "_law_top", "_law_bottom", "_law_word", "_law_size"] ["_law_row", "_law_pair"] (defScope st__law_led) := ⟨rfl, rfl, rfl, by decide +kernel, rfl, by decide +kernel, by decide +kernel⟩
abbrev st__law_isqrt : Stmt := top 121
theorem sc__law_isqrt : FnScope ["_law_number", "_law_root", "_law_part"] ["_law_number"] (defScope st__law_isqrt) := ⟨rfl, rfl, rfl, by decide +kernel, rfl, by decide +kernel, by decide +kernel⟩
abbrev st__law_lowest : Stmt := top 104
theorem sc__law_lowest : FnScope ["_law_top", "_law_bottom", "_law_one", "_law_two"] ["_law_top", "_law_bottom"] (defScope st__law_lowest) := ⟨rfl, rfl, rfl, by decide +kernel, rfl, by decide +kernel, by decide +kernel⟩
abbrev st__law_limit : Stmt := top 122
theorem sc__law_limit : FnScope ["_law_row", "_law_a", "_law_c", "_law_b", "_law_d", "_law_inner", "_law_root", "_law_top", "_law_bottom", "_law_by"] ["_law_row"] (defScope st__law_limit) := ⟨rfl, rfl, rfl, by decide +kernel, rfl, by decide +kernel, by decide +kernel⟩
abbrev st__law_told_limit : Stmt := top 125
theorem sc__law_told_limit : FnScope ["_law_tape", "_law_row", "_law_mate", "_law_due_here", "_law_way", "_law_by", "_law_place", "_law_part"] ["_law_tape", "_law_row", "_law_mate"] (defScope st__law_told_limit) := ⟨rfl, rfl, rfl, by decide +kernel, rfl, by decide +kernel, by decide +kernel⟩
abbrev st__law_after : Stmt := top 108
theorem sc__law_after : FnScope ["_law_row", "_law_pair", "_law_many", "_law_found", "_law_turn"] ["_law_row", "_law_pair", "_law_many"] (defScope st__law_after) := ⟨rfl, rfl, rfl, by decide +kernel, rfl, by decide +kernel, by decide +kernel⟩
abbrev st__law_case : Stmt := top 126
theorem sc__law_case : FnScope ["_law_tape", "_law_row", "_law_end", "_law_mate", "_law_way", "_law_start", "_law_few", "_law_more", "_law_between"] ["_law_tape"] (defScope st__law_case) := ⟨rfl, rfl, rfl, by decide +kernel, rfl, by decide +kernel, by decide +kernel⟩
abbrev st__law_anyodd : Stmt := top 118
theorem sc__law_anyodd : FnScope ["_law_tape", "_law_odd"] ["_law_tape"] (defScope st__law_anyodd) := ⟨rfl, rfl, rfl, by decide +kernel, rfl, by decide +kernel, by decide +kernel⟩
abbrev st__law_bent : Stmt := top 119
theorem sc__law_bent : FnScope ["_law_tape", "_law_said", "_law_way", "_law_place", "_law_odd", "_law_thing", "_law_is_inner"] ["_law_tape", "_law_said"] (defScope st__law_bent) := ⟨rfl, rfl, rfl, by decide +kernel, rfl, by decide +kernel, by decide +kernel⟩
abbrev st_is_integer : Stmt := top 22
theorem sc_is_integer : FnScope ["value"] ["value"] (defScope st_is_integer) := ⟨rfl, rfl, rfl, by decide +kernel, rfl, by decide +kernel, by decide +kernel⟩
abbrev st_is_between : Stmt := top 23
theorem sc_is_between : FnScope ["value", "low", "high"] ["value", "low", "high"] (defScope st_is_between) := ⟨rfl, rfl, rfl, by decide +kernel, rfl, by decide +kernel, by decide +kernel⟩
abbrev st_is_piece : Stmt := top 61
theorem sc_is_piece : FnScope ["value"] ["value"] (defScope st_is_piece) := ⟨rfl, rfl, rfl, by decide +kernel, rfl, by decide +kernel, by decide +kernel⟩
abbrev st_check_pieces : Stmt := top 62
theorem sc_check_pieces : FnScope ["pieces", "index", "piece"] ["pieces"] (defScope st_check_pieces) := ⟨rfl, rfl, rfl, by decide +kernel, rfl, by decide +kernel, by decide +kernel⟩
abbrev st_joined : Stmt := top 38
theorem sc_joined : FnScope ["front", "back", "a", "b", "c", "d", "e", "f", "g", "h"] ["front", "back"] (defScope st_joined) := ⟨rfl, rfl, rfl, by decide +kernel, rfl, by decide +kernel, by decide +kernel⟩
abbrev st_chain_of : Stmt := top 39
theorem sc_chain_of : FnScope ["pieces", "found", "times", "word", "ohms"] ["pieces"] (defScope st_chain_of) := ⟨rfl, rfl, rfl, by decide +kernel, rfl, by decide +kernel, by decide +kernel⟩
abbrev st_PatternX_initX : Stmt := inClass (top 66) 0
theorem sc_PatternX_initX : FnScope ["self", "pieces"] ["self", "pieces"] (defScope st_PatternX_initX) := ⟨rfl, rfl, rfl, by decide +kernel, rfl, by decide +kernel, by decide +kernel⟩
abbrev st_RowX_initX : Stmt := inClass (top 60) 0
theorem sc_RowX_initX : FnScope ["self", "told"] ["self", "told"] (defScope st_RowX_initX) := ⟨rfl, rfl, rfl, by decide +kernel, rfl, by decide +kernel, by decide +kernel⟩
abbrev st_pattern_of : Stmt := top 65
theorem sc_pattern_of : FnScope ["pieces"] ["pieces"] (defScope st_pattern_of) := ⟨rfl, rfl, rfl, by decide +kernel, rfl, by decide +kernel, by decide +kernel⟩
abbrev st_pattern_told : Stmt := top 84
theorem sc_pattern_told : FnScope ["value", "piece"] ["value"] (defScope st_pattern_told) := ⟨rfl, rfl, rfl, by decide +kernel, rfl, by decide +kernel, by decide +kernel⟩
abbrev st_is_fraction : Stmt := top 24
theorem sc_is_fraction : FnScope ["value"] ["value"] (defScope st_is_fraction) := ⟨rfl, rfl, rfl, by decide +kernel, rfl, by decide +kernel, by decide +kernel⟩
abbrev st_is_number : Stmt := top 25
theorem sc_is_number : FnScope ["value"] ["value"] (defScope st_is_number) := ⟨rfl, rfl, rfl, by decide +kernel, rfl, by decide +kernel, by decide +kernel⟩
abbrev st_is_resistance : Stmt := top 26
theorem sc_is_resistance : FnScope ["value"] ["value"] (defScope st_is_resistance) := ⟨rfl, rfl, rfl, by decide +kernel, rfl, by decide +kernel, by decide +kernel⟩
abbrev st_check_pattern : Stmt := top 67
theorem sc_check_pattern : FnScope ["value"] ["value"] (defScope st_check_pattern) := ⟨rfl, rfl, rfl, by decide +kernel, rfl, by decide +kernel, by decide +kernel⟩
abbrev st_check_resistance : Stmt := top 32
theorem sc_check_resistance : FnScope ["value"] ["value"] (defScope st_check_resistance) := ⟨rfl, rfl, rfl, by decide +kernel, rfl, by decide +kernel, by decide +kernel⟩
abbrev st_RunX_initX : Stmt := inClass (top 70) 0
theorem sc_RunX_initX : FnScope ["self", "load"] ["self", "load"] (defScope st_RunX_initX) := ⟨rfl, rfl, rfl, by decide +kernel, rfl, by decide +kernel, by decide +kernel⟩
abbrev st_common : Stmt := top 27
theorem sc_common : FnScope ["one", "other"] ["one", "other"] (defScope st_common) := ⟨rfl, rfl, rfl, by decide +kernel, rfl, by decide +kernel, by decide +kernel⟩
abbrev st_lowest : Stmt := top 28
theorem sc_lowest : FnScope ["top", "bottom", "by"] ["top", "bottom"] (defScope st_lowest) := ⟨rfl, rfl, rfl, by decide +kernel, rfl, by decide +kernel, by decide +kernel⟩
abbrev st_pair_of : Stmt := top 29
theorem sc_pair_of : FnScope ["number"] ["number"] (defScope st_pair_of) := ⟨rfl, rfl, rfl, by decide +kernel, rfl, by decide +kernel, by decide +kernel⟩
abbrev st_LadderX_initX : Stmt := inClass (top 71) 0
theorem sc_LadderX_initX : NdefX.NScope ["self", "pattern", "load", "__class__"] ["self", "pattern", "load"] ["__class__"] (defScope st_LadderX_initX) := NdefX.nscope_by (by decide +kernel)
abbrev st_ladder_told : Stmt := top 86
theorem sc_ladder_told : FnScope ["pieces", "load", "pattern"] ["pieces", "load"] (defScope st_ladder_told) := ⟨rfl, rfl, rfl, by decide +kernel, rfl, by decide +kernel, by decide +kernel⟩
abbrev st_sign_of : Stmt := top 30
theorem sc_sign_of : FnScope ["number"] ["number"] (defScope st_sign_of) := ⟨rfl, rfl, rfl, by decide +kernel, rfl, by decide +kernel, by decide +kernel⟩
abbrev st_compare : Stmt := top 31
theorem sc_compare : FnScope ["one", "other"] ["one", "other"] (defScope st_compare) := ⟨rfl, rfl, rfl, by decide +kernel, rfl, by decide +kernel, by decide +kernel⟩
abbrev st_led : Stmt := top 40
theorem sc_led : FnScope ["chain", "pair", "a", "b", "c", "d"] ["chain", "pair"] (defScope st_led) := ⟨rfl, rfl, rfl, by decide +kernel, rfl, by decide +kernel, by decide +kernel⟩
abbrev st_shows_bound : Stmt := top 88
theorem sc_shows_bound : FnScope ["claim", "paper", "way", "run", "bound", "part"] ["claim", "paper", "way"] (defScope st_shows_bound) := ⟨rfl, rfl, rfl, by decide +kernel, rfl, by decide +kernel, by decide +kernel⟩
abbrev st_shows_most : Stmt := top 89
theorem sc_shows_most : FnScope ["claim", "paper"] ["claim", "paper"] (defScope st_shows_most) := ⟨rfl, rfl, rfl, by decide +kernel, rfl, by decide +kernel, by decide +kernel⟩
abbrev st_difference : Stmt := top 46
theorem sc_difference : FnScope ["one", "other", "a", "b", "c", "d", "e", "f", "g", "h"] ["one", "other"] (defScope st_difference) := ⟨rfl, rfl, rfl, by decide +kernel, rfl, by decide +kernel, by decide +kernel⟩
abbrev st_is_never_below : Stmt := top 82
theorem sc_is_never_below : FnScope ["high", "middle", "low"] ["high", "middle", "low"] (defScope st_is_never_below) := ⟨rfl, rfl, rfl, by decide +kernel, rfl, by decide +kernel, by decide +kernel⟩
abbrev st_shows_never : Stmt := top 92
theorem sc_shows_never : FnScope ["claim", "paper", "pattern", "other", "high", "middle", "low"] ["claim", "paper"] (defScope st_shows_never) := ⟨rfl, rfl, rfl, by decide +kernel, rfl, by decide +kernel, by decide +kernel⟩
abbrev st_shown : Stmt := top 41
theorem sc_shown : FnScope ["chain", "pair", "top", "bottom"] ["chain", "pair"] (defScope st_shown) := ⟨rfl, rfl, rfl, by decide +kernel, rfl, by decide +kernel, by decide +kernel⟩
abbrev st_shows_more : Stmt := top 93
theorem sc_shows_more : FnScope ["claim", "paper", "pattern", "other", "load"] ["claim", "paper"] (defScope st_shows_more) := ⟨rfl, rfl, rfl, by decide +kernel, rfl, by decide +kernel, by decide +kernel⟩
abbrev st_is_rails : Stmt := top 44
theorem sc_is_rails : FnScope ["chain"] ["chain"] (defScope st_is_rails) := ⟨rfl, rfl, rfl, by decide +kernel, rfl, by decide +kernel, by decide +kernel⟩
abbrev st_is_rungs : Stmt := top 45
theorem sc_is_rungs : FnScope ["chain"] ["chain"] (defScope st_is_rungs) := ⟨rfl, rfl, rfl, by decide +kernel, rfl, by decide +kernel, by decide +kernel⟩
abbrev st_root_below : Stmt := top 50
theorem sc_root_below : FnScope ["number", "guess", "better"] ["number"] (defScope st_root_below) := ⟨rfl, rfl, rfl, by decide +kernel, rfl, by decide +kernel, by decide +kernel⟩
abbrev st_normal : Stmt := top 51
theorem sc_normal : FnScope ["square", "line", "whole", "top", "bottom", "within", "root", "by"] ["square", "line", "whole"] (defScope st_normal) := ⟨rfl, rfl, rfl, by decide +kernel, rfl, by decide +kernel, by decide +kernel⟩
abbrev st_ExactX_initX : Stmt := inClass (top 56) 0
theorem sc_ExactX_initX : FnScope ["self", "square", "line", "whole"] ["self", "square", "line", "whole"] (defScope st_ExactX_initX) := ⟨rfl, rfl, rfl, by decide +kernel, rfl, by decide +kernel, by decide +kernel⟩
abbrev st_limit_of : Stmt := top 69
theorem sc_limit_of : FnScope ["chain", "a", "b", "c", "d"] ["chain"] (defScope st_limit_of) := ⟨rfl, rfl, rfl, by decide +kernel, rfl, by decide +kernel, by decide +kernel⟩
abbrev st_Ladder_limit : Stmt := inClass (top 71) 1
theorem sc_Ladder_limit : FnScope ["self"] ["self"] (defScope st_Ladder_limit) := ⟨rfl, rfl, rfl, by decide +kernel, rfl, by decide +kernel, by decide +kernel⟩
abbrev st_Exact_equation : Stmt := inClass (top 56) 1
theorem sc_Exact_equation : FnScope ["self"] ["self"] (defScope st_Exact_equation) := ⟨rfl, rfl, rfl, by decide +kernel, rfl, by decide +kernel, by decide +kernel⟩
abbrev st_shows_limit : Stmt := top 94
theorem sc_shows_limit : FnScope ["claim", "paper", "run", "number"] ["claim", "paper"] (defScope st_shows_limit) := ⟨rfl, rfl, rfl, by decide +kernel, rfl, by decide +kernel, by decide +kernel⟩
abbrev st_accepts : Stmt := top 99
theorem sc_accepts : FnScope ["claim", "certificate", "size", "judge"] ["claim", "certificate"] (defScope st_accepts) := ⟨rfl, rfl, rfl, by decide +kernel, rfl, by decide +kernel, by decide +kernel⟩
abbrev st__law_is_whole : Stmt := top 115
theorem sc__law_is_whole : FnScope ["_law_thing", "_law_first", "_law_last"] ["_law_thing", "_law_first", "_law_last"] (defScope st__law_is_whole) := ⟨rfl, rfl, rfl, by decide +kernel, rfl, by decide +kernel, by decide +kernel⟩
abbrev st__law_is_row : Stmt := top 116
theorem sc__law_is_row : FnScope ["_law_thing", "_law_part"] ["_law_thing"] (defScope st__law_is_row) := ⟨rfl, rfl, rfl, by decide +kernel, rfl, by decide +kernel, by decide +kernel⟩
abbrev st__law_is_load : Stmt := top 114
theorem sc__law_is_load : FnScope ["_law_thing", "_law_both", "_law_x"] ["_law_thing"] (defScope st__law_is_load) := ⟨rfl, rfl, rfl, by decide +kernel, rfl, by decide +kernel, by decide +kernel⟩
abbrev st__law_never : Stmt := top 120
theorem sc__law_never : FnScope ["_law_row", "_law_mate", "_law_a", "_law_c", "_law_b", "_law_d", "_law_p", "_law_r", "_law_q", "_law_s", "_law_lead", "_law_end", "_law_mid"] ["_law_row", "_law_mate"] (defScope st__law_never) := ⟨rfl, rfl, rfl, by decide +kernel, rfl, by decide +kernel, by decide +kernel⟩
abbrev st__law_is_number : Stmt := top 117
theorem sc__law_is_number : FnScope ["_law_thing", "_law_both", "_law_x"] ["_law_thing"] (defScope st__law_is_number) := ⟨rfl, rfl, rfl, by decide +kernel, rfl, by decide +kernel, by decide +kernel⟩
abbrev st__law_frac : Stmt := top 105
theorem sc__law_frac : FnScope ["_law_thing"] ["_law_thing"] (defScope st__law_frac) := ⟨rfl, rfl, rfl, by decide +kernel, rfl, by decide +kernel, by decide +kernel⟩
abbrev st__law_sign : Stmt := top 106
theorem sc__law_sign : FnScope ["_law_one", "_law_two", "_law_gap"] ["_law_one", "_law_two"] (defScope st__law_sign) := ⟨rfl, rfl, rfl, by decide +kernel, rfl, by decide +kernel, by decide +kernel⟩
abbrev st__law_due : Stmt := top 124
theorem sc__law_due : FnScope ["_law_said", "_law_paper", "_law_part"] ["_law_said", "_law_paper"] (defScope st__law_due) := ⟨rfl, rfl, rfl, by decide +kernel, rfl, by decide +kernel, by decide +kernel⟩
abbrev st__law_right : Stmt := top 127
theorem sc__law_right : FnScope ["_law_tape", "_law_turn", "_law_said", "_law_paper"] ["_law_tape"] (defScope st__law_right) := ⟨rfl, rfl, rfl, by decide +kernel, rfl, by decide +kernel, by decide +kernel⟩
abbrev st__law_src : Stmt := top 102
theorem sc__law_src : FnScope ["_law_number", "_law_digits"] ["_law_number"] (defScope st__law_src) := ⟨rfl, rfl, rfl, by decide +kernel, rfl, by decide +kernel, by decide +kernel⟩
abbrev st__law_cell : Stmt := top 101
theorem sc__law_cell : FnScope ["_law_script", "_law_place", "_law_found", "_law_number"] ["_law_script", "_law_place"] (defScope st__law_cell) := ⟨rfl, rfl, rfl, by decide +kernel, rfl, by decide +kernel, by decide +kernel⟩
abbrev st_law : Stmt := top 128
theorem sc_law : FnScope ["_law_script", "_law_place"] ["_law_script"] (defScope st_law) := ⟨rfl, rfl, rfl, by decide +kernel, rfl, by decide +kernel, by decide +kernel⟩
def js_JUDGES : List (Str × Option D) := [("value", some (.tup [.int 5, .cls 3900])), ("most", some (.tup [.int 4, .cls 3041])), ("least", some (.tup [.int 4, .cls 3902])), ("apart", some (.tup [.int 6, .cls 3903])), ("never", some (.tup [.int 3, .cls 3044])), ("more", some (.tup [.int 4, .cls 3046])), ("limit", some (.tup [.int 4, .cls 3055])), ("greatest", some (.tup [.int 5, .cls 3907])), ("least of all", some (.tup [.int 5, .cls 3908]))]
structure Facts (P : Program) (w : World) (K : PySem.W.Frag) (mg : Str → Option Value) (base : Heap) (ad : Nat → Addr) : Prop where
  f__law_pick : ∃ fd, Fun K "_law_pick" "_law_pick" st__law_pick (ad 0) fd
  g__law_pick : mg "_law_pick" = some (.ref (ad 0))
  f__law_even : ∃ fd, Fun K "_law_even" "_law_even" st__law_even (ad 1) fd
  g__law_even : mg "_law_even" = some (.ref (ad 1))
  f__law_anyrow : ∃ fd, Fun K "_law_anyrow" "_law_anyrow" st__law_anyrow (ad 2) fd
  g__law_anyrow : mg "_law_anyrow" = some (.ref (ad 2))
  f__law_some_row : ∃ fd, Fun K "_law_some_row" "_law_some_row" st__law_some_row (ad 3) fd
  g__law_some_row : mg "_law_some_row" = some (.ref (ad 3))
  f__law_anyload : ∃ fd, Fun K "_law_anyload" "_law_anyload" st__law_anyload (ad 4) fd
  g__law_anyload : mg "_law_anyload" = some (.ref (ad 4))
  f__law_near : ∃ fd, Fun K "_law_near" "_law_near" st__law_near (ad 5) fd
  g__law_near : mg "_law_near" = some (.ref (ad 5))
  f__law_crossing : ∃ fd, Fun K "_law_crossing" "_law_crossing" st__law_crossing (ad 6) fd
  g__law_crossing : mg "_law_crossing" = some (.ref (ad 6))
  f__law_led : ∃ fd, Fun K "_law_led" "_law_led" st__law_led (ad 7) fd
  g__law_led : mg "_law_led" = some (.ref (ad 7))
  f__law_isqrt : ∃ fd, Fun K "_law_isqrt" "_law_isqrt" st__law_isqrt (ad 8) fd
  g__law_isqrt : mg "_law_isqrt" = some (.ref (ad 8))
  f__law_lowest : ∃ fd, Fun K "_law_lowest" "_law_lowest" st__law_lowest (ad 9) fd
  g__law_lowest : mg "_law_lowest" = some (.ref (ad 9))
  f__law_limit : ∃ fd, Fun K "_law_limit" "_law_limit" st__law_limit (ad 10) fd
  g__law_limit : mg "_law_limit" = some (.ref (ad 10))
  f__law_told_limit : ∃ fd, Fun K "_law_told_limit" "_law_told_limit" st__law_told_limit (ad 11) fd
  g__law_told_limit : mg "_law_told_limit" = some (.ref (ad 11))
  f__law_after : ∃ fd, Fun K "_law_after" "_law_after" st__law_after (ad 12) fd
  g__law_after : mg "_law_after" = some (.ref (ad 12))
  f__law_case : ∃ fd, Fun K "_law_case" "_law_case" st__law_case (ad 13) fd
  g__law_case : mg "_law_case" = some (.ref (ad 13))
  f__law_anyodd : ∃ fd, Fun K "_law_anyodd" "_law_anyodd" st__law_anyodd (ad 14) fd
  g__law_anyodd : mg "_law_anyodd" = some (.ref (ad 14))
  f__law_bent : ∃ fd, Fun K "_law_bent" "_law_bent" st__law_bent (ad 15) fd
  g__law_bent : mg "_law_bent" = some (.ref (ad 15))
  f_is_integer : ∃ fd, Fun K "is_integer" "is_integer" st_is_integer (ad 16) fd
  g_is_integer : mg "is_integer" = some (.ref (ad 16))
  f_is_between : ∃ fd, Fun K "is_between" "is_between" st_is_between (ad 17) fd
  g_is_between : mg "is_between" = some (.ref (ad 17))
  f_is_piece : ∃ fd, Fun K "is_piece" "is_piece" st_is_piece (ad 18) fd
  g_is_piece : mg "is_piece" = some (.ref (ad 18))
  f_check_pieces : ∃ fd, Fun K "check_pieces" "check_pieces" st_check_pieces (ad 19) fd
  g_check_pieces : mg "check_pieces" = some (.ref (ad 19))
  f_joined : ∃ fd, Fun K "joined" "joined" st_joined (ad 20) fd
  g_joined : mg "joined" = some (.ref (ad 20))
  f_chain_of : ∃ fd, Fun K "chain_of" "chain_of" st_chain_of (ad 21) fd
  g_chain_of : mg "chain_of" = some (.ref (ad 21))
  f_PatternX_initX : ∃ fd, Fun K "__init__" "Pattern.__init__" st_PatternX_initX (ad 22) fd
  f_RowX_initX : ∃ fd, Fun K "__init__" "Row.__init__" st_RowX_initX (ad 23) fd
  f_pattern_of : ∃ fd, Fun K "pattern_of" "pattern_of" st_pattern_of (ad 24) fd
  g_pattern_of : mg "pattern_of" = some (.ref (ad 24))
  f_pattern_told : ∃ fd, Fun K "pattern_told" "pattern_told" st_pattern_told (ad 25) fd
  g_pattern_told : mg "pattern_told" = some (.ref (ad 25))
  f_is_fraction : ∃ fd, Fun K "is_fraction" "is_fraction" st_is_fraction (ad 26) fd
  g_is_fraction : mg "is_fraction" = some (.ref (ad 26))
  f_is_number : ∃ fd, Fun K "is_number" "is_number" st_is_number (ad 27) fd
  g_is_number : mg "is_number" = some (.ref (ad 27))
  f_is_resistance : ∃ fd, Fun K "is_resistance" "is_resistance" st_is_resistance (ad 28) fd
  g_is_resistance : mg "is_resistance" = some (.ref (ad 28))
  f_check_pattern : ∃ fd, Fun K "check_pattern" "check_pattern" st_check_pattern (ad 29) fd
  g_check_pattern : mg "check_pattern" = some (.ref (ad 29))
  f_check_resistance : ∃ fd, Fun K "check_resistance" "check_resistance" st_check_resistance (ad 30) fd
  g_check_resistance : mg "check_resistance" = some (.ref (ad 30))
  f_RunX_initX : ∃ fd, Fun K "__init__" "Run.__init__" st_RunX_initX (ad 31) fd
  f_common : ∃ fd, Fun K "common" "common" st_common (ad 32) fd
  g_common : mg "common" = some (.ref (ad 32))
  f_lowest : ∃ fd, Fun K "lowest" "lowest" st_lowest (ad 33) fd
  g_lowest : mg "lowest" = some (.ref (ad 33))
  f_pair_of : ∃ fd, Fun K "pair_of" "pair_of" st_pair_of (ad 34) fd
  g_pair_of : mg "pair_of" = some (.ref (ad 34))
  f_ladder_told : ∃ fd, Fun K "ladder_told" "ladder_told" st_ladder_told (ad 36) fd
  g_ladder_told : mg "ladder_told" = some (.ref (ad 36))
  f_sign_of : ∃ fd, Fun K "sign_of" "sign_of" st_sign_of (ad 37) fd
  g_sign_of : mg "sign_of" = some (.ref (ad 37))
  f_compare : ∃ fd, Fun K "compare" "compare" st_compare (ad 38) fd
  g_compare : mg "compare" = some (.ref (ad 38))
  f_led : ∃ fd, Fun K "led" "led" st_led (ad 39) fd
  g_led : mg "led" = some (.ref (ad 39))
  f_shows_bound : ∃ fd, Fun K "shows_bound" "shows_bound" st_shows_bound (ad 40) fd
  g_shows_bound : mg "shows_bound" = some (.ref (ad 40))
  f_shows_most : ∃ fd, Fun K "shows_most" "shows_most" st_shows_most (ad 41) fd
  g_shows_most : mg "shows_most" = some (.ref (ad 41))
  f_difference : ∃ fd, Fun K "difference" "difference" st_difference (ad 42) fd
  g_difference : mg "difference" = some (.ref (ad 42))
  f_is_never_below : ∃ fd, Fun K "is_never_below" "is_never_below" st_is_never_below (ad 43) fd
  g_is_never_below : mg "is_never_below" = some (.ref (ad 43))
  f_shows_never : ∃ fd, Fun K "shows_never" "shows_never" st_shows_never (ad 44) fd
  g_shows_never : mg "shows_never" = some (.ref (ad 44))
  f_shown : ∃ fd, Fun K "shown" "shown" st_shown (ad 45) fd
  g_shown : mg "shown" = some (.ref (ad 45))
  f_shows_more : ∃ fd, Fun K "shows_more" "shows_more" st_shows_more (ad 46) fd
  g_shows_more : mg "shows_more" = some (.ref (ad 46))
  f_is_rails : ∃ fd, Fun K "is_rails" "is_rails" st_is_rails (ad 47) fd
  g_is_rails : mg "is_rails" = some (.ref (ad 47))
  f_is_rungs : ∃ fd, Fun K "is_rungs" "is_rungs" st_is_rungs (ad 48) fd
  g_is_rungs : mg "is_rungs" = some (.ref (ad 48))
  f_root_below : ∃ fd, Fun K "root_below" "root_below" st_root_below (ad 49) fd
  g_root_below : mg "root_below" = some (.ref (ad 49))
  f_normal : ∃ fd, Fun K "normal" "normal" st_normal (ad 50) fd
  g_normal : mg "normal" = some (.ref (ad 50))
  f_ExactX_initX : ∃ fd, Fun K "__init__" "Exact.__init__" st_ExactX_initX (ad 51) fd
  f_limit_of : ∃ fd, Fun K "limit_of" "limit_of" st_limit_of (ad 52) fd
  g_limit_of : mg "limit_of" = some (.ref (ad 52))
  f_Ladder_limit : ∃ fd, Fun K "limit" "Ladder.limit" st_Ladder_limit (ad 53) fd
  f_Exact_equation : ∃ fd, Fun K "equation" "Exact.equation" st_Exact_equation (ad 54) fd
  f_shows_limit : ∃ fd, Fun K "shows_limit" "shows_limit" st_shows_limit (ad 55) fd
  g_shows_limit : mg "shows_limit" = some (.ref (ad 55))
  f_accepts : ∃ fd, Fun K "accepts" "accepts" st_accepts (ad 56) fd
  g_accepts : mg "accepts" = some (.ref (ad 56))
  f__law_is_whole : ∃ fd, Fun K "_law_is_whole" "_law_is_whole" st__law_is_whole (ad 57) fd
  g__law_is_whole : mg "_law_is_whole" = some (.ref (ad 57))
  f__law_is_row : ∃ fd, Fun K "_law_is_row" "_law_is_row" st__law_is_row (ad 58) fd
  g__law_is_row : mg "_law_is_row" = some (.ref (ad 58))
  f__law_is_load : ∃ fd, Fun K "_law_is_load" "_law_is_load" st__law_is_load (ad 59) fd
  g__law_is_load : mg "_law_is_load" = some (.ref (ad 59))
  f__law_never : ∃ fd, Fun K "_law_never" "_law_never" st__law_never (ad 60) fd
  g__law_never : mg "_law_never" = some (.ref (ad 60))
  f__law_is_number : ∃ fd, Fun K "_law_is_number" "_law_is_number" st__law_is_number (ad 61) fd
  g__law_is_number : mg "_law_is_number" = some (.ref (ad 61))
  f__law_frac : ∃ fd, Fun K "_law_frac" "_law_frac" st__law_frac (ad 62) fd
  g__law_frac : mg "_law_frac" = some (.ref (ad 62))
  f__law_sign : ∃ fd, Fun K "_law_sign" "_law_sign" st__law_sign (ad 63) fd
  g__law_sign : mg "_law_sign" = some (.ref (ad 63))
  f__law_due : ∃ fd, Fun K "_law_due" "_law_due" st__law_due (ad 64) fd
  g__law_due : mg "_law_due" = some (.ref (ad 64))
  f__law_right : ∃ fd, Fun K "_law_right" "_law_right" st__law_right (ad 65) fd
  g__law_right : mg "_law_right" = some (.ref (ad 65))
  f__law_src : ∃ fd, Fun K "_law_src" "_law_src" st__law_src (ad 66) fd
  g__law_src : mg "_law_src" = some (.ref (ad 66))
  f__law_cell : ∃ fd, Fun K "_law_cell" "_law_cell" st__law_cell (ad 67) fd
  g__law_cell : mg "_law_cell" = some (.ref (ad 67))
  f_law : ∃ fd, Fun K "law" "law" st_law (ad 68) fd
  g_law : mg "law" = some (.ref (ad 68))
  u_LadderX_initX : Sup P K "__init__" "Ladder.__init__" st_LadderX_initX (ad 35) (ad 2035) (ad 3035) (ad 1005) (ad 1005) (ad 31)
  k_Row : mg "Row" = some (.ref (ad 1000))
  m_Row : Mk K (ad 1000) (ad 23)
  cl_Row : Cls K (ad 1000)
  na_Row_told : NoAttr K (ad 1000) "told"
  k_Pattern : mg "Pattern" = some (.ref (ad 1001))
  m_Pattern : Mk K (ad 1001) (ad 22)
  cl_Pattern : Cls K (ad 1001)
  na_Pattern_row : NoAttr K (ad 1001) "row"
  na_Pattern_chain : NoAttr K (ad 1001) "chain"
  na_Pattern_scale : NoAttr K (ad 1001) "scale"
  k_Exact : mg "Exact" = some (.ref (ad 1002))
  m_Exact : Mk K (ad 1002) (ad 51)
  cl_Exact : Cls K (ad 1002)
  na_Exact_triple : NoAttr K (ad 1002) "triple"
  k_Ladder : mg "Ladder" = some (.ref (ad 1005))
  m_Ladder : Mk K (ad 1005) (ad 35)
  cl_Ladder : Cls K (ad 1005)
  na_Ladder_first : NoAttr K (ad 1005) "first"
  na_Ladder_pattern : NoAttr K (ad 1005) "pattern"
  p_Ladder_Ladder_limit : ∃ q, PropOf K (ad 1005) "limit" q (ad 53)
  p_Exact_Exact_equation : ∃ q, PropOf K (ad 1002) "equation" q (ad 54)
  k_JUDGES : mg "JUDGES" = some (.ref (ad 5000))
  kd_JUDGES : ∀ b : Bool, KTabD K w (GG b K ad) (ad 5000) js_JUDGES
  fe_shows_most : ad 4041 = ad 41
  fe_shows_never : ad 4044 = ad 44
  fe_shows_more : ad 4046 = ad 46
  fe_shows_limit : ad 4055 = ad 55
  z_abs : mg "abs" = none
  z_all : mg "all" = none
  z_any : mg "any" = none
  z_bool : mg "bool" = none
  z_divmod : mg "divmod" = none
  z_enumerate : mg "enumerate" = none
  z_int : mg "int" = none
  z_isinstance : mg "isinstance" = none
  z_len : mg "len" = none
  z_list : mg "list" = none
  z_max : mg "max" = none
  z_min : mg "min" = none
  z_range : mg "range" = none
  z_repr : mg "repr" = none
  z_str : mg "str" = none
  z_super : mg "super" = none
  z_tuple : mg "tuple" = none
  c_MOST_JOINED : ∀ b : Bool, GlobD mg (GG b K ad) "MOST_JOINED" (.int 8)
  c_MOST_OHMS : ∀ b : Bool, GlobD mg (GG b K ad) "MOST_OHMS" (.int 12)
  c_WORDS : ∀ b : Bool, GlobD mg (GG b K ad) "WORDS" (.tup [(.str "rail"), (.str "rung")])
  c_MOST_PIECES : ∀ b : Bool, GlobD mg (GG b K ad) "MOST_PIECES" (.int 4)
  c_NOTHING : ∀ b : Bool, GlobD mg (GG b K ad) "NOTHING" (.tup [(.int 1), (.int 0), (.int 0), (.int 1)])
  c_OPEN : ∀ b : Bool, GlobD mg (GG b K ad) "OPEN" (.tup [(.int 1), (.int 0)])
  c_GREATEST : ∀ b : Bool, GlobD mg (GG b K ad) "GREATEST" (.int 1000000000000)
  c_MOST : ∀ b : Bool, GlobD mg (GG b K ad) "MOST" (.int 10000000000000000000000000000000000000000)
  isa : ∀ (b : Bool) (X : Cx), X.K = K → ClsT X (GG b K ad) (fun c => decide (c ∈ ([0, 1, 2, 5] : List Nat))) (fun a b => if a ∈ ([0, 1, 2, 5] : List Nat) ∧ b ∈ ([0, 1, 2] : List Nat) then some (decide ((a, b) ∈ ([(0, 0), (1, 1), (2, 2)] : List (Nat × Nat)))) else none)
variable {P : Program} {w : World} {K : PySem.W.Frag} {mg : Str → Option Value} {base : Heap} {ad : Nat → Addr} {b : Bool}
def Same (X : Cx) (P : Program) (w : World) (K : PySem.W.Frag) (mg : Str → Option Value) (base : Heap) : Prop := X.prog = P ∧ X.w = w ∧ X.K = K ∧ X.mg = mg ∧ X.base = base
theorem TK_JUDGES (T : Facts P w K mg base ad) {X : Cx} (h : Same X P w K mg base) : ∀ (n : Nat) (js : List (Str × Option D)), tab [(4000, js_JUDGES)] n = some js → KTabD X.K X.w (GG b K ad) ((GG b K ad).ca n) js := by
  obtain ⟨rfl, rfl, rfl, rfl, rfl⟩ := h
  exact tab_cons (T.kd_JUDGES b) tab_nil
theorem T_fld_row (T : Facts P w K mg base ad) {X : Cx} (h : Same X P w K mg base) : FldT X (GG b K ad) "row" (tab [(1, 0)]) := by
  obtain ⟨rfl, rfl, rfl, rfl, rfl⟩ := h
  exact ⟨(tab_cons ⟨T.cl_Pattern, T.na_Pattern_row, (show (flds 1).Nodup by decide +kernel), rfl, (show (flds 1).length < 1000 by decide +kernel)⟩ tab_nil)⟩
theorem T_fld_scale (T : Facts P w K mg base ad) {X : Cx} (h : Same X P w K mg base) : FldT X (GG b K ad) "scale" (tab [(1, 2)]) := by
  obtain ⟨rfl, rfl, rfl, rfl, rfl⟩ := h
  exact ⟨(tab_cons ⟨T.cl_Pattern, T.na_Pattern_scale, (show (flds 1).Nodup by decide +kernel), rfl, (show (flds 1).length < 1000 by decide +kernel)⟩ tab_nil)⟩
theorem T_fld_chain (T : Facts P w K mg base ad) {X : Cx} (h : Same X P w K mg base) : FldT X (GG b K ad) "chain" (tab [(1, 1)]) := by
  obtain ⟨rfl, rfl, rfl, rfl, rfl⟩ := h
  exact ⟨(tab_cons ⟨T.cl_Pattern, T.na_Pattern_chain, (show (flds 1).Nodup by decide +kernel), rfl, (show (flds 1).length < 1000 by decide +kernel)⟩ tab_nil)⟩
theorem T_fld_told (T : Facts P w K mg base ad) {X : Cx} (h : Same X P w K mg base) : FldT X (GG b K ad) "told" (tab [(0, 0)]) := by
  obtain ⟨rfl, rfl, rfl, rfl, rfl⟩ := h
  exact ⟨(tab_cons ⟨T.cl_Row, T.na_Row_told, (show (flds 0).Nodup by decide +kernel), rfl, (show (flds 0).length < 1000 by decide +kernel)⟩ tab_nil)⟩
theorem T_fld_first (T : Facts P w K mg base ad) {X : Cx} (h : Same X P w K mg base) : FldT X (GG b K ad) "first" (tab [(5, 0)]) := by
  obtain ⟨rfl, rfl, rfl, rfl, rfl⟩ := h
  exact ⟨(tab_cons ⟨T.cl_Ladder, T.na_Ladder_first, (show (flds 5).Nodup by decide +kernel), rfl, (show (flds 5).length < 1000 by decide +kernel)⟩ tab_nil)⟩
theorem T_fld_pattern (T : Facts P w K mg base ad) {X : Cx} (h : Same X P w K mg base) : FldT X (GG b K ad) "pattern" (tab [(5, 1)]) := by
  obtain ⟨rfl, rfl, rfl, rfl, rfl⟩ := h
  exact ⟨(tab_cons ⟨T.cl_Ladder, T.na_Ladder_pattern, (show (flds 5).Nodup by decide +kernel), rfl, (show (flds 5).length < 1000 by decide +kernel)⟩ tab_nil)⟩
theorem T_fld_triple (T : Facts P w K mg base ad) {X : Cx} (h : Same X P w K mg base) : FldT X (GG b K ad) "triple" (tab [(2, 0)]) := by
  obtain ⟨rfl, rfl, rfl, rfl, rfl⟩ := h
  exact ⟨(tab_cons ⟨T.cl_Exact, T.na_Exact_triple, (show (flds 2).Nodup by decide +kernel), rfl, (show (flds 2).length < 1000 by decide +kernel)⟩ tab_nil)⟩
theorem T_attr_told_0 (T : Facts P w K mg base ad) {X : Cx} (h : Same X P w K mg base) {k : Nat} (hk : 0 ≤ k) : AttrT X (GG b K ad) k "told" (tab [(0, .fld 0)]) := by
  obtain ⟨rfl, rfl, rfl, rfl, rfl⟩ := h
  exact AttrT.of (tab_cons ⟨T.cl_Row, T.na_Row_told, (show (flds 0).Nodup by decide +kernel), rfl⟩ tab_nil)
theorem T_attr_first_5 (T : Facts P w K mg base ad) {X : Cx} (h : Same X P w K mg base) {k : Nat} (hk : 0 ≤ k) : AttrT X (GG b K ad) k "first" (tab [(5, .fld 0)]) := by
  obtain ⟨rfl, rfl, rfl, rfl, rfl⟩ := h
  exact AttrT.of (tab_cons ⟨T.cl_Ladder, T.na_Ladder_first, (show (flds 5).Nodup by decide +kernel), rfl⟩ tab_nil)
theorem T_attr_chain_1 (T : Facts P w K mg base ad) {X : Cx} (h : Same X P w K mg base) {k : Nat} (hk : 0 ≤ k) : AttrT X (GG b K ad) k "chain" (tab [(1, .fld 1)]) := by
  obtain ⟨rfl, rfl, rfl, rfl, rfl⟩ := h
  exact AttrT.of (tab_cons ⟨T.cl_Pattern, T.na_Pattern_chain, (show (flds 1).Nodup by decide +kernel), rfl⟩ tab_nil)
theorem T_attr_pattern_5 (T : Facts P w K mg base ad) {X : Cx} (h : Same X P w K mg base) {k : Nat} (hk : 0 ≤ k) : AttrT X (GG b K ad) k "pattern" (tab [(5, .fld 1)]) := by
  obtain ⟨rfl, rfl, rfl, rfl, rfl⟩ := h
  exact AttrT.of (tab_cons ⟨T.cl_Ladder, T.na_Ladder_pattern, (show (flds 5).Nodup by decide +kernel), rfl⟩ tab_nil)
theorem T_attr_triple_2 (T : Facts P w K mg base ad) {X : Cx} (h : Same X P w K mg base) {k : Nat} (hk : 0 ≤ k) : AttrT X (GG b K ad) k "triple" (tab [(2, .fld 0)]) := by
  obtain ⟨rfl, rfl, rfl, rfl, rfl⟩ := h
  exact AttrT.of (tab_cons ⟨T.cl_Exact, T.na_Exact_triple, (show (flds 2).Nodup by decide +kernel), rfl⟩ tab_nil)
def pk__law_pick : Σ' ms : MS, ∀ (P : Program) (w : World) (K : PySem.W.Frag) (mg : Str → Option Value) (base : Heap) (ad : Nat → Addr) (b : Bool), Facts P w K mg base ad → Body P w K mg base (GG b K ad) 0 (ad 0) ["_law_tape", "_law_many", "_law_digit"] "_law_pick" st__law_pick ms :=
  ⟨_, fun P w K mg base ad b T cdv A fr s H E c => ss_cons (s_asg (v_bin (o_add c.cK) (v_ix c.cK (v_var (i := 0) rfl (by leaf_len) (by decide) (by decide)) v_int rfl) v_int) (g_item (W := WF E) (v_var (i := 0) rfl (by leaf_len) (by decide) (by decide)) v_int rfl) rfl rfl rfl) (ss_cons (s_asg (v_bin (o_mod) (v_callTy (c_int) (by rfl) T.z_int (by decide +kernel) (l_cons (v_bin (o_pow) (v_bin (o_add c.cK) (v_bin (o_add c.cK) (v_ix c.cK (v_var (i := 0) rfl (by leaf_len) (by decide) (by decide)) v_int rfl) (v_bin (o_mul c.cK) v_int (v_ix c.cK (v_var (i := 0) rfl (by leaf_len) (by decide) (by decide)) v_int rfl))) v_int) v_int) l_nil rfl) rfl (by decide) (by decide)) v_int) (g_item (W := WF E) (v_var (i := 0) rfl (by leaf_len) (by decide) (by decide)) v_int rfl) rfl rfl rfl) (ss_cons (s_if (b_cmp (o_gt) (v_ix c.cK (v_var (i := 0) rfl (by leaf_len) (by decide) (by decide)) v_int rfl) v_int rfl) (ss_cons (s_asg (v_callB (c_divmod) (by rfl) T.z_divmod (by decide +kernel) (l_cons (v_ix c.cK (v_var (i := 0) rfl (by leaf_len) (by decide) (by decide)) v_int rfl) (l_cons (v_var (i := 1) rfl (by leaf_len) (by decide) (by decide)) l_nil rfl) rfl) rfl (by decide) (by decide)) (g_tup c.cK c.calm (gs_cons (g_item (W := WF E) (v_var (i := 0) rfl (by leaf_len) (by decide) (by decide)) v_int rfl) (gs_cons (g_name (i := 2) c.nd rfl (by mem_news) (.inl rfl)) gs_nil rfl) rfl) rfl rfl) rfl rfl rfl) (ss_cons (s_ret (v_var (i := 2) rfl (by leaf_len) (by decide) (by decide))) ss_nil)) (ss_nil)) (ss_cons (s_ret (v_bin (o_mod) (v_callTy (c_int) (by rfl) T.z_int (by decide +kernel) (l_cons (v_bin (o_fdiv) (v_ix c.cK (v_var (i := 0) rfl (by leaf_len) (by decide) (by decide)) v_int rfl) v_int) l_nil rfl) rfl (by decide) (by decide)) (v_var (i := 1) rfl (by leaf_len) (by decide) (by decide)))) ss_nil)))⟩
def sem__law_pick : List D → M D := runFn 2 3 pk__law_pick.1
theorem ok__law_pick (T : Facts P w K mg base ad) : FnA P w K mg base (GG b K ad) 2 (ad 0) sem__law_pick := by
  obtain ⟨fd, F⟩ := T.f__law_pick
  exact fna_rule F sc__law_pick (F.binds fun _ _ _ _ _ _ us hl => match us, hl with | [_, _], _ => rfl) rfl (pk__law_pick.2 P w K mg base ad b T) rfl rfl (by decide)
def pk__law_even : Σ' ms : MS, ∀ (P : Program) (w : World) (K : PySem.W.Frag) (mg : Str → Option Value) (base : Heap) (ad : Nat → Addr) (b : Bool), Facts P w K mg base ad → Body P w K mg base (GG b K ad) 2 (ad 1) ["_law_tape", "_law_rail", "_law_rung", "_law_end"] "_law_even" st__law_even ms :=
  ⟨_, fun P w K mg base ad b T cdv A fr s H E c => ss_cons (s_asg (v_ix c.cK (v_lst (l_cons (v_tup (l_cons v_int (l_cons v_int (l_cons v_int l_nil rfl) rfl) rfl) (by decide)) (l_cons (v_tup (l_cons v_int (l_cons v_int (l_cons v_int l_nil rfl) rfl) rfl) (by decide)) (l_cons (v_tup (l_cons v_int (l_cons v_int (l_cons v_int l_nil rfl) rfl) rfl) (by decide)) (l_cons (v_tup (l_cons v_int (l_cons v_int (l_cons v_int l_nil rfl) rfl) rfl) (by decide)) (l_cons (v_tup (l_cons v_int (l_cons v_int (l_cons v_int l_nil rfl) rfl) rfl) (by decide)) (l_cons (v_tup (l_cons v_int (l_cons v_int (l_cons v_int l_nil rfl) rfl) rfl) (by decide)) (l_cons (v_tup (l_cons v_int (l_cons v_int (l_cons v_int l_nil rfl) rfl) rfl) (by decide)) (l_cons (v_tup (l_cons v_int (l_cons v_int (l_cons v_int l_nil rfl) rfl) rfl) (by decide)) (l_cons (v_tup (l_cons v_int (l_cons v_int (l_cons v_int l_nil rfl) rfl) rfl) (by decide)) (l_cons (v_tup (l_cons v_int (l_cons v_int (l_cons v_int l_nil rfl) rfl) rfl) (by decide)) (l_cons (v_tup (l_cons v_int (l_cons v_int (l_cons v_int l_nil rfl) rfl) rfl) (by decide)) (l_cons (v_tup (l_cons v_int (l_cons v_int (l_cons v_int l_nil rfl) rfl) rfl) (by decide)) l_nil rfl) rfl) rfl) rfl) rfl) rfl) rfl) rfl) rfl) rfl) rfl) rfl) (by decide)) (v_calls (FnA.call c ((ok__law_pick T).mono (by decide))) (by rfl) T.g__law_pick (l_cons (v_var (i := 0) rfl (by leaf_len) (by decide) (by decide)) (l_cons v_int l_nil rfl) rfl) rfl (by decide)) rfl) (g_tup c.cK c.calm (gs_cons (g_name (i := 1) c.nd rfl (by mem_news) (.inl rfl)) (gs_cons (g_name (i := 2) c.nd rfl (by mem_news) (.inl rfl)) (gs_cons (g_name (i := 3) c.nd rfl (by mem_news) (.inl rfl)) gs_nil rfl) rfl) rfl) rfl rfl) rfl rfl rfl) (ss_cons (s_if (b_cmp (o_eq c.cK c.rm) (v_calls (FnA.call c ((ok__law_pick T).mono (by decide))) (by rfl) T.g__law_pick (l_cons (v_var (i := 0) rfl (by leaf_len) (by decide) (by decide)) (l_cons v_int l_nil rfl) rfl) rfl (by decide)) v_int rfl) (ss_cons (s_ret (v_tup (l_cons (v_tup (l_cons (v_tup (l_cons v_str (l_cons (v_var (i := 1) rfl (by leaf_len) (by decide) (by decide)) l_nil rfl) rfl) (by decide)) (l_cons (v_tup (l_cons v_str (l_cons (v_var (i := 2) rfl (by leaf_len) (by decide) (by decide)) l_nil rfl) rfl) (by decide)) l_nil rfl) rfl) (by decide)) (l_cons (v_var (i := 3) rfl (by leaf_len) (by decide) (by decide)) l_nil rfl) rfl) (by decide))) ss_nil) (ss_nil)) (ss_cons (s_ret (v_tup (l_cons (v_tup (l_cons (v_tup (l_cons v_str (l_cons (v_var (i := 2) rfl (by leaf_len) (by decide) (by decide)) l_nil rfl) rfl) (by decide)) (l_cons (v_tup (l_cons v_str (l_cons (v_var (i := 1) rfl (by leaf_len) (by decide) (by decide)) l_nil rfl) rfl) (by decide)) l_nil rfl) rfl) (by decide)) (l_cons (v_bin (o_sub) (v_var (i := 3) rfl (by leaf_len) (by decide) (by decide)) (v_var (i := 1) rfl (by leaf_len) (by decide) (by decide))) l_nil rfl) rfl) (by decide))) ss_nil))⟩
def sem__law_even : List D → M D := runFn 1 4 pk__law_even.1
theorem ok__law_even (T : Facts P w K mg base ad) : FnA P w K mg base (GG b K ad) 4 (ad 1) sem__law_even := by
  obtain ⟨fd, F⟩ := T.f__law_even
  exact fna_rule F sc__law_even (F.binds fun _ _ _ _ _ _ us hl => match us, hl with | [_], _ => rfl) rfl (pk__law_even.2 P w K mg base ad b T) rfl rfl (by decide)
def pk__law_anyrow : Σ' ms : MS, ∀ (P : Program) (w : World) (K : PySem.W.Frag) (mg : Str → Option Value) (base : Heap) (ad : Nat → Addr) (b : Bool), Facts P w K mg base ad → Body P w K mg base (GG b K ad) 2 (ad 2) ["_law_tape", "_law_longest", "_law_many", "_law_turn"] "_law_anyrow" st__law_anyrow ms :=
  ⟨_, fun P w K mg base ad b T cdv A fr s H E c => ss_cons (s_set (i := 2) c rfl (by mem_news) (v_bin (o_add c.cK) v_int (v_calls (FnA.call c ((ok__law_pick T).mono (by decide))) (by rfl) T.g__law_pick (l_cons (v_var (i := 0) rfl (by leaf_len) (by decide) (by decide)) (l_cons (v_var (i := 1) rfl (by leaf_len) (by decide) (by decide)) l_nil rfl) rfl) rfl (by decide))) rfl (.inl rfl)) (ss_cons (s_ret (v_callTy (c_tuple c.cK) (by rfl) T.z_tuple (by decide +kernel) (l_cons (v_lc c (own := [("_law_turn", 3)]) (i_rng1 (by rfl) T.z_range (l_cons (v_var (i := 2) rfl (by leaf_len) (by decide) (by decide)) l_nil rfl) rfl) (blkOk_by (N := ["_law_tape", "_law_longest", "_law_many", "_law_turn"]) (sc := defScope st__law_anyrow) (by decide +kernel)) (fun s H C cl fp => blkP c fun c => (p_name (i := 3) c.nd rfl (by mem_news) (.inr rfl))) (fun s H C cl fp => blkT c fun c => t_nil) (fun s H C cl fp => blkV c fun c => (v_tup (l_cons (v_ix c.cK (v_lst (l_cons v_str (l_cons v_str l_nil rfl) rfl) (by decide)) (v_calls (FnA.call c ((ok__law_pick T).mono (by decide))) (by rfl) T.g__law_pick (l_cons (v_var (i := 0) rfl (by leaf_len) (by decide) (by decide)) (l_cons v_int l_nil rfl) rfl) rfl (by decide)) rfl) (l_cons (v_bin (o_add c.cK) v_int (v_calls (FnA.call c ((ok__law_pick T).mono (by decide))) (by rfl) T.g__law_pick (l_cons (v_var (i := 0) rfl (by leaf_len) (by decide) (by decide)) (l_cons v_int l_nil rfl) rfl) rfl (by decide))) l_nil rfl) rfl) (by decide))) rfl (by decide)) l_nil rfl) rfl (by decide) (by decide))) ss_nil)⟩
def sem__law_anyrow : List D → M D := runFn 2 4 pk__law_anyrow.1
theorem ok__law_anyrow (T : Facts P w K mg base ad) : FnA P w K mg base (GG b K ad) 4 (ad 2) sem__law_anyrow := by
  obtain ⟨fd, F⟩ := T.f__law_anyrow
  exact fna_rule F sc__law_anyrow (F.binds fun _ _ _ _ _ _ us hl => match us, hl with | [_, _], _ => rfl) rfl (pk__law_anyrow.2 P w K mg base ad b T) rfl rfl (by decide)
def pk__law_some_row : Σ' ms : MS, ∀ (P : Program) (w : World) (K : PySem.W.Frag) (mg : Str → Option Value) (base : Heap) (ad : Nat → Addr) (b : Bool), Facts P w K mg base ad → Body P w K mg base (GG b K ad) 4 (ad 3) ["_law_tape", "_law_longest"] "_law_some_row" st__law_some_row ms :=
  ⟨_, fun P w K mg base ad b T cdv A fr s H E c => ss_cons (s_if (b_cmp (o_eq c.cK c.rm) (v_calls (FnA.call c ((ok__law_pick T).mono (by decide))) (by rfl) T.g__law_pick (l_cons (v_var (i := 0) rfl (by leaf_len) (by decide) (by decide)) (l_cons v_int l_nil rfl) rfl) rfl (by decide)) v_int rfl) (ss_cons (s_ret (v_calls (FnA.call c ((ok__law_even T).mono (by decide))) (by rfl) T.g__law_even (l_cons (v_var (i := 0) rfl (by leaf_len) (by decide) (by decide)) l_nil rfl) rfl (by decide))) ss_nil) (ss_nil)) (ss_cons (s_ret (v_tup (l_cons (v_calls (FnA.call c ((ok__law_anyrow T).mono (by decide))) (by rfl) T.g__law_anyrow (l_cons (v_var (i := 0) rfl (by leaf_len) (by decide) (by decide)) (l_cons (v_var (i := 1) rfl (by leaf_len) (by decide) (by decide)) l_nil rfl) rfl) rfl (by decide)) (l_cons v_none l_nil rfl) rfl) (by decide))) ss_nil)⟩
def sem__law_some_row : List D → M D := runFn 2 2 pk__law_some_row.1
theorem ok__law_some_row (T : Facts P w K mg base ad) : FnA P w K mg base (GG b K ad) 6 (ad 3) sem__law_some_row := by
  obtain ⟨fd, F⟩ := T.f__law_some_row
  exact fna_rule F sc__law_some_row (F.binds fun _ _ _ _ _ _ us hl => match us, hl with | [_, _], _ => rfl) rfl (pk__law_some_row.2 P w K mg base ad b T) rfl rfl (by decide)
def pk__law_anyload : Σ' ms : MS, ∀ (P : Program) (w : World) (K : PySem.W.Frag) (mg : Str → Option Value) (base : Heap) (ad : Nat → Addr) (b : Bool), Facts P w K mg base ad → Body P w K mg base (GG b K ad) 2 (ad 4) ["_law_tape", "_law_way", "_law_by"] "_law_anyload" st__law_anyload ms :=
  ⟨_, fun P w K mg base ad b T cdv A fr s H E c => ss_cons (s_set (i := 1) c rfl (by mem_news) (v_calls (FnA.call c ((ok__law_pick T).mono (by decide))) (by rfl) T.g__law_pick (l_cons (v_var (i := 0) rfl (by leaf_len) (by decide) (by decide)) (l_cons v_int l_nil rfl) rfl) rfl (by decide)) rfl (.inl rfl)) (ss_cons (s_if (b_cmp (o_lt) (v_var (i := 1) rfl (by leaf_len) (by decide) (by decide)) v_int rfl) (ss_cons (s_ret (v_ix c.cK (v_lst (l_cons v_int (l_cons (v_tup (l_cons v_int (l_cons v_int l_nil rfl) rfl) (by decide)) l_nil rfl) rfl) (by decide)) (v_var (i := 1) rfl (by leaf_len) (by decide) (by decide)) rfl)) ss_nil) (ss_nil)) (ss_cons (s_if (b_cmp (o_eq c.cK c.rm) (v_var (i := 1) rfl (by leaf_len) (by decide) (by decide)) v_int rfl) (ss_cons (s_ret (v_ix c.cK (v_lst (l_cons (v_tup (l_cons v_int (l_cons v_int l_nil rfl) rfl) (by decide)) (l_cons (v_bin (o_pow) v_int v_int) (l_cons (v_tup (l_cons v_int (l_cons (v_bin (o_pow) v_int v_int) l_nil rfl) rfl) (by decide)) (l_cons (v_tup (l_cons (v_bin (o_pow) v_int v_int) (l_cons (v_bin (o_sub) (v_bin (o_pow) v_int v_int) v_int) l_nil rfl) rfl) (by decide)) l_nil rfl) rfl) rfl) rfl) (by decide)) (v_calls (FnA.call c ((ok__law_pick T).mono (by decide))) (by rfl) T.g__law_pick (l_cons (v_var (i := 0) rfl (by leaf_len) (by decide) (by decide)) (l_cons v_int l_nil rfl) rfl) rfl (by decide)) rfl)) ss_nil) (ss_nil)) (ss_cons (s_if (b_cmp (o_lt) (v_var (i := 1) rfl (by leaf_len) (by decide) (by decide)) v_int rfl) (ss_cons (s_ret (v_calls (FnA.call c ((ok__law_pick T).mono (by decide))) (by rfl) T.g__law_pick (l_cons (v_var (i := 0) rfl (by leaf_len) (by decide) (by decide)) (l_cons v_int l_nil rfl) rfl) rfl (by decide))) ss_nil) (ss_nil)) (ss_cons (s_if (b_cmp (o_eq c.cK c.rm) (v_var (i := 1) rfl (by leaf_len) (by decide) (by decide)) v_int rfl) (ss_cons (s_ret (v_tup (l_cons (v_calls (FnA.call c ((ok__law_pick T).mono (by decide))) (by rfl) T.g__law_pick (l_cons (v_var (i := 0) rfl (by leaf_len) (by decide) (by decide)) (l_cons (v_bin (o_add c.cK) (v_bin (o_pow) v_int v_int) v_int) l_nil rfl) rfl) rfl (by decide)) (l_cons (v_bin (o_add c.cK) v_int (v_calls (FnA.call c ((ok__law_pick T).mono (by decide))) (by rfl) T.g__law_pick (l_cons (v_var (i := 0) rfl (by leaf_len) (by decide) (by decide)) (l_cons (v_bin (o_pow) v_int v_int) l_nil rfl) rfl) rfl (by decide))) l_nil rfl) rfl) (by decide))) ss_nil) (ss_nil)) (ss_cons (s_set (i := 2) c rfl (by mem_news) (v_bin (o_add c.cK) v_int (v_calls (FnA.call c ((ok__law_pick T).mono (by decide))) (by rfl) T.g__law_pick (l_cons (v_var (i := 0) rfl (by leaf_len) (by decide) (by decide)) (l_cons v_int l_nil rfl) rfl) rfl (by decide))) rfl (.inl rfl)) (ss_cons (s_ret (v_tup (l_cons (v_bin (o_mul c.cK) (v_var (i := 2) rfl (by leaf_len) (by decide) (by decide)) (v_calls (FnA.call c ((ok__law_pick T).mono (by decide))) (by rfl) T.g__law_pick (l_cons (v_var (i := 0) rfl (by leaf_len) (by decide) (by decide)) (l_cons v_int l_nil rfl) rfl) rfl (by decide))) (l_cons (v_bin (o_mul c.cK) (v_var (i := 2) rfl (by leaf_len) (by decide) (by decide)) (v_bin (o_add c.cK) v_int (v_calls (FnA.call c ((ok__law_pick T).mono (by decide))) (by rfl) T.g__law_pick (l_cons (v_var (i := 0) rfl (by leaf_len) (by decide) (by decide)) (l_cons v_int l_nil rfl) rfl) rfl (by decide)))) l_nil rfl) rfl) (by decide))) ss_nil))))))⟩
def sem__law_anyload : List D → M D := runFn 1 3 pk__law_anyload.1
theorem ok__law_anyload (T : Facts P w K mg base ad) : FnA P w K mg base (GG b K ad) 4 (ad 4) sem__law_anyload := by
  obtain ⟨fd, F⟩ := T.f__law_anyload
  exact fna_rule F sc__law_anyload (F.binds fun _ _ _ _ _ _ us hl => match us, hl with | [_], _ => rfl) rfl (pk__law_anyload.2 P w K mg base ad b T) rfl rfl (by decide)
def pk__law_near : Σ' ms : MS, ∀ (P : Program) (w : World) (K : PySem.W.Frag) (mg : Str → Option Value) (base : Heap) (ad : Nat → Addr) (b : Bool), Facts P w K mg base ad → Body P w K mg base (GG b K ad) 4 (ad 5) ["_law_tape", "_law_row", "_law_way", "_law_place", "_law_size", "_law_more", "_law_word"] "_law_near" st__law_near ms :=
  ⟨_, fun P w K mg base ad b T cdv A fr s H E c => ss_cons (s_par (i := 2) (j := 3) c rfl rfl (by decide) rfl rfl (l_cons (v_calls (FnA.call c ((ok__law_pick T).mono (by decide))) (by rfl) T.g__law_pick (l_cons (v_var (i := 0) rfl (by leaf_len) (by decide) (by decide)) (l_cons v_int l_nil rfl) rfl) rfl (by decide)) (l_cons (v_calls (FnA.call c ((ok__law_pick T).mono (by decide))) (by rfl) T.g__law_pick (l_cons (v_var (i := 0) rfl (by leaf_len) (by decide) (by decide)) (l_cons (v_callB (c_len c.cK) (by rfl) T.z_len (by decide +kernel) (l_cons (v_var (i := 1) rfl (by leaf_len) (by decide) (by decide)) l_nil rfl) rfl (by decide) (by decide)) l_nil rfl) rfl) rfl (by decide)) l_nil rfl) rfl) rfl) (ss_cons (s_par (i := 4) (j := 5) c rfl rfl (by decide) rfl rfl (l_cons (v_bin (o_add c.cK) v_int (v_calls (FnA.call c ((ok__law_pick T).mono (by decide))) (by rfl) T.g__law_pick (l_cons (v_var (i := 0) rfl (by leaf_len) (by decide) (by decide)) (l_cons v_int l_nil rfl) rfl) rfl (by decide))) (l_cons (v_calls (FnA.call c ((ok__law_anyrow T).mono (by decide))) (by rfl) T.g__law_anyrow (l_cons (v_var (i := 0) rfl (by leaf_len) (by decide) (by decide)) (l_cons v_int l_nil rfl) rfl) rfl (by decide)) l_nil rfl) rfl) rfl) (ss_cons (s_if (b_cmp (o_eq c.cK c.rm) (v_var (i := 2) rfl (by leaf_len) (by decide) (by decide)) v_int rfl) (ss_cons (s_ret (v_stepT c.cK (v_var (i := 1) rfl (by leaf_len) (by decide) (by decide)) po_neg1 (by decide) (by decide))) ss_nil) (ss_nil)) (ss_cons (s_if (b_cmp (o_eq c.cK c.rm) (v_var (i := 2) rfl (by leaf_len) (by decide) (by decide)) v_int rfl) (ss_cons (s_ret (v_bin (o_add c.cK) (v_bin (o_add c.cK) (v_slice c.cK (v_var (i := 1) rfl (by leaf_len) (by decide) (by decide)) q_none (q_some (v_var (i := 3) rfl (by leaf_len) (by decide) (by decide)))) (v_tup (l_cons (v_tup (l_cons (v_ix c.cK (v_ix c.cK (v_var (i := 1) rfl (by leaf_len) (by decide) (by decide)) (v_var (i := 3) rfl (by leaf_len) (by decide) (by decide)) rfl) v_int rfl) (l_cons (v_var (i := 4) rfl (by leaf_len) (by decide) (by decide)) l_nil rfl) rfl) (by decide)) l_nil rfl) (by decide))) (v_slice c.cK (v_var (i := 1) rfl (by leaf_len) (by decide) (by decide)) (q_some (v_bin (o_add c.cK) (v_var (i := 3) rfl (by leaf_len) (by decide) (by decide)) v_int)) q_none))) ss_nil) (ss_nil)) (ss_cons (s_if (b_cmp (o_lt) (v_var (i := 2) rfl (by leaf_len) (by decide) (by decide)) v_int rfl) (ss_cons (s_ret (v_ite (b_cmp (o_eq c.cK c.rm) (v_var (i := 2) rfl (by leaf_len) (by decide) (by decide)) v_int rfl) (v_bin (o_add c.cK) (v_var (i := 5) rfl (by leaf_len) (by decide) (by decide)) (v_var (i := 1) rfl (by leaf_len) (by decide) (by decide))) (v_bin (o_add c.cK) (v_var (i := 1) rfl (by leaf_len) (by decide) (by decide)) (v_var (i := 5) rfl (by leaf_len) (by decide) (by decide))))) ss_nil) (ss_nil)) (ss_cons (s_if (b_cmp (o_eq c.cK c.rm) (v_var (i := 2) rfl (by leaf_len) (by decide) (by decide)) v_int rfl) (ss_cons (s_ret (v_calls (FnA.call c ((ok__law_anyrow T).mono (by decide))) (by rfl) T.g__law_anyrow (l_cons (v_var (i := 0) rfl (by leaf_len) (by decide) (by decide)) (l_cons v_int l_nil rfl) rfl) rfl (by decide))) ss_nil) (ss_nil)) (ss_cons (s_asg (v_ix c.cK (v_var (i := 1) rfl (by leaf_len) (by decide) (by decide)) (v_var (i := 3) rfl (by leaf_len) (by decide) (by decide)) rfl) (g_tup c.cK c.calm (gs_cons (g_name (i := 6) c.nd rfl (by mem_news) (.inl rfl)) (gs_cons (g_name (i := 4) c.nd rfl (by mem_news) (.inl rfl)) gs_nil rfl) rfl) rfl rfl) rfl rfl rfl) (ss_cons (s_if (b_of (w_and (b_cmp (o_eq c.cK c.rm) (v_var (i := 6) rfl (by leaf_len) (by decide) (by decide)) v_str rfl) (w_and1 (b_cmp (o_gt) (v_var (i := 4) rfl (by leaf_len) (by decide) (by decide)) v_int rfl)))) (ss_cons (s_ret (v_bin (o_add c.cK) (v_bin (o_add c.cK) (v_slice c.cK (v_var (i := 1) rfl (by leaf_len) (by decide) (by decide)) q_none (q_some (v_var (i := 3) rfl (by leaf_len) (by decide) (by decide)))) (v_tup (l_cons (v_tup (l_cons v_str (l_cons v_int l_nil rfl) rfl) (by decide)) (l_cons (v_tup (l_cons v_str (l_cons (v_bin (o_sub) (v_var (i := 4) rfl (by leaf_len) (by decide) (by decide)) v_int) l_nil rfl) rfl) (by decide)) l_nil rfl) rfl) (by decide))) (v_slice c.cK (v_var (i := 1) rfl (by leaf_len) (by decide) (by decide)) (q_some (v_bin (o_add c.cK) (v_var (i := 3) rfl (by leaf_len) (by decide) (by decide)) v_int)) q_none))) ss_nil) (ss_nil)) (ss_cons (s_ret (v_var (i := 1) rfl (by leaf_len) (by decide) (by decide))) ss_nil))))))))⟩
def sem__law_near : List D → M D := runFn 2 7 pk__law_near.1
theorem ok__law_near (T : Facts P w K mg base ad) : FnA P w K mg base (GG b K ad) 6 (ad 5) sem__law_near := by
  obtain ⟨fd, F⟩ := T.f__law_near
  exact fna_rule F sc__law_near (F.binds fun _ _ _ _ _ _ us hl => match us, hl with | [_, _], _ => rfl) rfl (pk__law_near.2 P w K mg base ad b T) rfl rfl (by decide)
def pk__law_crossing : Σ' ms : MS, ∀ (P : Program) (w : World) (K : PySem.W.Frag) (mg : Str → Option Value) (base : Heap) (ad : Nat → Addr) (b : Bool), Facts P w K mg base ad → Body P w K mg base (GG b K ad) 2 (ad 6) ["_law_tape", "_law_size", "_law_row"] "_law_crossing" st__law_crossing ms :=
  ⟨_, fun P w K mg base ad b T cdv A fr s H E c => ss_cons (s_set (i := 1) c rfl (by mem_news) (v_bin (o_add c.cK) v_int (v_calls (FnA.call c ((ok__law_pick T).mono (by decide))) (by rfl) T.g__law_pick (l_cons (v_var (i := 0) rfl (by leaf_len) (by decide) (by decide)) (l_cons v_int l_nil rfl) rfl) rfl (by decide))) rfl (.inl rfl)) (ss_cons (s_set (i := 2) c rfl (by mem_news) (v_tup (l_cons (v_tup (l_cons v_str (l_cons (v_bin (o_add c.cK) (v_bin (o_add c.cK) (v_var (i := 1) rfl (by leaf_len) (by decide) (by decide)) v_int) (v_calls (FnA.call c ((ok__law_pick T).mono (by decide))) (by rfl) T.g__law_pick (l_cons (v_var (i := 0) rfl (by leaf_len) (by decide) (by decide)) (l_cons v_int l_nil rfl) rfl) rfl (by decide))) l_nil rfl) rfl) (by decide)) (l_cons (v_tup (l_cons v_str (l_cons (v_bin (o_add c.cK) v_int (v_calls (FnA.call c ((ok__law_pick T).mono (by decide))) (by rfl) T.g__law_pick (l_cons (v_var (i := 0) rfl (by leaf_len) (by decide) (by decide)) (l_cons v_int l_nil rfl) rfl) rfl (by decide))) l_nil rfl) rfl) (by decide)) l_nil rfl) rfl) (by decide)) rfl (.inl rfl)) (ss_cons (s_ret (v_tup (l_cons (v_var (i := 2) rfl (by leaf_len) (by decide) (by decide)) (l_cons (v_tup (l_cons (v_tup (l_cons v_str (l_cons (v_var (i := 1) rfl (by leaf_len) (by decide) (by decide)) l_nil rfl) rfl) (by decide)) (l_cons (v_tup (l_cons v_str (l_cons v_int l_nil rfl) rfl) (by decide)) (l_cons (v_tup (l_cons v_str (l_cons v_int l_nil rfl) rfl) (by decide)) l_nil rfl) rfl) rfl) (by decide)) l_nil rfl) rfl) (by decide))) ss_nil))⟩
def sem__law_crossing : List D → M D := runFn 1 3 pk__law_crossing.1
theorem ok__law_crossing (T : Facts P w K mg base ad) : FnA P w K mg base (GG b K ad) 4 (ad 6) sem__law_crossing := by
  obtain ⟨fd, F⟩ := T.f__law_crossing
  exact fna_rule F sc__law_crossing (F.binds fun _ _ _ _ _ _ us hl => match us, hl with | [_], _ => rfl) rfl (pk__law_crossing.2 P w K mg base ad b T) rfl rfl (by decide)
def pk__law_led : Σ' ms : MS, ∀ (P : Program) (w : World) (K : PySem.W.Frag) (mg : Str → Option Value) (base : Heap) (ad : Nat → Addr) (b : Bool), Facts P w K mg base ad → Body P w K mg base (GG b K ad) 0 (ad 7) ["_law_row", "_law_pair", "_law_top", "_law_bottom", "_law_word", "_law_size"] "_law_led" st__law_led ms :=
  ⟨_, fun P w K mg base ad b T cdv A fr s H E c => ss_cons (s_asg (v_var (i := 1) rfl (by leaf_len) (by decide) (by decide)) (g_tup c.cK c.calm (gs_cons (g_name (i := 2) c.nd rfl (by mem_news) (.inl rfl)) (gs_cons (g_name (i := 3) c.nd rfl (by mem_news) (.inl rfl)) gs_nil rfl) rfl) rfl rfl) rfl rfl rfl) (ss_cons (s_for c (i_seq c (v_revX c.cK (v_var (i := 0) rfl (by leaf_len) (by decide) (by decide)))) (g_tup c.cK c.calm (gs_cons (g_name (i := 4) c.nd rfl (by mem_news) (.inl rfl)) (gs_cons (g_name (i := 5) c.nd rfl (by mem_news) (.inl rfl)) gs_nil rfl) rfl) rfl rfl) (ss_cons (s_if (b_cmp (o_eq c.cK c.rm) (v_var (i := 4) rfl (by leaf_len) (by decide) (by decide)) v_str rfl) (ss_cons (s_set (i := 2) c rfl (by mem_news) (v_bin (o_add c.cK) (v_var (i := 2) rfl (by leaf_len) (by decide) (by decide)) (v_bin (o_mul c.cK) (v_var (i := 5) rfl (by leaf_len) (by decide) (by decide)) (v_var (i := 3) rfl (by leaf_len) (by decide) (by decide)))) rfl (.inl rfl)) (ss_nil)) (ss_cons (s_par (i := 2) (j := 3) c rfl rfl (by decide) rfl rfl (l_cons (v_bin (o_mul c.cK) (v_var (i := 5) rfl (by leaf_len) (by decide) (by decide)) (v_var (i := 2) rfl (by leaf_len) (by decide) (by decide))) (l_cons (v_bin (o_add c.cK) (v_bin (o_mul c.cK) (v_var (i := 5) rfl (by leaf_len) (by decide) (by decide)) (v_var (i := 3) rfl (by leaf_len) (by decide) (by decide))) (v_var (i := 2) rfl (by leaf_len) (by decide) (by decide))) l_nil rfl) rfl) rfl) (ss_nil))) (ss_nil)) rfl) (ss_cons (s_ret (v_tup (l_cons (v_var (i := 2) rfl (by leaf_len) (by decide) (by decide)) (l_cons (v_var (i := 3) rfl (by leaf_len) (by decide) (by decide)) l_nil rfl) rfl) (by decide))) ss_nil))⟩
def sem__law_led : List D → M D := runFn 2 6 pk__law_led.1
theorem ok__law_led (T : Facts P w K mg base ad) : FnA P w K mg base (GG b K ad) 2 (ad 7) sem__law_led := by
  obtain ⟨fd, F⟩ := T.f__law_led
  exact fna_rule F sc__law_led (F.binds fun _ _ _ _ _ _ us hl => match us, hl with | [_, _], _ => rfl) rfl (pk__law_led.2 P w K mg base ad b T) rfl rfl (by decide)
def pk__law_isqrt : Σ' ms : MS, ∀ (P : Program) (w : World) (K : PySem.W.Frag) (mg : Str → Option Value) (base : Heap) (ad : Nat → Addr) (b : Bool), Facts P w K mg base ad → Body P w K mg base (GG b K ad) 0 (ad 8) ["_law_number", "_law_root", "_law_part"] "_law_isqrt" st__law_isqrt ms :=
  ⟨_, fun P w K mg base ad b T cdv A fr s H E c => ss_cons (s_asg (v_tup (l_cons v_int (l_cons v_int l_nil rfl) rfl) (by decide)) (g_tup c.cK c.calm (gs_cons (g_name (i := 1) c.nd rfl (by mem_news) (.inl rfl)) (gs_cons (g_name (i := 2) c.nd rfl (by mem_news) (.inl rfl)) gs_nil rfl) rfl) rfl rfl) rfl rfl rfl) (ss_cons (s_while c (b_cmp (o_le) (v_bin (o_mul c.cK) (v_var (i := 2) rfl (by leaf_len) (by decide) (by decide)) (v_var (i := 2) rfl (by leaf_len) (by decide) (by decide))) (v_var (i := 0) rfl (by leaf_len) (by decide) (by decide)) rfl) (ss_cons (s_set (i := 2) c rfl (by mem_news) (v_bin (o_mul c.cK) v_int (v_var (i := 2) rfl (by leaf_len) (by decide) (by decide))) rfl (.inl rfl)) (ss_nil))) (ss_cons (s_while c (b_cmp (o_gt) (v_var (i := 2) rfl (by leaf_len) (by decide) (by decide)) v_int rfl) (ss_cons (s_if (b_cmp (o_le) (v_bin (o_mul c.cK) (v_bin (o_add c.cK) (v_var (i := 1) rfl (by leaf_len) (by decide) (by decide)) (v_var (i := 2) rfl (by leaf_len) (by decide) (by decide))) (v_bin (o_add c.cK) (v_var (i := 1) rfl (by leaf_len) (by decide) (by decide)) (v_var (i := 2) rfl (by leaf_len) (by decide) (by decide)))) (v_var (i := 0) rfl (by leaf_len) (by decide) (by decide)) rfl) (ss_cons (s_set (i := 1) c rfl (by mem_news) (v_bin (o_add c.cK) (v_var (i := 1) rfl (by leaf_len) (by decide) (by decide)) (v_var (i := 2) rfl (by leaf_len) (by decide) (by decide))) rfl (.inl rfl)) (ss_nil)) (ss_nil)) (ss_cons (s_set (i := 2) c rfl (by mem_news) (v_bin (o_fdiv) (v_var (i := 2) rfl (by leaf_len) (by decide) (by decide)) v_int) rfl (.inl rfl)) (ss_nil)))) (ss_cons (s_ret (v_var (i := 1) rfl (by leaf_len) (by decide) (by decide))) ss_nil)))⟩
def sem__law_isqrt : List D → M D := runFn 1 3 pk__law_isqrt.1
theorem ok__law_isqrt (T : Facts P w K mg base ad) : FnA P w K mg base (GG b K ad) 2 (ad 8) sem__law_isqrt := by
  obtain ⟨fd, F⟩ := T.f__law_isqrt
  exact fna_rule F sc__law_isqrt (F.binds fun _ _ _ _ _ _ us hl => match us, hl with | [_], _ => rfl) rfl (pk__law_isqrt.2 P w K mg base ad b T) rfl rfl (by decide)
def pk__law_lowest : Σ' ms : MS, ∀ (P : Program) (w : World) (K : PySem.W.Frag) (mg : Str → Option Value) (base : Heap) (ad : Nat → Addr) (b : Bool), Facts P w K mg base ad → Body P w K mg base (GG b K ad) 0 (ad 9) ["_law_top", "_law_bottom", "_law_one", "_law_two"] "_law_lowest" st__law_lowest ms :=
  ⟨_, fun P w K mg base ad b T cdv A fr s H E c => ss_cons (s_par (i := 2) (j := 3) c rfl rfl (by decide) rfl rfl (l_cons (v_var (i := 0) rfl (by leaf_len) (by decide) (by decide)) (l_cons (v_var (i := 1) rfl (by leaf_len) (by decide) (by decide)) l_nil rfl) rfl) rfl) (ss_cons (s_while c (b_cmp (o_gt) (v_var (i := 3) rfl (by leaf_len) (by decide) (by decide)) v_int rfl) (ss_cons (s_par (i := 2) (j := 3) c rfl rfl (by decide) rfl rfl (l_cons (v_var (i := 3) rfl (by leaf_len) (by decide) (by decide)) (l_cons (v_bin (o_mod) (v_callTy (c_int) (by rfl) T.z_int (by decide +kernel) (l_cons (v_var (i := 2) rfl (by leaf_len) (by decide) (by decide)) l_nil rfl) rfl (by decide) (by decide)) (v_callTy (c_int) (by rfl) T.z_int (by decide +kernel) (l_cons (v_var (i := 3) rfl (by leaf_len) (by decide) (by decide)) l_nil rfl) rfl (by decide) (by decide))) l_nil rfl) rfl) rfl) (ss_nil))) (ss_cons (s_ret (v_tup (l_cons (v_bin (o_fdiv) (v_var (i := 0) rfl (by leaf_len) (by decide) (by decide)) (v_var (i := 2) rfl (by leaf_len) (by decide) (by decide))) (l_cons (v_bin (o_fdiv) (v_var (i := 1) rfl (by leaf_len) (by decide) (by decide)) (v_var (i := 2) rfl (by leaf_len) (by decide) (by decide))) l_nil rfl) rfl) (by decide))) ss_nil))⟩
def sem__law_lowest : List D → M D := runFn 2 4 pk__law_lowest.1
theorem ok__law_lowest (T : Facts P w K mg base ad) : FnA P w K mg base (GG b K ad) 2 (ad 9) sem__law_lowest := by
  obtain ⟨fd, F⟩ := T.f__law_lowest
  exact fna_rule F sc__law_lowest (F.binds fun _ _ _ _ _ _ us hl => match us, hl with | [_, _], _ => rfl) rfl (pk__law_lowest.2 P w K mg base ad b T) rfl rfl (by decide)
def pk__law_limit : Σ' ms : MS, ∀ (P : Program) (w : World) (K : PySem.W.Frag) (mg : Str → Option Value) (base : Heap) (ad : Nat → Addr) (b : Bool), Facts P w K mg base ad → Body P w K mg base (GG b K ad) 2 (ad 10) ["_law_row", "_law_a", "_law_c", "_law_b", "_law_d", "_law_inner", "_law_root", "_law_top", "_law_bottom", "_law_by"] "_law_limit" st__law_limit ms :=
  ⟨_, fun P w K mg base ad b T cdv A fr s H E c => ss_cons (s_asg (v_calls (FnA.call c ((ok__law_led T).mono (by decide))) (by rfl) T.g__law_led (l_cons (v_var (i := 0) rfl (by leaf_len) (by decide) (by decide)) (l_cons (v_tup (l_cons v_int (l_cons v_int l_nil rfl) rfl) (by decide)) l_nil rfl) rfl) rfl (by decide)) (g_tup c.cK c.calm (gs_cons (g_name (i := 1) c.nd rfl (by mem_news) (.inl rfl)) (gs_cons (g_name (i := 2) c.nd rfl (by mem_news) (.inl rfl)) gs_nil rfl) rfl) rfl rfl) rfl rfl rfl) (ss_cons (s_asg (v_calls (FnA.call c ((ok__law_led T).mono (by decide))) (by rfl) T.g__law_led (l_cons (v_var (i := 0) rfl (by leaf_len) (by decide) (by decide)) (l_cons (v_tup (l_cons v_int (l_cons v_int l_nil rfl) rfl) (by decide)) l_nil rfl) rfl) rfl (by decide)) (g_tup c.cK c.calm (gs_cons (g_name (i := 3) c.nd rfl (by mem_news) (.inl rfl)) (gs_cons (g_name (i := 4) c.nd rfl (by mem_news) (.inl rfl)) gs_nil rfl) rfl) rfl rfl) rfl rfl rfl) (ss_cons (s_if (b_cmp (o_eq c.cK c.rm) (v_var (i := 2) rfl (by leaf_len) (by decide) (by decide)) v_int rfl) (ss_cons (s_ret (v_tup (l_cons v_int (l_cons v_int l_nil rfl) rfl) (by decide))) ss_nil) (ss_nil)) (ss_cons (s_if (b_cmp (o_eq c.cK c.rm) (v_var (i := 3) rfl (by leaf_len) (by decide) (by decide)) v_int rfl) (ss_cons (s_ret (v_tup (l_cons v_int (l_cons v_int (l_cons v_int l_nil rfl) rfl) rfl) (by decide))) ss_nil) (ss_nil)) (ss_cons (s_set (i := 5) c rfl (by mem_news) (v_bin (o_add c.cK) (v_bin (o_mul c.cK) (v_bin (o_sub) (v_var (i := 4) rfl (by leaf_len) (by decide) (by decide)) (v_var (i := 1) rfl (by leaf_len) (by decide) (by decide))) (v_bin (o_sub) (v_var (i := 4) rfl (by leaf_len) (by decide) (by decide)) (v_var (i := 1) rfl (by leaf_len) (by decide) (by decide)))) (v_bin (o_mul c.cK) (v_bin (o_mul c.cK) v_int (v_var (i := 3) rfl (by leaf_len) (by decide) (by decide))) (v_var (i := 2) rfl (by leaf_len) (by decide) (by decide)))) rfl (.inl rfl)) (ss_cons (s_set (i := 6) c rfl (by mem_news) (v_calls (FnA.call c ((ok__law_isqrt T).mono (by decide))) (by rfl) T.g__law_isqrt (l_cons (v_var (i := 5) rfl (by leaf_len) (by decide) (by decide)) l_nil rfl) rfl (by decide)) rfl (.inl rfl)) (ss_cons (s_if (b_cmp (o_eq c.cK c.rm) (v_bin (o_mul c.cK) (v_var (i := 6) rfl (by leaf_len) (by decide) (by decide)) (v_var (i := 6) rfl (by leaf_len) (by decide) (by decide))) (v_var (i := 5) rfl (by leaf_len) (by decide) (by decide)) rfl) (ss_cons (s_asg (v_calls (FnA.call c ((ok__law_lowest T).mono (by decide))) (by rfl) T.g__law_lowest (l_cons (v_bin (o_sub) (v_bin (o_add c.cK) (v_var (i := 6) rfl (by leaf_len) (by decide) (by decide)) (v_var (i := 1) rfl (by leaf_len) (by decide) (by decide))) (v_var (i := 4) rfl (by leaf_len) (by decide) (by decide))) (l_cons (v_bin (o_mul c.cK) v_int (v_var (i := 2) rfl (by leaf_len) (by decide) (by decide))) l_nil rfl) rfl) rfl (by decide)) (g_tup c.cK c.calm (gs_cons (g_name (i := 7) c.nd rfl (by mem_news) (.inl rfl)) (gs_cons (g_name (i := 8) c.nd rfl (by mem_news) (.inl rfl)) gs_nil rfl) rfl) rfl rfl) rfl rfl rfl) (ss_cons (s_ret (v_tup (l_cons v_int (l_cons (v_var (i := 8) rfl (by leaf_len) (by decide) (by decide)) (l_cons (v_var (i := 7) rfl (by leaf_len) (by decide) (by decide)) l_nil rfl) rfl) rfl) (by decide))) ss_nil)) (ss_nil)) (ss_cons (s_set (i := 9) c rfl (by mem_news) (v_bin (o_fdiv) (v_var (i := 2) rfl (by leaf_len) (by decide) (by decide)) (v_ix c.cK (v_calls (FnA.call c ((ok__law_lowest T).mono (by decide))) (by rfl) T.g__law_lowest (l_cons (v_var (i := 2) rfl (by leaf_len) (by decide) (by decide)) (l_cons (v_callB (c_abs) (by rfl) T.z_abs (by decide +kernel) (l_cons (v_bin (o_sub) (v_var (i := 4) rfl (by leaf_len) (by decide) (by decide)) (v_var (i := 1) rfl (by leaf_len) (by decide) (by decide))) l_nil rfl) rfl (by decide) (by decide)) l_nil rfl) rfl) rfl (by decide)) v_int rfl)) rfl (.inl rfl)) (ss_cons (s_set (i := 9) c rfl (by mem_news) (v_bin (o_fdiv) (v_var (i := 9) rfl (by leaf_len) (by decide) (by decide)) (v_ix c.cK (v_calls (FnA.call c ((ok__law_lowest T).mono (by decide))) (by rfl) T.g__law_lowest (l_cons (v_var (i := 9) rfl (by leaf_len) (by decide) (by decide)) (l_cons (v_var (i := 3) rfl (by leaf_len) (by decide) (by decide)) l_nil rfl) rfl) rfl (by decide)) v_int rfl)) rfl (.inl rfl)) (ss_cons (s_ret (v_tup (l_cons (v_bin (o_fdiv) (v_var (i := 2) rfl (by leaf_len) (by decide) (by decide)) (v_var (i := 9) rfl (by leaf_len) (by decide) (by decide))) (l_cons (v_bin (o_fdiv) (v_bin (o_sub) (v_var (i := 4) rfl (by leaf_len) (by decide) (by decide)) (v_var (i := 1) rfl (by leaf_len) (by decide) (by decide))) (v_var (i := 9) rfl (by leaf_len) (by decide) (by decide))) (l_cons (v_bin (o_fdiv) (v_var (i := 3) rfl (by leaf_len) (by decide) (by decide)) (v_var (i := 9) rfl (by leaf_len) (by decide) (by decide))) l_nil rfl) rfl) rfl) (by decide))) ss_nil)))))))))⟩
def sem__law_limit : List D → M D := runFn 1 10 pk__law_limit.1
theorem ok__law_limit (T : Facts P w K mg base ad) : FnA P w K mg base (GG b K ad) 4 (ad 10) sem__law_limit := by
  obtain ⟨fd, F⟩ := T.f__law_limit
  exact fna_rule F sc__law_limit (F.binds fun _ _ _ _ _ _ us hl => match us, hl with | [_], _ => rfl) rfl (pk__law_limit.2 P w K mg base ad b T) rfl rfl (by decide)
def pk__law_told_limit : Σ' ms : MS, ∀ (P : Program) (w : World) (K : PySem.W.Frag) (mg : Str → Option Value) (base : Heap) (ad : Nat → Addr) (b : Bool), Facts P w K mg base ad → Body P w K mg base (GG b K ad) 4 (ad 11) ["_law_tape", "_law_row", "_law_mate", "_law_due_here", "_law_way", "_law_by", "_law_place", "_law_part"] "_law_told_limit" st__law_told_limit ms :=
  ⟨_, fun P w K mg base ad b T cdv A fr s H E c => ss_cons (s_par (i := 3) (j := 4) c rfl rfl (by decide) rfl rfl (l_cons (v_calls (FnA.call c ((ok__law_limit T).mono (by decide))) (by rfl) T.g__law_limit (l_cons (v_var (i := 1) rfl (by leaf_len) (by decide) (by decide)) l_nil rfl) rfl (by decide)) (l_cons (v_calls (FnA.call c ((ok__law_pick T).mono (by decide))) (by rfl) T.g__law_pick (l_cons (v_var (i := 0) rfl (by leaf_len) (by decide) (by decide)) (l_cons v_int l_nil rfl) rfl) rfl (by decide)) l_nil rfl) rfl) rfl) (ss_cons (s_if (b_cmp (o_lt) (v_var (i := 4) rfl (by leaf_len) (by decide) (by decide)) v_int rfl) (ss_cons (s_ret (v_var (i := 3) rfl (by leaf_len) (by decide) (by decide))) ss_nil) (ss_nil)) (ss_cons (s_if (b_cmp (o_eq c.cK c.rm) (v_var (i := 4) rfl (by leaf_len) (by decide) (by decide)) v_int rfl) (ss_cons (s_ret (v_calls (FnA.call c ((ok__law_limit T).mono (by decide))) (by rfl) T.g__law_limit (l_cons (v_var (i := 2) rfl (by leaf_len) (by decide) (by decide)) l_nil rfl) rfl (by decide))) ss_nil) (ss_nil)) (ss_cons (s_asg (v_tup (l_cons (v_bin (o_add c.cK) v_int (v_calls (FnA.call c ((ok__law_pick T).mono (by decide))) (by rfl) T.g__law_pick (l_cons (v_var (i := 0) rfl (by leaf_len) (by decide) (by decide)) (l_cons v_int l_nil rfl) rfl) rfl (by decide))) (l_cons (v_calls (FnA.call c ((ok__law_pick T).mono (by decide))) (by rfl) T.g__law_pick (l_cons (v_var (i := 0) rfl (by leaf_len) (by decide) (by decide)) (l_cons (v_callB (c_len c.cK) (by rfl) T.z_len (by decide +kernel) (l_cons (v_var (i := 3) rfl (by leaf_len) (by decide) (by decide)) l_nil rfl) rfl (by decide) (by decide)) l_nil rfl) rfl) rfl (by decide)) l_nil rfl) rfl) (by decide)) (g_tup c.cK c.calm (gs_cons (g_name (i := 5) c.nd rfl (by mem_news) (.inl rfl)) (gs_cons (g_name (i := 6) c.nd rfl (by mem_news) (.inl rfl)) gs_nil rfl) rfl) rfl rfl) rfl rfl rfl) (ss_cons (s_if (b_cmp (o_eq c.cK c.rm) (v_var (i := 4) rfl (by leaf_len) (by decide) (by decide)) v_int rfl) (ss_cons (s_ret (v_callTy (c_tuple c.cK) (by rfl) T.z_tuple (by decide +kernel) (l_cons (v_lc c (own := [("_law_part", 7)]) (i_seq c (v_var (i := 3) rfl (by leaf_len) (by decide) (by decide))) (blkOk_by (N := ["_law_tape", "_law_row", "_law_mate", "_law_due_here", "_law_way", "_law_by", "_law_place", "_law_part"]) (sc := defScope st__law_told_limit) (by decide +kernel)) (fun s H C cl fp => blkP c fun c => (p_name (i := 7) c.nd rfl (by mem_news) (.inr rfl))) (fun s H C cl fp => blkT c fun c => t_nil) (fun s H C cl fp => blkV c fun c => (v_bin (o_mul c.cK) (v_var (i := 5) rfl (by leaf_len) (by decide) (by decide)) (v_var (i := 7) rfl (by leaf_len) (by decide) (by decide)))) rfl (by decide)) l_nil rfl) rfl (by decide) (by decide))) ss_nil) (ss_nil)) (ss_cons (s_ret (v_bin (o_add c.cK) (v_bin (o_add c.cK) (v_slice c.cK (v_var (i := 3) rfl (by leaf_len) (by decide) (by decide)) q_none (q_some (v_var (i := 6) rfl (by leaf_len) (by decide) (by decide)))) (v_tup (l_cons (v_bin (o_add c.cK) (v_ix c.cK (v_var (i := 3) rfl (by leaf_len) (by decide) (by decide)) (v_var (i := 6) rfl (by leaf_len) (by decide) (by decide)) rfl) v_int) l_nil rfl) (by decide))) (v_slice c.cK (v_var (i := 3) rfl (by leaf_len) (by decide) (by decide)) (q_some (v_bin (o_add c.cK) (v_var (i := 6) rfl (by leaf_len) (by decide) (by decide)) v_int)) q_none))) ss_nil)))))⟩
def sem__law_told_limit : List D → M D := runFn 3 8 pk__law_told_limit.1
theorem ok__law_told_limit (T : Facts P w K mg base ad) : FnA P w K mg base (GG b K ad) 6 (ad 11) sem__law_told_limit := by
  obtain ⟨fd, F⟩ := T.f__law_told_limit
  exact fna_rule F sc__law_told_limit (F.binds fun _ _ _ _ _ _ us hl => match us, hl with | [_, _, _], _ => rfl) rfl (pk__law_told_limit.2 P w K mg base ad b T) rfl rfl (by decide)
def pk__law_after : Σ' ms : MS, ∀ (P : Program) (w : World) (K : PySem.W.Frag) (mg : Str → Option Value) (base : Heap) (ad : Nat → Addr) (b : Bool), Facts P w K mg base ad → Body P w K mg base (GG b K ad) 2 (ad 12) ["_law_row", "_law_pair", "_law_many", "_law_found", "_law_turn"] "_law_after" st__law_after ms :=
  ⟨_, fun P w K mg base ad b T cdv A fr s H E c => ss_cons (s_set (i := 3) c rfl (by mem_news) (v_var (i := 1) rfl (by leaf_len) (by decide) (by decide)) rfl (.inl rfl)) (ss_cons (s_for c (i_rng1 (by rfl) T.z_range (l_cons (v_var (i := 2) rfl (by leaf_len) (by decide) (by decide)) l_nil rfl) rfl) (g_name (i := 4) c.nd rfl (by mem_news) (.inl rfl)) (ss_cons (s_set (i := 3) c rfl (by mem_news) (v_calls (FnA.call c ((ok__law_led T).mono (by decide))) (by rfl) T.g__law_led (l_cons (v_var (i := 0) rfl (by leaf_len) (by decide) (by decide)) (l_cons (v_var (i := 3) rfl (by leaf_len) (by decide) (by decide)) l_nil rfl) rfl) rfl (by decide)) rfl (.inl rfl)) (ss_nil)) rfl) (ss_cons (s_ret (v_calls (FnA.call c ((ok__law_lowest T).mono (by decide))) (by rfl) T.g__law_lowest (l_cons (v_ix c.cK (v_var (i := 3) rfl (by leaf_len) (by decide) (by decide)) v_int rfl) (l_cons (v_ix c.cK (v_var (i := 3) rfl (by leaf_len) (by decide) (by decide)) v_int rfl) l_nil rfl) rfl) rfl (by decide))) ss_nil))⟩
def sem__law_after : List D → M D := runFn 3 5 pk__law_after.1
theorem ok__law_after (T : Facts P w K mg base ad) : FnA P w K mg base (GG b K ad) 4 (ad 12) sem__law_after := by
  obtain ⟨fd, F⟩ := T.f__law_after
  exact fna_rule F sc__law_after (F.binds fun _ _ _ _ _ _ us hl => match us, hl with | [_, _, _], _ => rfl) rfl (pk__law_after.2 P w K mg base ad b T) rfl rfl (by decide)
def pk__law_case : Σ' ms : MS, ∀ (P : Program) (w : World) (K : PySem.W.Frag) (mg : Str → Option Value) (base : Heap) (ad : Nat → Addr) (b : Bool), Facts P w K mg base ad → Body P w K mg base (GG b K ad) 6 (ad 13) ["_law_tape", "_law_row", "_law_end", "_law_mate", "_law_way", "_law_start", "_law_few", "_law_more", "_law_between"] "_law_case" st__law_case ms :=
  ⟨_, fun P w K mg base ad b T cdv A fr s H E c => ss_cons (s_asg (v_calls (FnA.call c ((ok__law_some_row T).mono (by decide))) (by rfl) T.g__law_some_row (l_cons (v_var (i := 0) rfl (by leaf_len) (by decide) (by decide)) (l_cons v_int l_nil rfl) rfl) rfl (by decide)) (g_tup c.cK c.calm (gs_cons (g_name (i := 1) c.nd rfl (by mem_news) (.inl rfl)) (gs_cons (g_name (i := 2) c.nd rfl (by mem_news) (.inl rfl)) gs_nil rfl) rfl) rfl rfl) rfl rfl rfl) (ss_cons (s_par3 (i := 3) (j := 4) (l := 5) c rfl rfl rfl (by decide) (by decide) (by decide) rfl rfl rfl (l_cons (v_calls (FnA.call c ((ok__law_near T).mono (by decide))) (by rfl) T.g__law_near (l_cons (v_var (i := 0) rfl (by leaf_len) (by decide) (by decide)) (l_cons (v_var (i := 1) rfl (by leaf_len) (by decide) (by decide)) l_nil rfl) rfl) rfl (by decide)) (l_cons (v_calls (FnA.call c ((ok__law_pick T).mono (by decide))) (by rfl) T.g__law_pick (l_cons (v_var (i := 0) rfl (by leaf_len) (by decide) (by decide)) (l_cons v_int l_nil rfl) rfl) rfl (by decide)) (l_cons (v_calls (FnA.call c ((ok__law_anyload T).mono (by decide))) (by rfl) T.g__law_anyload (l_cons (v_var (i := 0) rfl (by leaf_len) (by decide) (by decide)) l_nil rfl) rfl (by decide)) l_nil rfl) rfl) rfl) rfl) (ss_cons (s_if (b_cmp (o_eq c.cK c.rm) (v_calls (FnA.call c ((ok__law_pick T).mono (by decide))) (by rfl) T.g__law_pick (l_cons (v_var (i := 0) rfl (by leaf_len) (by decide) (by decide)) (l_cons v_int l_nil rfl) rfl) rfl (by decide)) v_int rfl) (ss_cons (s_asg (v_calls (FnA.call c ((ok__law_crossing T).mono (by decide))) (by rfl) T.g__law_crossing (l_cons (v_var (i := 0) rfl (by leaf_len) (by decide) (by decide)) l_nil rfl) rfl (by decide)) (g_tup c.cK c.calm (gs_cons (g_name (i := 1) c.nd rfl (by mem_news) (.inl rfl)) (gs_cons (g_name (i := 3) c.nd rfl (by mem_news) (.inl rfl)) gs_nil rfl) rfl) rfl rfl) rfl rfl rfl) (ss_nil)) (ss_cons (s_if (b_cmp (o_eq c.cK c.rm) (v_calls (FnA.call c ((ok__law_pick T).mono (by decide))) (by rfl) T.g__law_pick (l_cons (v_var (i := 0) rfl (by leaf_len) (by decide) (by decide)) (l_cons v_int l_nil rfl) rfl) rfl (by decide)) v_int rfl) (ss_cons (s_par (i := 1) (j := 3) c rfl rfl (by decide) rfl rfl (l_cons (v_var (i := 3) rfl (by leaf_len) (by decide) (by decide)) (l_cons (v_var (i := 1) rfl (by leaf_len) (by decide) (by decide)) l_nil rfl) rfl) rfl) (ss_nil)) (ss_nil)) (ss_nil))) (ss_cons (s_if (b_cmp (o_eq c.cK c.rm) (v_var (i := 4) rfl (by leaf_len) (by decide) (by decide)) v_int rfl) (ss_cons (s_ret (v_tup (l_cons v_str (l_cons (v_var (i := 1) rfl (by leaf_len) (by decide) (by decide)) (l_cons (v_var (i := 3) rfl (by leaf_len) (by decide) (by decide)) l_nil rfl) rfl) rfl) (by decide))) ss_nil) (ss_nil)) (ss_cons (s_if (b_cmp (o_eq c.cK c.rm) (v_var (i := 4) rfl (by leaf_len) (by decide) (by decide)) v_int rfl) (ss_cons (s_ret (v_tup (l_cons v_str (l_cons (v_var (i := 1) rfl (by leaf_len) (by decide) (by decide)) (l_cons (v_var (i := 5) rfl (by leaf_len) (by decide) (by decide)) (l_cons (v_calls (FnA.call c ((ok__law_told_limit T).mono (by decide))) (by rfl) T.g__law_told_limit (l_cons (v_var (i := 0) rfl (by leaf_len) (by decide) (by decide)) (l_cons (v_var (i := 1) rfl (by leaf_len) (by decide) (by decide)) (l_cons (v_var (i := 3) rfl (by leaf_len) (by decide) (by decide)) l_nil rfl) rfl) rfl) rfl (by decide)) l_nil rfl) rfl) rfl) rfl) (by decide))) ss_nil) (ss_nil)) (ss_cons (s_par (i := 6) (j := 7) c rfl rfl (by decide) rfl rfl (l_cons (v_calls (FnA.call c ((ok__law_after T).mono (by decide))) (by rfl) T.g__law_after (l_cons (v_var (i := 1) rfl (by leaf_len) (by decide) (by decide)) (l_cons (v_tup (l_cons v_int (l_cons v_int l_nil rfl) rfl) (by decide)) (l_cons v_int l_nil rfl) rfl) rfl) rfl (by decide)) (l_cons (v_calls (FnA.call c ((ok__law_after T).mono (by decide))) (by rfl) T.g__law_after (l_cons (v_var (i := 3) rfl (by leaf_len) (by decide) (by decide)) (l_cons (v_tup (l_cons v_int (l_cons v_int l_nil rfl) rfl) (by decide)) (l_cons v_int l_nil rfl) rfl) rfl) rfl (by decide)) l_nil rfl) rfl) rfl) (ss_cons (s_set (i := 8) c rfl (by mem_news) (v_calls (FnA.call c ((ok__law_lowest T).mono (by decide))) (by rfl) T.g__law_lowest (l_cons (v_bin (o_add c.cK) (v_ix c.cK (v_var (i := 6) rfl (by leaf_len) (by decide) (by decide)) v_int rfl) (v_ix c.cK (v_var (i := 7) rfl (by leaf_len) (by decide) (by decide)) v_int rfl)) (l_cons (v_bin (o_add c.cK) (v_ix c.cK (v_var (i := 6) rfl (by leaf_len) (by decide) (by decide)) v_int rfl) (v_ix c.cK (v_var (i := 7) rfl (by leaf_len) (by decide) (by decide)) v_int rfl)) l_nil rfl) rfl) rfl (by decide)) rfl (.inl rfl)) (ss_cons (s_ret (v_tup (l_cons v_str (l_cons (v_var (i := 1) rfl (by leaf_len) (by decide) (by decide)) (l_cons (v_var (i := 3) rfl (by leaf_len) (by decide) (by decide)) (l_cons (v_ix c.cK (v_lst (l_cons (v_var (i := 5) rfl (by leaf_len) (by decide) (by decide)) (l_cons v_int (l_cons (v_tup (l_cons v_int (l_cons v_int l_nil rfl) rfl) (by decide)) (l_cons (v_var (i := 8) rfl (by leaf_len) (by decide) (by decide)) (l_cons (v_tup (l_cons (v_bin (o_add c.cK) (v_bin (o_pow) v_int v_int) v_int) (l_cons v_int l_nil rfl) rfl) (by decide)) (l_cons (v_tup (l_cons v_int (l_cons (v_bin (o_pow) v_int v_int) l_nil rfl) rfl) (by decide)) l_nil rfl) rfl) rfl) rfl) rfl) rfl) (by decide)) (v_calls (FnA.call c ((ok__law_pick T).mono (by decide))) (by rfl) T.g__law_pick (l_cons (v_var (i := 0) rfl (by leaf_len) (by decide) (by decide)) (l_cons v_int l_nil rfl) rfl) rfl (by decide)) rfl) l_nil rfl) rfl) rfl) rfl) (by decide))) ss_nil)))))))⟩
def sem__law_case : List D → M D := runFn 1 9 pk__law_case.1
theorem ok__law_case (T : Facts P w K mg base ad) : FnA P w K mg base (GG b K ad) 8 (ad 13) sem__law_case := by
  obtain ⟨fd, F⟩ := T.f__law_case
  exact fna_rule F sc__law_case (F.binds fun _ _ _ _ _ _ us hl => match us, hl with | [_], _ => rfl) rfl (pk__law_case.2 P w K mg base ad b T) rfl rfl (by decide)
def pk__law_anyodd : Σ' ms : MS, ∀ (P : Program) (w : World) (K : PySem.W.Frag) (mg : Str → Option Value) (base : Heap) (ad : Nat → Addr) (b : Bool), Facts P w K mg base ad → Body P w K mg base (GG b K ad) 2 (ad 14) ["_law_tape", "_law_odd"] "_law_anyodd" st__law_anyodd ms :=
  ⟨_, fun P w K mg base ad b T cdv A fr s H E c => ss_cons (s_set (i := 1) c rfl (by mem_news) (v_lst (l_cons v_none (l_cons v_bool (l_cons v_bool (l_cons v_str (l_cons v_str (l_cons (v_neg v_int) (l_cons v_int (l_cons v_int (l_cons (v_bin (o_pow) v_int v_int) (l_cons (v_tup l_nil (by decide)) (l_cons (v_tup (l_cons v_int l_nil rfl) (by decide)) (l_cons (v_tup (l_cons v_int (l_cons v_int (l_cons v_int l_nil rfl) rfl) rfl) (by decide)) (l_cons (v_tup (l_cons v_int (l_cons v_int l_nil rfl) rfl) (by decide)) (l_cons (v_tup (l_cons v_int (l_cons v_int l_nil rfl) rfl) (by decide)) (l_cons (v_tup (l_cons (v_neg v_int) (l_cons v_int l_nil rfl) rfl) (by decide)) (l_cons (v_tup (l_cons v_int (l_cons (v_neg v_int) l_nil rfl) rfl) (by decide)) l_nil rfl) rfl) rfl) rfl) rfl) rfl) rfl) rfl) rfl) rfl) rfl) rfl) rfl) rfl) rfl) rfl) (by decide)) rfl (.inl rfl)) (ss_cons (s_set (i := 1) c rfl (by mem_news) (v_bin (o_add c.cK) (v_var (i := 1) rfl (by leaf_len) (by decide) (by decide)) (v_lst (l_cons (v_tup (l_cons v_bool (l_cons v_int l_nil rfl) rfl) (by decide)) (l_cons (v_tup (l_cons v_int (l_cons v_bool l_nil rfl) rfl) (by decide)) (l_cons (v_tup (l_cons v_str (l_cons v_int l_nil rfl) rfl) (by decide)) (l_cons (v_tup (l_cons (v_tup (l_cons v_str (l_cons v_int l_nil rfl) rfl) (by decide)) l_nil rfl) (by decide)) (l_cons (v_tup (l_cons (v_tup (l_cons v_str (l_cons v_int l_nil rfl) rfl) (by decide)) l_nil rfl) (by decide)) (l_cons (v_tup (l_cons (v_tup (l_cons v_str (l_cons v_bool l_nil rfl) rfl) (by decide)) l_nil rfl) (by decide)) (l_cons (v_lst l_nil (by decide)) (l_cons v_dict0 l_nil rfl) rfl) rfl) rfl) rfl) rfl) rfl) rfl) (by decide))) rfl (.inl rfl)) (ss_cons (s_set (i := 1) c rfl (by mem_news) (v_bin (o_add c.cK) (v_var (i := 1) rfl (by leaf_len) (by decide) (by decide)) (v_lst (l_cons (v_lst (l_cons (v_tup (l_cons v_str (l_cons v_int l_nil rfl) rfl) (by decide)) l_nil rfl) (by decide)) (l_cons (v_tup (l_cons (v_tup (l_cons v_str l_nil rfl) (by decide)) l_nil rfl) (by decide)) (l_cons (v_tup (l_cons (v_tup (l_cons v_str (l_cons v_int l_nil rfl) rfl) (by decide)) l_nil rfl) (by decide)) (l_cons (v_tup (l_cons (v_lst (l_cons v_str (l_cons v_int l_nil rfl) rfl) (by decide)) l_nil rfl) (by decide)) (l_cons (v_tup (l_cons (v_tup (l_cons (v_tup (l_cons v_str (l_cons v_int l_nil rfl) rfl) (by decide)) l_nil rfl) (by decide)) l_nil rfl) (by decide)) (l_cons (v_bin (o_mul c.cK) (v_tup (l_cons (v_tup (l_cons v_str (l_cons v_int l_nil rfl) rfl) (by decide)) l_nil rfl) (by decide)) v_int) l_nil rfl) rfl) rfl) rfl) rfl) rfl) (by decide))) rfl (.inl rfl)) (ss_cons (s_set (i := 1) c rfl (by mem_news) (v_bin (o_add c.cK) (v_var (i := 1) rfl (by leaf_len) (by decide) (by decide)) (v_lst (l_cons (v_tup (l_cons (v_bin (o_add c.cK) (v_bin (o_pow) v_int v_int) v_int) (l_cons v_int l_nil rfl) rfl) (by decide)) (l_cons (v_tup (l_cons v_int (l_cons (v_bin (o_add c.cK) (v_bin (o_pow) v_int v_int) v_int) l_nil rfl) rfl) (by decide)) (l_cons (v_bin (o_add c.cK) (v_bin (o_pow) v_int v_int) v_int) (l_cons (v_tup (l_cons (v_lst l_nil (by decide)) l_nil rfl) (by decide)) (l_cons (v_tup (l_cons (v_tup l_nil (by decide)) (l_cons (v_tup l_nil (by decide)) l_nil rfl) rfl) (by decide)) (l_cons v_str (l_cons v_str (l_cons v_str l_nil rfl) rfl) rfl) rfl) rfl) rfl) rfl) rfl) (by decide))) rfl (.inl rfl)) (ss_cons (s_set (i := 1) c rfl (by mem_news) (v_bin (o_add c.cK) (v_var (i := 1) rfl (by leaf_len) (by decide) (by decide)) (v_lst (l_cons v_int (l_cons v_int (l_cons v_int (l_cons v_int (l_cons (v_tup (l_cons v_int (l_cons v_int l_nil rfl) rfl) (by decide)) (l_cons (v_tup (l_cons v_int (l_cons v_int l_nil rfl) rfl) (by decide)) (l_cons (v_bin (o_pow) v_int v_int) (l_cons (v_tup (l_cons (v_tup (l_cons v_str (l_cons v_int l_nil rfl) rfl) (by decide)) l_nil rfl) (by decide)) (l_cons (v_bin (o_mul c.cK) (v_tup (l_cons (v_tup (l_cons v_str (l_cons v_int l_nil rfl) rfl) (by decide)) l_nil rfl) (by decide)) v_int) l_nil rfl) rfl) rfl) rfl) rfl) rfl) rfl) rfl) rfl) (by decide))) rfl (.inl rfl)) (ss_cons (s_set (i := 1) c rfl (by mem_news) (v_bin (o_add c.cK) (v_var (i := 1) rfl (by leaf_len) (by decide) (by decide)) (v_lst (l_cons (v_tup (l_cons (v_tup (l_cons v_str (l_cons v_int l_nil rfl) rfl) (by decide)) (l_cons (v_tup (l_cons v_str (l_cons v_int l_nil rfl) rfl) (by decide)) l_nil rfl) rfl) (by decide)) l_nil rfl) (by decide))) rfl (.inl rfl)) (ss_cons (s_ret (v_ix c.cK (v_var (i := 1) rfl (by leaf_len) (by decide) (by decide)) (v_calls (FnA.call c ((ok__law_pick T).mono (by decide))) (by rfl) T.g__law_pick (l_cons (v_var (i := 0) rfl (by leaf_len) (by decide) (by decide)) (l_cons v_int l_nil rfl) rfl) rfl (by decide)) rfl)) ss_nil))))))⟩
def sem__law_anyodd : List D → M D := runFn 1 2 pk__law_anyodd.1
theorem ok__law_anyodd (T : Facts P w K mg base ad) : FnA P w K mg base (GG b K ad) 4 (ad 14) sem__law_anyodd := by
  obtain ⟨fd, F⟩ := T.f__law_anyodd
  exact fna_rule F sc__law_anyodd (F.binds fun _ _ _ _ _ _ us hl => match us, hl with | [_], _ => rfl) rfl (pk__law_anyodd.2 P w K mg base ad b T) rfl rfl (by decide)
def pk__law_bent : Σ' ms : MS, ∀ (P : Program) (w : World) (K : PySem.W.Frag) (mg : Str → Option Value) (base : Heap) (ad : Nat → Addr) (b : Bool), Facts P w K mg base ad → Body P w K mg base (GG b K ad) 4 (ad 15) ["_law_tape", "_law_said", "_law_way", "_law_place", "_law_odd", "_law_thing", "_law_is_inner"] "_law_bent" st__law_bent ms :=
  ⟨_, fun P w K mg base ad b T cdv A fr s H E c => ss_cons (s_par3 (i := 2) (j := 3) (l := 4) c rfl rfl rfl (by decide) (by decide) (by decide) rfl rfl rfl (l_cons (v_calls (FnA.call c ((ok__law_pick T).mono (by decide))) (by rfl) T.g__law_pick (l_cons (v_var (i := 0) rfl (by leaf_len) (by decide) (by decide)) (l_cons v_int l_nil rfl) rfl) rfl (by decide)) (l_cons (v_calls (FnA.call c ((ok__law_pick T).mono (by decide))) (by rfl) T.g__law_pick (l_cons (v_var (i := 0) rfl (by leaf_len) (by decide) (by decide)) (l_cons (v_callB (c_len c.cK) (by rfl) T.z_len (by decide +kernel) (l_cons (v_var (i := 1) rfl (by leaf_len) (by decide) (by decide)) l_nil rfl) rfl (by decide) (by decide)) l_nil rfl) rfl) rfl (by decide)) (l_cons (v_calls (FnA.call c ((ok__law_anyodd T).mono (by decide))) (by rfl) T.g__law_anyodd (l_cons (v_var (i := 0) rfl (by leaf_len) (by decide) (by decide)) l_nil rfl) rfl (by decide)) l_nil rfl) rfl) rfl) rfl) (ss_cons (s_if (b_cmp (o_lt) (v_var (i := 2) rfl (by leaf_len) (by decide) (by decide)) v_int rfl) (ss_cons (s_ret (v_bin (o_add c.cK) (v_bin (o_add c.cK) (v_slice c.cK (v_var (i := 1) rfl (by leaf_len) (by decide) (by decide)) q_none (q_some (v_var (i := 3) rfl (by leaf_len) (by decide) (by decide)))) (v_tup (l_cons (v_var (i := 4) rfl (by leaf_len) (by decide) (by decide)) l_nil rfl) (by decide))) (v_slice c.cK (v_var (i := 1) rfl (by leaf_len) (by decide) (by decide)) (q_some (v_bin (o_add c.cK) (v_var (i := 3) rfl (by leaf_len) (by decide) (by decide)) v_int)) q_none))) ss_nil) (ss_nil)) (ss_cons (s_if (b_cmp (o_eq c.cK c.rm) (v_var (i := 2) rfl (by leaf_len) (by decide) (by decide)) v_int rfl) (ss_cons (s_ret (v_slice c.cK (v_var (i := 1) rfl (by leaf_len) (by decide) (by decide)) q_none (q_some (v_neg v_int)))) ss_nil) (ss_nil)) (ss_cons (s_if (b_cmp (o_eq c.cK c.rm) (v_var (i := 2) rfl (by leaf_len) (by decide) (by decide)) v_int rfl) (ss_cons (s_ret (v_bin (o_add c.cK) (v_var (i := 1) rfl (by leaf_len) (by decide) (by decide)) (v_tup (l_cons (v_var (i := 4) rfl (by leaf_len) (by decide) (by decide)) l_nil rfl) (by decide)))) ss_nil) (ss_nil)) (ss_cons (s_set (i := 5) c rfl (by mem_news) (v_ix c.cK (v_var (i := 1) rfl (by leaf_len) (by decide) (by decide)) (v_var (i := 3) rfl (by leaf_len) (by decide) (by decide)) rfl) rfl (.inl rfl)) (ss_cons (s_if (b_of (w_and (b_cmp (o_gt) (v_var (i := 2) rfl (by leaf_len) (by decide) (by decide)) v_int rfl) (w_and1 (b_val (v_callB (c_isa c.cK (T.isa _ _ rfl)) (by rfl) T.z_isinstance (by decide +kernel) (l_cons (v_var (i := 5) rfl (by leaf_len) (by decide) (by decide)) (l_cons (v_ty (t := .tuple) (by rfl) T.z_tuple (by decide +kernel) (by decide) (by decide)) l_nil rfl) rfl) rfl (by decide) (by decide)) (fun _ => rfl))))) (ss_cons (s_set (i := 6) c rfl (by mem_news) (v_and (v_cmp (o_eq c.cK c.rm) (v_var (i := 2) rfl (by leaf_len) (by decide) (by decide)) v_int rfl) (v_one (v_callB (c_isa c.cK (T.isa _ _ rfl)) (by rfl) T.z_isinstance (by decide +kernel) (l_cons (v_ix c.cK (v_bin (o_add c.cK) (v_var (i := 5) rfl (by leaf_len) (by decide) (by decide)) (v_tup (l_cons v_int l_nil rfl) (by decide))) v_int rfl) (l_cons (v_ty (t := .tuple) (by rfl) T.z_tuple (by decide +kernel) (by decide) (by decide)) l_nil rfl) rfl) rfl (by decide) (by decide)))) rfl (.inl rfl)) (ss_cons (s_set (i := 5) c rfl (by mem_news) (v_ite (b_val (v_var (i := 6) rfl (by leaf_len) (by decide) (by decide)) (fun _ => rfl)) (v_bin (o_add c.cK) (v_tup (l_cons (v_callTy (c_list c.cK) (by rfl) T.z_list (by decide +kernel) (l_cons (v_ix c.cK (v_var (i := 5) rfl (by leaf_len) (by decide) (by decide)) v_int rfl) l_nil rfl) rfl (by decide) (by decide)) l_nil rfl) (by decide)) (v_slice c.cK (v_var (i := 5) rfl (by leaf_len) (by decide) (by decide)) (q_some v_int) q_none)) (v_callTy (c_list c.cK) (by rfl) T.z_list (by decide +kernel) (l_cons (v_var (i := 5) rfl (by leaf_len) (by decide) (by decide)) l_nil rfl) rfl (by decide) (by decide))) rfl (.inl rfl)) (ss_cons (s_ret (v_bin (o_add c.cK) (v_bin (o_add c.cK) (v_slice c.cK (v_var (i := 1) rfl (by leaf_len) (by decide) (by decide)) q_none (q_some (v_var (i := 3) rfl (by leaf_len) (by decide) (by decide)))) (v_tup (l_cons (v_var (i := 5) rfl (by leaf_len) (by decide) (by decide)) l_nil rfl) (by decide))) (v_slice c.cK (v_var (i := 1) rfl (by leaf_len) (by decide) (by decide)) (q_some (v_bin (o_add c.cK) (v_var (i := 3) rfl (by leaf_len) (by decide) (by decide)) v_int)) q_none))) ss_nil))) (ss_nil)) (ss_cons (s_ret (v_ite (b_cmp (o_eq c.cK c.rm) (v_var (i := 2) rfl (by leaf_len) (by decide) (by decide)) v_int rfl) (v_callTy (c_list c.cK) (by rfl) T.z_list (by decide +kernel) (l_cons (v_var (i := 1) rfl (by leaf_len) (by decide) (by decide)) l_nil rfl) rfl (by decide) (by decide)) (v_var (i := 4) rfl (by leaf_len) (by decide) (by decide)))) ss_nil))))))⟩
def sem__law_bent : List D → M D := runFn 2 7 pk__law_bent.1
theorem ok__law_bent (T : Facts P w K mg base ad) : FnA P w K mg base (GG b K ad) 6 (ad 15) sem__law_bent := by
  obtain ⟨fd, F⟩ := T.f__law_bent
  exact fna_rule F sc__law_bent (F.binds fun _ _ _ _ _ _ us hl => match us, hl with | [_, _], _ => rfl) rfl (pk__law_bent.2 P w K mg base ad b T) rfl rfl (by decide)
def pk_is_integer : Σ' ms : MS, ∀ (P : Program) (w : World) (K : PySem.W.Frag) (mg : Str → Option Value) (base : Heap) (ad : Nat → Addr) (b : Bool), Facts P w K mg base ad → Body P w K mg base (GG b K ad) 0 (ad 16) ["value"] "is_integer" st_is_integer ms :=
  ⟨_, fun P w K mg base ad b T cdv A fr s H E c => ss_cons (s_ret (v_and (v_callB (c_isa c.cK (T.isa _ _ rfl)) (by rfl) T.z_isinstance (by decide +kernel) (l_cons (v_var (i := 0) rfl (by leaf_len) (by decide) (by decide)) (l_cons (v_ty (t := .int) (by rfl) T.z_int (by decide +kernel) (by decide) (by decide)) l_nil rfl) rfl) rfl (by decide) (by decide)) (v_one (v_not (v_callB (c_isa c.cK (T.isa _ _ rfl)) (by rfl) T.z_isinstance (by decide +kernel) (l_cons (v_var (i := 0) rfl (by leaf_len) (by decide) (by decide)) (l_cons (v_ty (t := .bool) (by rfl) T.z_bool (by decide +kernel) (by decide) (by decide)) l_nil rfl) rfl) rfl (by decide) (by decide)))))) ss_nil⟩
def sem_is_integer : List D → M D := runFn 1 1 pk_is_integer.1
theorem ok_is_integer (T : Facts P w K mg base ad) : FnA P w K mg base (GG b K ad) 2 (ad 16) sem_is_integer := by
  obtain ⟨fd, F⟩ := T.f_is_integer
  exact fna_rule F sc_is_integer (F.binds fun _ _ _ _ _ _ us hl => match us, hl with | [_], _ => rfl) rfl (pk_is_integer.2 P w K mg base ad b T) rfl rfl (by decide)
def pk_is_between : Σ' ms : MS, ∀ (P : Program) (w : World) (K : PySem.W.Frag) (mg : Str → Option Value) (base : Heap) (ad : Nat → Addr) (b : Bool), Facts P w K mg base ad → Body P w K mg base (GG b K ad) 2 (ad 17) ["value", "low", "high"] "is_between" st_is_between ms :=
  ⟨_, fun P w K mg base ad b T cdv A fr s H E c => ss_cons (s_ret (v_and (v_calls (FnA.call c ((ok_is_integer T).mono (by decide))) (by rfl) T.g_is_integer (l_cons (v_var (i := 0) rfl (by leaf_len) (by decide) (by decide)) l_nil rfl) rfl (by decide)) (v_one (v_chain' (o_le) (o_le) (v_var (i := 1) rfl (by leaf_len) (by decide) (by decide)) (v_var (i := 0) rfl (by leaf_len) (by decide) (by decide)) (v_var (i := 2) rfl (by leaf_len) (by decide) (by decide)) rfl)))) ss_nil⟩
def sem_is_between : List D → M D := runFn 3 3 pk_is_between.1
theorem ok_is_between (T : Facts P w K mg base ad) : FnA P w K mg base (GG b K ad) 4 (ad 17) sem_is_between := by
  obtain ⟨fd, F⟩ := T.f_is_between
  exact fna_rule F sc_is_between (F.binds fun _ _ _ _ _ _ us hl => match us, hl with | [_, _, _], _ => rfl) rfl (pk_is_between.2 P w K mg base ad b T) rfl rfl (by decide)
def pk_is_piece : Σ' ms : MS, ∀ (P : Program) (w : World) (K : PySem.W.Frag) (mg : Str → Option Value) (base : Heap) (ad : Nat → Addr) (b : Bool), Facts P w K mg base ad → Body P w K mg base (GG b K ad) 4 (ad 18) ["value"] "is_piece" st_is_piece ms :=
  ⟨_, fun P w K mg base ad b T cdv A fr s H E c => ss_cons (s_if (b_of (w_or (b_not (b_val (v_callB (c_isa c.cK (T.isa _ _ rfl)) (by rfl) T.z_isinstance (by decide +kernel) (l_cons (v_var (i := 0) rfl (by leaf_len) (by decide) (by decide)) (l_cons (v_ty (t := .tuple) (by rfl) T.z_tuple (by decide +kernel) (by decide) (by decide)) l_nil rfl) rfl) rfl (by decide) (by decide)) (fun _ => rfl))) (w_or (b_cmp (o_ne c.cK c.rm) (v_callB (c_len c.cK) (by rfl) T.z_len (by decide +kernel) (l_cons (v_var (i := 0) rfl (by leaf_len) (by decide) (by decide)) l_nil rfl) rfl (by decide) (by decide)) v_int rfl) (w_or1 (b_not (b_val (v_callB (c_isa c.cK (T.isa _ _ rfl)) (by rfl) T.z_isinstance (by decide +kernel) (l_cons (v_ix c.cK (v_var (i := 0) rfl (by leaf_len) (by decide) (by decide)) v_int rfl) (l_cons (v_ty (t := .str) (by rfl) T.z_str (by decide +kernel) (by decide) (by decide)) l_nil rfl) rfl) rfl (by decide) (by decide)) (fun _ => rfl))))))) (ss_cons (s_ret v_bool) ss_nil) (ss_nil)) (ss_cons (s_ret (v_and (v_cmp (o_in c.cK c.rm) (v_ix c.cK (v_var (i := 0) rfl (by leaf_len) (by decide) (by decide)) v_int rfl) (v_glob (by rfl) (T.c_WORDS _) (by decide)) rfl) (v_one (v_calls (FnA.call c ((ok_is_between T).mono (by decide))) (by rfl) T.g_is_between (l_cons (v_ix c.cK (v_var (i := 0) rfl (by leaf_len) (by decide) (by decide)) v_int rfl) (l_cons v_int (l_cons (v_glob (by rfl) (T.c_MOST_OHMS _) (by decide)) l_nil rfl) rfl) rfl) rfl (by decide))))) ss_nil)⟩
def sem_is_piece : List D → M D := runFn 1 1 pk_is_piece.1
theorem ok_is_piece (T : Facts P w K mg base ad) : FnA P w K mg base (GG b K ad) 6 (ad 18) sem_is_piece := by
  obtain ⟨fd, F⟩ := T.f_is_piece
  exact fna_rule F sc_is_piece (F.binds fun _ _ _ _ _ _ us hl => match us, hl with | [_], _ => rfl) rfl (pk_is_piece.2 P w K mg base ad b T) rfl rfl (by decide)
def pk_check_pieces : Σ' ms : MS, ∀ (P : Program) (w : World) (K : PySem.W.Frag) (mg : Str → Option Value) (base : Heap) (ad : Nat → Addr) (b : Bool), Facts P w K mg base ad → Body P w K mg base (GG b K ad) 6 (ad 19) ["pieces", "index", "piece"] "check_pieces" st_check_pieces ms :=
  ⟨_, fun P w K mg base ad b T cdv A fr s H E c => ss_cons (s_if (b_of (w_or (b_cmp (o_eq c.cK c.rm) (v_callB (c_len c.cK) (by rfl) T.z_len (by decide +kernel) (l_cons (v_var (i := 0) rfl (by leaf_len) (by decide) (by decide)) l_nil rfl) rfl (by decide) (by decide)) v_int rfl) (w_or1 (b_cmp (o_gt) (v_callB (c_len c.cK) (by rfl) T.z_len (by decide +kernel) (l_cons (v_var (i := 0) rfl (by leaf_len) (by decide) (by decide)) l_nil rfl) rfl (by decide) (by decide)) (v_glob (by rfl) (T.c_MOST_PIECES _) (by decide)) rfl)))) (ss_never) (ss_nil)) (ss_cons (s_for c (i_enum c (by rfl) T.z_enumerate (v_var (i := 0) rfl (by leaf_len) (by decide) (by decide)) rfl) (g_tup c.cK c.calm (gs_cons (g_name (i := 1) c.nd rfl (by mem_news) (.inl rfl)) (gs_cons (g_name (i := 2) c.nd rfl (by mem_news) (.inl rfl)) gs_nil rfl) rfl) rfl rfl) (ss_cons (s_if (b_not (b_val (v_calls (FnA.call c ((ok_is_piece T).mono (by decide))) (by rfl) T.g_is_piece (l_cons (v_var (i := 2) rfl (by leaf_len) (by decide) (by decide)) l_nil rfl) rfl (by decide)) (fun _ => rfl))) (ss_never) (ss_nil)) (ss_nil)) rfl) (ss_nil))⟩
def sem_check_pieces : List D → M D := runFn 1 3 pk_check_pieces.1
theorem ok_check_pieces (T : Facts P w K mg base ad) : FnA P w K mg base (GG b K ad) 8 (ad 19) sem_check_pieces := by
  obtain ⟨fd, F⟩ := T.f_check_pieces
  exact fna_rule F sc_check_pieces (F.binds fun _ _ _ _ _ _ us hl => match us, hl with | [_], _ => rfl) rfl (pk_check_pieces.2 P w K mg base ad b T) rfl rfl (by decide)
def pk_joined : Σ' ms : MS, ∀ (P : Program) (w : World) (K : PySem.W.Frag) (mg : Str → Option Value) (base : Heap) (ad : Nat → Addr) (b : Bool), Facts P w K mg base ad → Body P w K mg base (GG b K ad) 0 (ad 20) ["front", "back", "a", "b", "c", "d", "e", "f", "g", "h"] "joined" st_joined ms :=
  ⟨_, fun P w K mg base ad b T cdv A fr s H E c => ss_cons (s_asg (v_var (i := 0) rfl (by leaf_len) (by decide) (by decide)) (g_tup c.cK c.calm (gs_cons (g_name (i := 2) c.nd rfl (by mem_news) (.inl rfl)) (gs_cons (g_name (i := 3) c.nd rfl (by mem_news) (.inl rfl)) (gs_cons (g_name (i := 4) c.nd rfl (by mem_news) (.inl rfl)) (gs_cons (g_name (i := 5) c.nd rfl (by mem_news) (.inl rfl)) gs_nil rfl) rfl) rfl) rfl) rfl rfl) rfl rfl rfl) (ss_cons (s_asg (v_var (i := 1) rfl (by leaf_len) (by decide) (by decide)) (g_tup c.cK c.calm (gs_cons (g_name (i := 6) c.nd rfl (by mem_news) (.inl rfl)) (gs_cons (g_name (i := 7) c.nd rfl (by mem_news) (.inl rfl)) (gs_cons (g_name (i := 8) c.nd rfl (by mem_news) (.inl rfl)) (gs_cons (g_name (i := 9) c.nd rfl (by mem_news) (.inl rfl)) gs_nil rfl) rfl) rfl) rfl) rfl rfl) rfl rfl rfl) (ss_cons (s_ret (v_tup (l_cons (v_bin (o_add c.cK) (v_bin (o_mul c.cK) (v_var (i := 2) rfl (by leaf_len) (by decide) (by decide)) (v_var (i := 6) rfl (by leaf_len) (by decide) (by decide))) (v_bin (o_mul c.cK) (v_var (i := 3) rfl (by leaf_len) (by decide) (by decide)) (v_var (i := 8) rfl (by leaf_len) (by decide) (by decide)))) (l_cons (v_bin (o_add c.cK) (v_bin (o_mul c.cK) (v_var (i := 2) rfl (by leaf_len) (by decide) (by decide)) (v_var (i := 7) rfl (by leaf_len) (by decide) (by decide))) (v_bin (o_mul c.cK) (v_var (i := 3) rfl (by leaf_len) (by decide) (by decide)) (v_var (i := 9) rfl (by leaf_len) (by decide) (by decide)))) (l_cons (v_bin (o_add c.cK) (v_bin (o_mul c.cK) (v_var (i := 4) rfl (by leaf_len) (by decide) (by decide)) (v_var (i := 6) rfl (by leaf_len) (by decide) (by decide))) (v_bin (o_mul c.cK) (v_var (i := 5) rfl (by leaf_len) (by decide) (by decide)) (v_var (i := 8) rfl (by leaf_len) (by decide) (by decide)))) (l_cons (v_bin (o_add c.cK) (v_bin (o_mul c.cK) (v_var (i := 4) rfl (by leaf_len) (by decide) (by decide)) (v_var (i := 7) rfl (by leaf_len) (by decide) (by decide))) (v_bin (o_mul c.cK) (v_var (i := 5) rfl (by leaf_len) (by decide) (by decide)) (v_var (i := 9) rfl (by leaf_len) (by decide) (by decide)))) l_nil rfl) rfl) rfl) rfl) (by decide))) ss_nil))⟩
def sem_joined : List D → M D := runFn 2 10 pk_joined.1
theorem ok_joined (T : Facts P w K mg base ad) : FnA P w K mg base (GG b K ad) 2 (ad 20) sem_joined := by
  obtain ⟨fd, F⟩ := T.f_joined
  exact fna_rule F sc_joined (F.binds fun _ _ _ _ _ _ us hl => match us, hl with | [_, _], _ => rfl) rfl (pk_joined.2 P w K mg base ad b T) rfl rfl (by decide)
def pk_chain_of : Σ' ms : MS, ∀ (P : Program) (w : World) (K : PySem.W.Frag) (mg : Str → Option Value) (base : Heap) (ad : Nat → Addr) (b : Bool), Facts P w K mg base ad → Body P w K mg base (GG b K ad) 2 (ad 21) ["pieces", "found", "times", "word", "ohms"] "chain_of" st_chain_of ms :=
  ⟨_, fun P w K mg base ad b T cdv A fr s H E c => ss_cons (s_par (i := 1) (j := 2) c rfl rfl (by decide) rfl rfl (l_cons (v_glob (by rfl) (T.c_NOTHING _) (by decide)) (l_cons v_int l_nil rfl) rfl) rfl) (ss_cons (s_for c (i_seq c (v_var (i := 0) rfl (by leaf_len) (by decide) (by decide))) (g_tup c.cK c.calm (gs_cons (g_name (i := 3) c.nd rfl (by mem_news) (.inl rfl)) (gs_cons (g_name (i := 4) c.nd rfl (by mem_news) (.inl rfl)) gs_nil rfl) rfl) rfl rfl) (ss_cons (s_if (b_cmp (o_eq c.cK c.rm) (v_var (i := 3) rfl (by leaf_len) (by decide) (by decide)) v_str rfl) (ss_cons (s_set (i := 1) c rfl (by mem_news) (v_calls (FnA.call c ((ok_joined T).mono (by decide))) (by rfl) T.g_joined (l_cons (v_var (i := 1) rfl (by leaf_len) (by decide) (by decide)) (l_cons (v_tup (l_cons v_int (l_cons (v_var (i := 4) rfl (by leaf_len) (by decide) (by decide)) (l_cons v_int (l_cons v_int l_nil rfl) rfl) rfl) rfl) (by decide)) l_nil rfl) rfl) rfl (by decide)) rfl (.inl rfl)) (ss_nil)) (ss_cons (s_par (i := 1) (j := 2) c rfl rfl (by decide) rfl rfl (l_cons (v_calls (FnA.call c ((ok_joined T).mono (by decide))) (by rfl) T.g_joined (l_cons (v_var (i := 1) rfl (by leaf_len) (by decide) (by decide)) (l_cons (v_tup (l_cons (v_var (i := 4) rfl (by leaf_len) (by decide) (by decide)) (l_cons v_int (l_cons v_int (l_cons (v_var (i := 4) rfl (by leaf_len) (by decide) (by decide)) l_nil rfl) rfl) rfl) rfl) (by decide)) l_nil rfl) rfl) rfl (by decide)) (l_cons (v_bin (o_mul c.cK) (v_var (i := 2) rfl (by leaf_len) (by decide) (by decide)) (v_var (i := 4) rfl (by leaf_len) (by decide) (by decide))) l_nil rfl) rfl) rfl) (ss_nil))) (ss_nil)) rfl) (ss_cons (s_ret (v_tup (l_cons (v_var (i := 1) rfl (by leaf_len) (by decide) (by decide)) (l_cons (v_var (i := 2) rfl (by leaf_len) (by decide) (by decide)) l_nil rfl) rfl) (by decide))) ss_nil))⟩
def sem_chain_of : List D → M D := runFn 1 5 pk_chain_of.1
theorem ok_chain_of (T : Facts P w K mg base ad) : FnA P w K mg base (GG b K ad) 4 (ad 21) sem_chain_of := by
  obtain ⟨fd, F⟩ := T.f_chain_of
  exact fna_rule F sc_chain_of (F.binds fun _ _ _ _ _ _ us hl => match us, hl with | [_], _ => rfl) rfl (pk_chain_of.2 P w K mg base ad b T) rfl rfl (by decide)
def pk_PatternX_initX : Σ' ms : MS, ∀ (P : Program) (w : World) (K : PySem.W.Frag) (mg : Str → Option Value) (base : Heap) (ad : Nat → Addr) (b : Bool), Facts P w K mg base ad → Body P w K mg base (GG b K ad) 8 (ad 22) ["self", "pieces"] "Pattern.__init__" st_PatternX_initX ms :=
  ⟨_, fun P w K mg base ad b T cdv A fr s H E c => ss_cons (s_if (b_of (w_and (b_cmp (o_eq c.cK c.rm) (v_callB (c_len c.cK) (by rfl) T.z_len (by decide +kernel) (l_cons (v_var (i := 1) rfl (by leaf_len) (by decide) (by decide)) l_nil rfl) rfl (by decide) (by decide)) v_int rfl) (w_and1 (b_val (v_callB (c_isa c.cK (T.isa _ _ rfl)) (by rfl) T.z_isinstance (by decide +kernel) (l_cons (v_ix c.cK (v_var (i := 1) rfl (by leaf_len) (by decide) (by decide)) v_int rfl) (l_cons (v_glob (by rfl) (glob_cls (c := 0) T.k_Row) (by decide)) l_nil rfl) rfl) rfl (by decide) (by decide)) (fun _ => rfl))))) (ss_cons (s_setF (i := 0) (T_fld_row T ⟨rfl, rfl, rfl, rfl, rfl⟩) rfl (by leaf_len) (by decide) (by decide) (v_attr c (T_attr_told_0 T ⟨rfl, rfl, rfl, rfl, rfl⟩ (by decide)) (v_ix c.cK (v_var (i := 1) rfl (by leaf_len) (by decide) (by decide)) v_int rfl) rfl) rfl) (ss_nil)) (ss_cons (s_expr (v_calls (FnA.call c ((ok_check_pieces T).mono (by decide))) (by rfl) T.g_check_pieces (l_cons (v_var (i := 1) rfl (by leaf_len) (by decide) (by decide)) l_nil rfl) rfl (by decide)) rfl) (ss_cons (s_setF (i := 0) (T_fld_row T ⟨rfl, rfl, rfl, rfl, rfl⟩) rfl (by leaf_len) (by decide) (by decide) (v_callTy (c_tuple c.cK) (by rfl) T.z_tuple (by decide +kernel) (l_cons (v_var (i := 1) rfl (by leaf_len) (by decide) (by decide)) l_nil rfl) rfl (by decide) (by decide)) rfl) (ss_nil)))) (ss_cons (s_asg (v_calls (FnA.call c ((ok_chain_of T).mono (by decide))) (by rfl) T.g_chain_of (l_cons (v_ownF (i := 0) (T_fld_row T ⟨rfl, rfl, rfl, rfl, rfl⟩) rfl (by leaf_len) (by decide) (by decide)) l_nil rfl) rfl (by decide)) (g_tup c.cK c.calm (gs_cons (g_fld (i := 0) (T_fld_chain T ⟨rfl, rfl, rfl, rfl, rfl⟩) rfl (by leaf_len) (by decide) (by decide)) (gs_cons (g_fld (i := 0) (T_fld_scale T ⟨rfl, rfl, rfl, rfl, rfl⟩) rfl (by leaf_len) (by decide) (by decide)) gs_nil rfl) rfl) rfl rfl) rfl rfl rfl) (ss_nil))⟩
def sem_PatternX_initX : List D → M D := mkStar 1 1 2 pk_PatternX_initX.1
theorem mk_Pattern (T : Facts P w K mg base ad) : ClA P w K mg base (GG b K ad) 10 1 sem_PatternX_initX := by
  obtain ⟨fd, F⟩ := T.f_PatternX_initX
  exact cla_star (ps := ["self"]) (pv := "pieces") F sc_PatternX_initX rfl (pk_PatternX_initX.2 P w K mg base ad b T) (fun _ _ _ _ _ _ => StX.bind_star1 (B := fun l => bindArgs _ ⟨l, []⟩) (fun _ => rfl) (fun _ _ _ => rfl)) T.m_Pattern rfl rfl (by decide) (by decide)
def pk_RowX_initX : Σ' ms : MS, ∀ (P : Program) (w : World) (K : PySem.W.Frag) (mg : Str → Option Value) (base : Heap) (ad : Nat → Addr) (b : Bool), Facts P w K mg base ad → Body P w K mg base (GG b K ad) 0 (ad 23) ["self", "told"] "Row.__init__" st_RowX_initX ms :=
  ⟨_, fun P w K mg base ad b T cdv A fr s H E c => ss_cons (s_setF (i := 0) (T_fld_told T ⟨rfl, rfl, rfl, rfl, rfl⟩) rfl (by leaf_len) (by decide) (by decide) (v_var (i := 1) rfl (by leaf_len) (by decide) (by decide)) rfl) (ss_nil)⟩
def sem_RowX_initX : List D → M D := mkFn 0 2 2 pk_RowX_initX.1
theorem mk_Row (T : Facts P w K mg base ad) : ClA P w K mg base (GG b K ad) 2 0 sem_RowX_initX := by
  obtain ⟨fd, F⟩ := T.f_RowX_initX
  exact cla_rule F sc_RowX_initX (F.binds fun _ _ _ _ _ _ us hl => match us, hl with | [_, _], _ => rfl) rfl (pk_RowX_initX.2 P w K mg base ad b T) T.m_Row rfl rfl (by decide)
def pk_pattern_of : Σ' ms : MS, ∀ (P : Program) (w : World) (K : PySem.W.Frag) (mg : Str → Option Value) (base : Heap) (ad : Nat → Addr) (b : Bool), Facts P w K mg base ad → Body P w K mg base (GG b K ad) 10 (ad 24) ["pieces"] "pattern_of" st_pattern_of ms :=
  ⟨_, fun P w K mg base ad b T cdv A fr s H E c => ss_cons (s_ret (v_calls (ClA.call c ((mk_Pattern T).mono (by decide))) (by rfl) T.k_Pattern (l_cons (v_calls (ClA.call c ((mk_Row T).mono (by decide))) (by rfl) T.k_Row (l_cons (v_var (i := 0) rfl (by leaf_len) (by decide) (by decide)) l_nil rfl) rfl (by decide)) l_nil rfl) rfl (by decide))) ss_nil⟩
def sem_pattern_of : List D → M D := runFn 1 1 pk_pattern_of.1
theorem ok_pattern_of (T : Facts P w K mg base ad) : FnA P w K mg base (GG b K ad) 12 (ad 24) sem_pattern_of := by
  obtain ⟨fd, F⟩ := T.f_pattern_of
  exact fna_rule F sc_pattern_of (F.binds fun _ _ _ _ _ _ us hl => match us, hl with | [_], _ => rfl) rfl (pk_pattern_of.2 P w K mg base ad b T) rfl rfl (by decide)
def pk_pattern_told : Σ' ms : MS, ∀ (P : Program) (w : World) (K : PySem.W.Frag) (mg : Str → Option Value) (base : Heap) (ad : Nat → Addr) (b : Bool), Facts P w K mg base ad → Body P w K mg base (GG b K ad) 12 (ad 25) ["value", "piece"] "pattern_told" st_pattern_told ms :=
  ⟨_, fun P w K mg base ad b T cdv A fr s H E c => ss_cons (s_if (b_of (w_or (b_not (b_val (v_callB (c_isa c.cK (T.isa _ _ rfl)) (by rfl) T.z_isinstance (by decide +kernel) (l_cons (v_var (i := 0) rfl (by leaf_len) (by decide) (by decide)) (l_cons (v_ty (t := .tuple) (by rfl) T.z_tuple (by decide +kernel) (by decide) (by decide)) l_nil rfl) rfl) rfl (by decide) (by decide)) (fun _ => rfl))) (w_or1 (b_not (b_chain (o_le) (o_le) v_int (v_callB (c_len c.cK) (by rfl) T.z_len (by decide +kernel) (l_cons (v_var (i := 0) rfl (by leaf_len) (by decide) (by decide)) l_nil rfl) rfl (by decide) (by decide)) (v_glob (by rfl) (T.c_MOST_JOINED _) (by decide)) rfl))))) (ss_cons (s_ret v_none) ss_nil) (ss_nil)) (ss_cons (s_ret (v_ite (b_val (v_callB (c_all c.calm) (by rfl) T.z_all (by decide +kernel) (l_cons (v_lc c (own := [("piece", 1)]) (i_seq c (v_var (i := 0) rfl (by leaf_len) (by decide) (by decide))) (blkOk_by (N := ["value", "piece"]) (sc := defScope st_pattern_told) (by decide +kernel)) (fun s H C cl fp => blkP c fun c => (p_name (i := 1) c.nd rfl (by mem_news) (.inr rfl))) (fun s H C cl fp => blkT c fun c => t_nil) (fun s H C cl fp => blkV c fun c => (v_calls (FnA.call c ((ok_is_piece T).mono (by decide))) (by rfl) T.g_is_piece (l_cons (v_var (i := 1) rfl (by leaf_len) (by decide) (by decide)) l_nil rfl) rfl (by decide))) rfl (by decide)) l_nil rfl) rfl (by decide) (by decide)) (fun _ => rfl)) (v_calls (FnA.call c ((ok_pattern_of T).mono (by decide))) (by rfl) T.g_pattern_of (l_cons (v_var (i := 0) rfl (by leaf_len) (by decide) (by decide)) l_nil rfl) rfl (by decide)) v_none)) ss_nil)⟩
def sem_pattern_told : List D → M D := runFn 1 2 pk_pattern_told.1
theorem ok_pattern_told (T : Facts P w K mg base ad) : FnA P w K mg base (GG b K ad) 14 (ad 25) sem_pattern_told := by
  obtain ⟨fd, F⟩ := T.f_pattern_told
  exact fna_rule F sc_pattern_told (F.binds fun _ _ _ _ _ _ us hl => match us, hl with | [_], _ => rfl) rfl (pk_pattern_told.2 P w K mg base ad b T) rfl rfl (by decide)
def pk_is_fraction : Σ' ms : MS, ∀ (P : Program) (w : World) (K : PySem.W.Frag) (mg : Str → Option Value) (base : Heap) (ad : Nat → Addr) (b : Bool), Facts P w K mg base ad → Body P w K mg base (GG b K ad) 2 (ad 26) ["value"] "is_fraction" st_is_fraction ms :=
  ⟨_, fun P w K mg base ad b T cdv A fr s H E c => ss_cons (s_if (b_not (b_val (v_callB (c_isa c.cK (T.isa _ _ rfl)) (by rfl) T.z_isinstance (by decide +kernel) (l_cons (v_var (i := 0) rfl (by leaf_len) (by decide) (by decide)) (l_cons (v_ty (t := .tuple) (by rfl) T.z_tuple (by decide +kernel) (by decide) (by decide)) l_nil rfl) rfl) rfl (by decide) (by decide)) (fun _ => rfl))) (ss_cons (s_ret (v_and (v_calls (FnA.call c ((ok_is_integer T).mono (by decide))) (by rfl) T.g_is_integer (l_cons (v_var (i := 0) rfl (by leaf_len) (by decide) (by decide)) l_nil rfl) rfl (by decide)) (v_one (v_cmp (o_ge) (v_var (i := 0) rfl (by leaf_len) (by decide) (by decide)) v_int rfl)))) ss_nil) (ss_nil)) (ss_cons (s_ret (v_and (v_cmp (o_eq c.cK c.rm) (v_callB (c_len c.cK) (by rfl) T.z_len (by decide +kernel) (l_cons (v_var (i := 0) rfl (by leaf_len) (by decide) (by decide)) l_nil rfl) rfl (by decide) (by decide)) v_int rfl) (v_and (v_calls (FnA.call c ((ok_is_integer T).mono (by decide))) (by rfl) T.g_is_integer (l_cons (v_ix c.cK (v_var (i := 0) rfl (by leaf_len) (by decide) (by decide)) v_int rfl) l_nil rfl) rfl (by decide)) (v_and (v_calls (FnA.call c ((ok_is_integer T).mono (by decide))) (by rfl) T.g_is_integer (l_cons (v_ix c.cK (v_var (i := 0) rfl (by leaf_len) (by decide) (by decide)) v_int rfl) l_nil rfl) rfl (by decide)) (v_and (v_cmp (o_ge) (v_ix c.cK (v_var (i := 0) rfl (by leaf_len) (by decide) (by decide)) v_int rfl) v_int rfl) (v_one (v_cmp (o_ge) (v_ix c.cK (v_var (i := 0) rfl (by leaf_len) (by decide) (by decide)) v_int rfl) v_int rfl))))))) ss_nil)⟩
def sem_is_fraction : List D → M D := runFn 1 1 pk_is_fraction.1
theorem ok_is_fraction (T : Facts P w K mg base ad) : FnA P w K mg base (GG b K ad) 4 (ad 26) sem_is_fraction := by
  obtain ⟨fd, F⟩ := T.f_is_fraction
  exact fna_rule F sc_is_fraction (F.binds fun _ _ _ _ _ _ us hl => match us, hl with | [_], _ => rfl) rfl (pk_is_fraction.2 P w K mg base ad b T) rfl rfl (by decide)
def pk_is_number : Σ' ms : MS, ∀ (P : Program) (w : World) (K : PySem.W.Frag) (mg : Str → Option Value) (base : Heap) (ad : Nat → Addr) (b : Bool), Facts P w K mg base ad → Body P w K mg base (GG b K ad) 4 (ad 27) ["value"] "is_number" st_is_number ms :=
  ⟨_, fun P w K mg base ad b T cdv A fr s H E c => ss_cons (s_if (b_val (v_calls (FnA.call c ((ok_is_fraction T).mono (by decide))) (by rfl) T.g_is_fraction (l_cons (v_var (i := 0) rfl (by leaf_len) (by decide) (by decide)) l_nil rfl) rfl (by decide)) (fun _ => rfl)) (ss_cons (s_ret v_bool) ss_nil) (ss_nil)) (ss_cons (s_if (b_of (w_or (b_not (b_val (v_callB (c_isa c.cK (T.isa _ _ rfl)) (by rfl) T.z_isinstance (by decide +kernel) (l_cons (v_var (i := 0) rfl (by leaf_len) (by decide) (by decide)) (l_cons (v_ty (t := .tuple) (by rfl) T.z_tuple (by decide +kernel) (by decide) (by decide)) l_nil rfl) rfl) rfl (by decide) (by decide)) (fun _ => rfl))) (w_or1 (b_cmp (o_ne c.cK c.rm) (v_callB (c_len c.cK) (by rfl) T.z_len (by decide +kernel) (l_cons (v_var (i := 0) rfl (by leaf_len) (by decide) (by decide)) l_nil rfl) rfl (by decide) (by decide)) v_int rfl)))) (ss_cons (s_ret v_bool) ss_nil) (ss_nil)) (ss_cons (s_ret (v_and (v_calls (FnA.call c ((ok_is_integer T).mono (by decide))) (by rfl) T.g_is_integer (l_cons (v_ix c.cK (v_var (i := 0) rfl (by leaf_len) (by decide) (by decide)) v_int rfl) l_nil rfl) rfl (by decide)) (v_and (v_calls (FnA.call c ((ok_is_integer T).mono (by decide))) (by rfl) T.g_is_integer (l_cons (v_ix c.cK (v_var (i := 0) rfl (by leaf_len) (by decide) (by decide)) v_int rfl) l_nil rfl) rfl (by decide)) (v_one (v_cmp (o_eq c.cK c.rm) (v_var (i := 0) rfl (by leaf_len) (by decide) (by decide)) (v_glob (by rfl) (T.c_OPEN _) (by decide)) rfl))))) ss_nil))⟩
def sem_is_number : List D → M D := runFn 1 1 pk_is_number.1
theorem ok_is_number (T : Facts P w K mg base ad) : FnA P w K mg base (GG b K ad) 6 (ad 27) sem_is_number := by
  obtain ⟨fd, F⟩ := T.f_is_number
  exact fna_rule F sc_is_number (F.binds fun _ _ _ _ _ _ us hl => match us, hl with | [_], _ => rfl) rfl (pk_is_number.2 P w K mg base ad b T) rfl rfl (by decide)
def pk_is_resistance : Σ' ms : MS, ∀ (P : Program) (w : World) (K : PySem.W.Frag) (mg : Str → Option Value) (base : Heap) (ad : Nat → Addr) (b : Bool), Facts P w K mg base ad → Body P w K mg base (GG b K ad) 6 (ad 28) ["value"] "is_resistance" st_is_resistance ms :=
  ⟨_, fun P w K mg base ad b T cdv A fr s H E c => ss_cons (s_if (b_not (b_val (v_calls (FnA.call c ((ok_is_number T).mono (by decide))) (by rfl) T.g_is_number (l_cons (v_var (i := 0) rfl (by leaf_len) (by decide) (by decide)) l_nil rfl) rfl (by decide)) (fun _ => rfl))) (ss_cons (s_ret v_bool) ss_nil) (ss_nil)) (ss_cons (s_if (b_val (v_callB (c_isa c.cK (T.isa _ _ rfl)) (by rfl) T.z_isinstance (by decide +kernel) (l_cons (v_var (i := 0) rfl (by leaf_len) (by decide) (by decide)) (l_cons (v_ty (t := .tuple) (by rfl) T.z_tuple (by decide +kernel) (by decide) (by decide)) l_nil rfl) rfl) rfl (by decide) (by decide)) (fun _ => rfl)) (ss_cons (s_ret (v_and (v_cmp (o_le) (v_ix c.cK (v_var (i := 0) rfl (by leaf_len) (by decide) (by decide)) v_int rfl) (v_glob (by rfl) (T.c_GREATEST _) (by decide)) rfl) (v_one (v_cmp (o_le) (v_ix c.cK (v_var (i := 0) rfl (by leaf_len) (by decide) (by decide)) v_int rfl) (v_glob (by rfl) (T.c_GREATEST _) (by decide)) rfl)))) ss_nil) (ss_nil)) (ss_cons (s_ret (v_cmp (o_le) (v_var (i := 0) rfl (by leaf_len) (by decide) (by decide)) (v_glob (by rfl) (T.c_GREATEST _) (by decide)) rfl)) ss_nil))⟩
def sem_is_resistance : List D → M D := runFn 1 1 pk_is_resistance.1
theorem ok_is_resistance (T : Facts P w K mg base ad) : FnA P w K mg base (GG b K ad) 8 (ad 28) sem_is_resistance := by
  obtain ⟨fd, F⟩ := T.f_is_resistance
  exact fna_rule F sc_is_resistance (F.binds fun _ _ _ _ _ _ us hl => match us, hl with | [_], _ => rfl) rfl (pk_is_resistance.2 P w K mg base ad b T) rfl rfl (by decide)
def pk_check_pattern : Σ' ms : MS, ∀ (P : Program) (w : World) (K : PySem.W.Frag) (mg : Str → Option Value) (base : Heap) (ad : Nat → Addr) (b : Bool), Facts P w K mg base ad → Body P w K mg base (GG b K ad) 0 (ad 29) ["value"] "check_pattern" st_check_pattern ms :=
  ⟨_, fun P w K mg base ad b T cdv A fr s H E c => ss_cons (s_if (b_not (b_val (v_callB (c_isa c.cK (T.isa _ _ rfl)) (by rfl) T.z_isinstance (by decide +kernel) (l_cons (v_var (i := 0) rfl (by leaf_len) (by decide) (by decide)) (l_cons (v_glob (by rfl) (glob_cls (c := 1) T.k_Pattern) (by decide)) l_nil rfl) rfl) rfl (by decide) (by decide)) (fun _ => rfl))) (ss_never) (ss_nil)) (ss_nil)⟩
def sem_check_pattern : List D → M D := runFn 1 1 pk_check_pattern.1
theorem ok_check_pattern (T : Facts P w K mg base ad) : FnA P w K mg base (GG b K ad) 2 (ad 29) sem_check_pattern := by
  obtain ⟨fd, F⟩ := T.f_check_pattern
  exact fna_rule F sc_check_pattern (F.binds fun _ _ _ _ _ _ us hl => match us, hl with | [_], _ => rfl) rfl (pk_check_pattern.2 P w K mg base ad b T) rfl rfl (by decide)
def pk_check_resistance : Σ' ms : MS, ∀ (P : Program) (w : World) (K : PySem.W.Frag) (mg : Str → Option Value) (base : Heap) (ad : Nat → Addr) (b : Bool), Facts P w K mg base ad → Body P w K mg base (GG b K ad) 8 (ad 30) ["value"] "check_resistance" st_check_resistance ms :=
  ⟨_, fun P w K mg base ad b T cdv A fr s H E c => ss_cons (s_if (b_not (b_val (v_calls (FnA.call c ((ok_is_resistance T).mono (by decide))) (by rfl) T.g_is_resistance (l_cons (v_var (i := 0) rfl (by leaf_len) (by decide) (by decide)) l_nil rfl) rfl (by decide)) (fun _ => rfl))) (ss_never) (ss_nil)) (ss_nil)⟩
def sem_check_resistance : List D → M D := runFn 1 1 pk_check_resistance.1
theorem ok_check_resistance (T : Facts P w K mg base ad) : FnA P w K mg base (GG b K ad) 10 (ad 30) sem_check_resistance := by
  obtain ⟨fd, F⟩ := T.f_check_resistance
  exact fna_rule F sc_check_resistance (F.binds fun _ _ _ _ _ _ us hl => match us, hl with | [_], _ => rfl) rfl (pk_check_resistance.2 P w K mg base ad b T) rfl rfl (by decide)
def pk_RunX_initX : Σ' ms : MS, ∀ (P : Program) (w : World) (K : PySem.W.Frag) (mg : Str → Option Value) (base : Heap) (ad : Nat → Addr) (b : Bool), Facts P w K mg base ad → Body P w K mg base (GG b K ad) 0 (ad 31) ["self", "load"] "Run.__init__" st_RunX_initX ms :=
  ⟨_, fun P w K mg base ad b T cdv A fr s H E c => ss_cons (s_setF (i := 0) (T_fld_first T ⟨rfl, rfl, rfl, rfl, rfl⟩) rfl (by leaf_len) (by decide) (by decide) (v_var (i := 1) rfl (by leaf_len) (by decide) (by decide)) rfl) (ss_nil)⟩
def pk_common : Σ' ms : MS, ∀ (P : Program) (w : World) (K : PySem.W.Frag) (mg : Str → Option Value) (base : Heap) (ad : Nat → Addr) (b : Bool), Facts P w K mg base ad → Body P w K mg base (GG b K ad) 0 (ad 32) ["one", "other"] "common" st_common ms :=
  ⟨_, fun P w K mg base ad b T cdv A fr s H E c => ss_cons (s_while c (b_cmp (o_gt) (v_var (i := 1) rfl (by leaf_len) (by decide) (by decide)) v_int rfl) (ss_cons (s_par (i := 0) (j := 1) c rfl rfl (by decide) rfl rfl (l_cons (v_var (i := 1) rfl (by leaf_len) (by decide) (by decide)) (l_cons (v_bin (o_mod) (v_callTy (c_int) (by rfl) T.z_int (by decide +kernel) (l_cons (v_var (i := 0) rfl (by leaf_len) (by decide) (by decide)) l_nil rfl) rfl (by decide) (by decide)) (v_callTy (c_int) (by rfl) T.z_int (by decide +kernel) (l_cons (v_var (i := 1) rfl (by leaf_len) (by decide) (by decide)) l_nil rfl) rfl (by decide) (by decide))) l_nil rfl) rfl) rfl) (ss_nil))) (ss_cons (s_ret (v_var (i := 0) rfl (by leaf_len) (by decide) (by decide))) ss_nil)⟩
def sem_common : List D → M D := runFn 2 2 pk_common.1
theorem ok_common (T : Facts P w K mg base ad) : FnA P w K mg base (GG b K ad) 2 (ad 32) sem_common := by
  obtain ⟨fd, F⟩ := T.f_common
  exact fna_rule F sc_common (F.binds fun _ _ _ _ _ _ us hl => match us, hl with | [_, _], _ => rfl) rfl (pk_common.2 P w K mg base ad b T) rfl rfl (by decide)
def pk_lowest : Σ' ms : MS, ∀ (P : Program) (w : World) (K : PySem.W.Frag) (mg : Str → Option Value) (base : Heap) (ad : Nat → Addr) (b : Bool), Facts P w K mg base ad → Body P w K mg base (GG b K ad) 2 (ad 33) ["top", "bottom", "by"] "lowest" st_lowest ms :=
  ⟨_, fun P w K mg base ad b T cdv A fr s H E c => ss_cons (s_set (i := 2) c rfl (by mem_news) (v_calls (FnA.call c ((ok_common T).mono (by decide))) (by rfl) T.g_common (l_cons (v_var (i := 0) rfl (by leaf_len) (by decide) (by decide)) (l_cons (v_var (i := 1) rfl (by leaf_len) (by decide) (by decide)) l_nil rfl) rfl) rfl (by decide)) rfl (.inl rfl)) (ss_cons (s_ret (v_tup (l_cons (v_bin (o_fdiv) (v_var (i := 0) rfl (by leaf_len) (by decide) (by decide)) (v_var (i := 2) rfl (by leaf_len) (by decide) (by decide))) (l_cons (v_bin (o_fdiv) (v_var (i := 1) rfl (by leaf_len) (by decide) (by decide)) (v_var (i := 2) rfl (by leaf_len) (by decide) (by decide))) l_nil rfl) rfl) (by decide))) ss_nil)⟩
def sem_lowest : List D → M D := runFn 2 3 pk_lowest.1
theorem ok_lowest (T : Facts P w K mg base ad) : FnA P w K mg base (GG b K ad) 4 (ad 33) sem_lowest := by
  obtain ⟨fd, F⟩ := T.f_lowest
  exact fna_rule F sc_lowest (F.binds fun _ _ _ _ _ _ us hl => match us, hl with | [_, _], _ => rfl) rfl (pk_lowest.2 P w K mg base ad b T) rfl rfl (by decide)
def pk_pair_of : Σ' ms : MS, ∀ (P : Program) (w : World) (K : PySem.W.Frag) (mg : Str → Option Value) (base : Heap) (ad : Nat → Addr) (b : Bool), Facts P w K mg base ad → Body P w K mg base (GG b K ad) 4 (ad 34) ["number"] "pair_of" st_pair_of ms :=
  ⟨_, fun P w K mg base ad b T cdv A fr s H E c => ss_cons (s_ret (v_ite (b_val (v_callB (c_isa c.cK (T.isa _ _ rfl)) (by rfl) T.z_isinstance (by decide +kernel) (l_cons (v_var (i := 0) rfl (by leaf_len) (by decide) (by decide)) (l_cons (v_ty (t := .tuple) (by rfl) T.z_tuple (by decide +kernel) (by decide) (by decide)) l_nil rfl) rfl) rfl (by decide) (by decide)) (fun _ => rfl)) (v_calls (FnA.call c ((ok_lowest T).mono (by decide))) (by rfl) T.g_lowest (l_cons (v_ix c.cK (v_var (i := 0) rfl (by leaf_len) (by decide) (by decide)) v_int rfl) (l_cons (v_ix c.cK (v_var (i := 0) rfl (by leaf_len) (by decide) (by decide)) v_int rfl) l_nil rfl) rfl) rfl (by decide)) (v_tup (l_cons (v_var (i := 0) rfl (by leaf_len) (by decide) (by decide)) (l_cons v_int l_nil rfl) rfl) (by decide)))) ss_nil⟩
def sem_pair_of : List D → M D := runFn 1 1 pk_pair_of.1
theorem ok_pair_of (T : Facts P w K mg base ad) : FnA P w K mg base (GG b K ad) 6 (ad 34) sem_pair_of := by
  obtain ⟨fd, F⟩ := T.f_pair_of
  exact fna_rule F sc_pair_of (F.binds fun _ _ _ _ _ _ us hl => match us, hl with | [_], _ => rfl) rfl (pk_pair_of.2 P w K mg base ad b T) rfl rfl (by decide)
def pk_LadderX_initX : Σ' ms : MS, ∀ (P : Program) (w : World) (K : PySem.W.Frag) (mg : Str → Option Value) (base : Heap) (ad : Nat → Addr) (b : Bool), Facts P w K mg base ad → BodyS P w K mg base (GG b K ad) 10 (ad 35) (ad 2035) (ad 3035) ["self", "pattern", "load", "__class__"] "__init__" "Ladder.__init__" st_LadderX_initX ms :=
  ⟨_, fun P w K mg base ad b T A fr s H E c => sa_cons (sa_st (s_expr (v_calls (FnA.call c ((ok_check_pattern T).mono (by decide))) (by rfl) T.g_check_pattern (l_cons (v_var (i := 1) rfl (by leaf_len) (by decide) (by decide)) l_nil rfl) rfl (by decide)) rfl)) (sa_cons (sa_st (s_expr (v_calls (FnA.call c ((ok_check_resistance T).mono (by decide))) (by rfl) T.g_check_resistance (l_cons (v_var (i := 2) rfl (by leaf_len) (by decide) (by decide)) l_nil rfl) rfl (by decide)) rfl)) (sa_cons (s_super (c0 := 5) c T.u_LadderX_initX rfl (let ⟨_, F⟩ := T.f_RunX_initX; ((fns_rule F sc_RunX_initX (F.binds fun _ _ _ _ _ _ us hl => match us, hl with | [_, _], _ => rfl) rfl (pk_RunX_initX.2 P w K mg base ad b T)).mono (by decide))) rfl rfl (by decide) T.z_super (by decide +kernel) (by decide +kernel) rfl (by decide +kernel) rfl (l_cons (v_calls (FnA.call c ((ok_pair_of T).mono (by decide))) (by rfl) T.g_pair_of (l_cons (v_var (i := 2) rfl (by leaf_len) (by decide) (by decide)) l_nil rfl) rfl (by decide)) l_nil rfl) rfl rfl (swap_free rfl) rfl) (sa_of (ss_cons (s_setF (i := 0) (T_fld_pattern T ⟨rfl, rfl, rfl, rfl, rfl⟩) rfl (by leaf_len) (by decide) (by decide) (v_var (i := 1) rfl (by leaf_len) (by decide) (by decide)) rfl) (ss_nil)))))⟩
def sem_LadderX_initX : List D → M D := mkFn 5 3 4 pk_LadderX_initX.1
theorem mk_Ladder (T : Facts P w K mg base ad) : ClA P w K mg base (GG b K ad) 12 5 sem_LadderX_initX := by
  exact cla_super T.u_LadderX_initX sc_LadderX_initX rfl (pk_LadderX_initX.2 P w K mg base ad b T) (fun _ _ _ _ _ us hl => match us, hl with | [_, _, _], _ => rfl) T.m_Ladder rfl rfl (by decide)
def pk_ladder_told : Σ' ms : MS, ∀ (P : Program) (w : World) (K : PySem.W.Frag) (mg : Str → Option Value) (base : Heap) (ad : Nat → Addr) (b : Bool), Facts P w K mg base ad → Body P w K mg base (GG b K ad) 14 (ad 36) ["pieces", "load", "pattern"] "ladder_told" st_ladder_told ms :=
  ⟨_, fun P w K mg base ad b T cdv A fr s H E c => ss_cons (s_set (i := 2) c rfl (by mem_news) (v_calls (FnA.call c ((ok_pattern_told T).mono (by decide))) (by rfl) T.g_pattern_told (l_cons (v_var (i := 0) rfl (by leaf_len) (by decide) (by decide)) l_nil rfl) rfl (by decide)) rfl (.inl rfl)) (ss_cons (s_ret (v_ite (b_of (w_or (b_cmp (o_is) (v_var (i := 2) rfl (by leaf_len) (by decide) (by decide)) v_none rfl) (w_or1 (b_not (b_val (v_calls (FnA.call c ((ok_is_resistance T).mono (by decide))) (by rfl) T.g_is_resistance (l_cons (v_var (i := 1) rfl (by leaf_len) (by decide) (by decide)) l_nil rfl) rfl (by decide)) (fun _ => rfl)))))) v_none (v_calls (ClA.call c ((mk_Ladder T).mono (by decide))) (by rfl) T.k_Ladder (l_cons (v_var (i := 2) rfl (by leaf_len) (by decide) (by decide)) (l_cons (v_var (i := 1) rfl (by leaf_len) (by decide) (by decide)) l_nil rfl) rfl) rfl (by decide)))) ss_nil)⟩
def sem_ladder_told : List D → M D := runFn 2 3 pk_ladder_told.1
theorem ok_ladder_told (T : Facts P w K mg base ad) : FnA P w K mg base (GG b K ad) 16 (ad 36) sem_ladder_told := by
  obtain ⟨fd, F⟩ := T.f_ladder_told
  exact fna_rule F sc_ladder_told (F.binds fun _ _ _ _ _ _ us hl => match us, hl with | [_, _], _ => rfl) rfl (pk_ladder_told.2 P w K mg base ad b T) rfl rfl (by decide)
def pk_sign_of : Σ' ms : MS, ∀ (P : Program) (w : World) (K : PySem.W.Frag) (mg : Str → Option Value) (base : Heap) (ad : Nat → Addr) (b : Bool), Facts P w K mg base ad → Body P w K mg base (GG b K ad) 0 (ad 37) ["number"] "sign_of" st_sign_of ms :=
  ⟨_, fun P w K mg base ad b T cdv A fr s H E c => ss_cons (s_ret (v_ite (b_cmp (o_gt) (v_var (i := 0) rfl (by leaf_len) (by decide) (by decide)) v_int rfl) v_int (v_ite (b_cmp (o_lt) (v_var (i := 0) rfl (by leaf_len) (by decide) (by decide)) v_int rfl) (v_neg v_int) v_int))) ss_nil⟩
def sem_sign_of : List D → M D := runFn 1 1 pk_sign_of.1
theorem ok_sign_of (T : Facts P w K mg base ad) : FnA P w K mg base (GG b K ad) 2 (ad 37) sem_sign_of := by
  obtain ⟨fd, F⟩ := T.f_sign_of
  exact fna_rule F sc_sign_of (F.binds fun _ _ _ _ _ _ us hl => match us, hl with | [_], _ => rfl) rfl (pk_sign_of.2 P w K mg base ad b T) rfl rfl (by decide)
def pk_compare : Σ' ms : MS, ∀ (P : Program) (w : World) (K : PySem.W.Frag) (mg : Str → Option Value) (base : Heap) (ad : Nat → Addr) (b : Bool), Facts P w K mg base ad → Body P w K mg base (GG b K ad) 2 (ad 38) ["one", "other"] "compare" st_compare ms :=
  ⟨_, fun P w K mg base ad b T cdv A fr s H E c => ss_cons (s_ret (v_calls (FnA.call c ((ok_sign_of T).mono (by decide))) (by rfl) T.g_sign_of (l_cons (v_bin (o_sub) (v_bin (o_mul c.cK) (v_ix c.cK (v_var (i := 0) rfl (by leaf_len) (by decide) (by decide)) v_int rfl) (v_ix c.cK (v_var (i := 1) rfl (by leaf_len) (by decide) (by decide)) v_int rfl)) (v_bin (o_mul c.cK) (v_ix c.cK (v_var (i := 1) rfl (by leaf_len) (by decide) (by decide)) v_int rfl) (v_ix c.cK (v_var (i := 0) rfl (by leaf_len) (by decide) (by decide)) v_int rfl))) l_nil rfl) rfl (by decide))) ss_nil⟩
def sem_compare : List D → M D := runFn 2 2 pk_compare.1
theorem ok_compare (T : Facts P w K mg base ad) : FnA P w K mg base (GG b K ad) 4 (ad 38) sem_compare := by
  obtain ⟨fd, F⟩ := T.f_compare
  exact fna_rule F sc_compare (F.binds fun _ _ _ _ _ _ us hl => match us, hl with | [_, _], _ => rfl) rfl (pk_compare.2 P w K mg base ad b T) rfl rfl (by decide)
def pk_led : Σ' ms : MS, ∀ (P : Program) (w : World) (K : PySem.W.Frag) (mg : Str → Option Value) (base : Heap) (ad : Nat → Addr) (b : Bool), Facts P w K mg base ad → Body P w K mg base (GG b K ad) 0 (ad 39) ["chain", "pair", "a", "b", "c", "d"] "led" st_led ms :=
  ⟨_, fun P w K mg base ad b T cdv A fr s H E c => ss_cons (s_asg (v_var (i := 0) rfl (by leaf_len) (by decide) (by decide)) (g_tup c.cK c.calm (gs_cons (g_name (i := 2) c.nd rfl (by mem_news) (.inl rfl)) (gs_cons (g_name (i := 3) c.nd rfl (by mem_news) (.inl rfl)) (gs_cons (g_name (i := 4) c.nd rfl (by mem_news) (.inl rfl)) (gs_cons (g_name (i := 5) c.nd rfl (by mem_news) (.inl rfl)) gs_nil rfl) rfl) rfl) rfl) rfl rfl) rfl rfl rfl) (ss_cons (s_ret (v_tup (l_cons (v_bin (o_add c.cK) (v_bin (o_mul c.cK) (v_var (i := 2) rfl (by leaf_len) (by decide) (by decide)) (v_ix c.cK (v_var (i := 1) rfl (by leaf_len) (by decide) (by decide)) v_int rfl)) (v_bin (o_mul c.cK) (v_var (i := 3) rfl (by leaf_len) (by decide) (by decide)) (v_ix c.cK (v_var (i := 1) rfl (by leaf_len) (by decide) (by decide)) v_int rfl))) (l_cons (v_bin (o_add c.cK) (v_bin (o_mul c.cK) (v_var (i := 4) rfl (by leaf_len) (by decide) (by decide)) (v_ix c.cK (v_var (i := 1) rfl (by leaf_len) (by decide) (by decide)) v_int rfl)) (v_bin (o_mul c.cK) (v_var (i := 5) rfl (by leaf_len) (by decide) (by decide)) (v_ix c.cK (v_var (i := 1) rfl (by leaf_len) (by decide) (by decide)) v_int rfl))) l_nil rfl) rfl) (by decide))) ss_nil)⟩
def sem_led : List D → M D := runFn 2 6 pk_led.1
theorem ok_led (T : Facts P w K mg base ad) : FnA P w K mg base (GG b K ad) 2 (ad 39) sem_led := by
  obtain ⟨fd, F⟩ := T.f_led
  exact fna_rule F sc_led (F.binds fun _ _ _ _ _ _ us hl => match us, hl with | [_, _], _ => rfl) rfl (pk_led.2 P w K mg base ad b T) rfl rfl (by decide)
def pk_shows_bound : Σ' ms : MS, ∀ (P : Program) (w : World) (K : PySem.W.Frag) (mg : Str → Option Value) (base : Heap) (ad : Nat → Addr) (b : Bool), Facts P w K mg base ad → Body P w K mg base (GG b K ad) 16 (ad 40) ["claim", "paper", "way", "run", "bound", "part"] "shows_bound" st_shows_bound ms :=
  ⟨_, fun P w K mg base ad b T cdv A fr s H E c => ss_cons (s_set (i := 3) c rfl (by mem_news) (v_calls (FnA.call c ((ok_ladder_told T).mono (by decide))) (by rfl) T.g_ladder_told (l_cons (v_ix c.cK (v_var (i := 0) rfl (by leaf_len) (by decide) (by decide)) v_int rfl) (l_cons (v_ix c.cK (v_var (i := 0) rfl (by leaf_len) (by decide) (by decide)) v_int rfl) l_nil rfl) rfl) rfl (by decide)) rfl (.inl rfl)) (ss_cons (s_if (b_of (w_or (b_cmp (o_is) (v_var (i := 3) rfl (by leaf_len) (by decide) (by decide)) v_none rfl) (w_or (b_not (b_val (v_calls (FnA.call c ((ok_is_resistance T).mono (by decide))) (by rfl) T.g_is_resistance (l_cons (v_ix c.cK (v_var (i := 0) rfl (by leaf_len) (by decide) (by decide)) v_int rfl) l_nil rfl) rfl (by decide)) (fun _ => rfl))) (w_or1 (b_not (b_val (v_calls (FnA.call c ((ok_is_number T).mono (by decide))) (by rfl) T.g_is_number (l_cons (v_var (i := 1) rfl (by leaf_len) (by decide) (by decide)) l_nil rfl) rfl (by decide)) (fun _ => rfl))))))) (ss_cons (s_ret v_bool) ss_nil) (ss_nil)) (ss_cons (s_par (i := 4) (j := 5) c rfl rfl (by decide) rfl rfl (l_cons (v_calls (FnA.call c ((ok_pair_of T).mono (by decide))) (by rfl) T.g_pair_of (l_cons (v_ix c.cK (v_var (i := 0) rfl (by leaf_len) (by decide) (by decide)) v_int rfl) l_nil rfl) rfl (by decide)) (l_cons (v_calls (FnA.call c ((ok_pair_of T).mono (by decide))) (by rfl) T.g_pair_of (l_cons (v_var (i := 1) rfl (by leaf_len) (by decide) (by decide)) l_nil rfl) rfl (by decide)) l_nil rfl) rfl) rfl) (ss_cons (s_if (b_of (w_or (b_cmp (o_gt) (v_bin (o_mul c.cK) (v_var (i := 2) rfl (by leaf_len) (by decide) (by decide)) (v_calls (FnA.call c ((ok_compare T).mono (by decide))) (by rfl) T.g_compare (l_cons (v_var (i := 5) rfl (by leaf_len) (by decide) (by decide)) (l_cons (v_var (i := 4) rfl (by leaf_len) (by decide) (by decide)) l_nil rfl) rfl) rfl (by decide))) v_int rfl) (w_or1 (b_cmp (o_gt) (v_bin (o_mul c.cK) (v_var (i := 2) rfl (by leaf_len) (by decide) (by decide)) (v_calls (FnA.call c ((ok_compare T).mono (by decide))) (by rfl) T.g_compare (l_cons (v_attr c (T_attr_first_5 T ⟨rfl, rfl, rfl, rfl, rfl⟩ (by decide)) (v_var (i := 3) rfl (by leaf_len) (by decide) (by decide)) rfl) (l_cons (v_var (i := 5) rfl (by leaf_len) (by decide) (by decide)) l_nil rfl) rfl) rfl (by decide))) v_int rfl)))) (ss_cons (s_ret v_bool) ss_nil) (ss_nil)) (ss_cons (s_ret (v_cmp (o_le) (v_bin (o_mul c.cK) (v_var (i := 2) rfl (by leaf_len) (by decide) (by decide)) (v_calls (FnA.call c ((ok_compare T).mono (by decide))) (by rfl) T.g_compare (l_cons (v_calls (FnA.call c ((ok_led T).mono (by decide))) (by rfl) T.g_led (l_cons (v_attr c (T_attr_chain_1 T ⟨rfl, rfl, rfl, rfl, rfl⟩ (by decide)) (v_attr c (T_attr_pattern_5 T ⟨rfl, rfl, rfl, rfl, rfl⟩ (by decide)) (v_var (i := 3) rfl (by leaf_len) (by decide) (by decide)) rfl) rfl) (l_cons (v_var (i := 5) rfl (by leaf_len) (by decide) (by decide)) l_nil rfl) rfl) rfl (by decide)) (l_cons (v_var (i := 5) rfl (by leaf_len) (by decide) (by decide)) l_nil rfl) rfl) rfl (by decide))) v_int rfl)) ss_nil))))⟩
def sem_shows_bound : List D → M D := runFn 3 6 pk_shows_bound.1
theorem ok_shows_bound (T : Facts P w K mg base ad) : FnA P w K mg base (GG b K ad) 18 (ad 40) sem_shows_bound := by
  obtain ⟨fd, F⟩ := T.f_shows_bound
  exact fna_rule F sc_shows_bound (F.binds fun _ _ _ _ _ _ us hl => match us, hl with | [_, _, _], _ => rfl) rfl (pk_shows_bound.2 P w K mg base ad b T) rfl rfl (by decide)
def pk_shows_most : Σ' ms : MS, ∀ (P : Program) (w : World) (K : PySem.W.Frag) (mg : Str → Option Value) (base : Heap) (ad : Nat → Addr) (b : Bool), Facts P w K mg base ad → Body P w K mg base (GG b K ad) 18 (ad 41) ["claim", "paper"] "shows_most" st_shows_most ms :=
  ⟨_, fun P w K mg base ad b T cdv A fr s H E c => ss_cons (s_ret (v_calls (FnA.call c ((ok_shows_bound T).mono (by decide))) (by rfl) T.g_shows_bound (l_cons (v_var (i := 0) rfl (by leaf_len) (by decide) (by decide)) (l_cons (v_var (i := 1) rfl (by leaf_len) (by decide) (by decide)) (l_cons v_int l_nil rfl) rfl) rfl) rfl (by decide))) ss_nil⟩
def sem_shows_most : List D → M D := runFn 2 2 pk_shows_most.1
theorem ok_shows_most (T : Facts P w K mg base ad) : FnA P w K mg base (GG b K ad) 20 (ad 41) sem_shows_most := by
  obtain ⟨fd, F⟩ := T.f_shows_most
  exact fna_rule F sc_shows_most (F.binds fun _ _ _ _ _ _ us hl => match us, hl with | [_, _], _ => rfl) rfl (pk_shows_most.2 P w K mg base ad b T) rfl rfl (by decide)
def pk_difference : Σ' ms : MS, ∀ (P : Program) (w : World) (K : PySem.W.Frag) (mg : Str → Option Value) (base : Heap) (ad : Nat → Addr) (b : Bool), Facts P w K mg base ad → Body P w K mg base (GG b K ad) 0 (ad 42) ["one", "other", "a", "b", "c", "d", "e", "f", "g", "h"] "difference" st_difference ms :=
  ⟨_, fun P w K mg base ad b T cdv A fr s H E c => ss_cons (s_asg (v_var (i := 0) rfl (by leaf_len) (by decide) (by decide)) (g_tup c.cK c.calm (gs_cons (g_name (i := 2) c.nd rfl (by mem_news) (.inl rfl)) (gs_cons (g_name (i := 3) c.nd rfl (by mem_news) (.inl rfl)) (gs_cons (g_name (i := 4) c.nd rfl (by mem_news) (.inl rfl)) (gs_cons (g_name (i := 5) c.nd rfl (by mem_news) (.inl rfl)) gs_nil rfl) rfl) rfl) rfl) rfl rfl) rfl rfl rfl) (ss_cons (s_asg (v_var (i := 1) rfl (by leaf_len) (by decide) (by decide)) (g_tup c.cK c.calm (gs_cons (g_name (i := 6) c.nd rfl (by mem_news) (.inl rfl)) (gs_cons (g_name (i := 7) c.nd rfl (by mem_news) (.inl rfl)) (gs_cons (g_name (i := 8) c.nd rfl (by mem_news) (.inl rfl)) (gs_cons (g_name (i := 9) c.nd rfl (by mem_news) (.inl rfl)) gs_nil rfl) rfl) rfl) rfl) rfl rfl) rfl rfl rfl) (ss_cons (s_ret (v_tup (l_cons (v_bin (o_sub) (v_bin (o_mul c.cK) (v_var (i := 2) rfl (by leaf_len) (by decide) (by decide)) (v_var (i := 8) rfl (by leaf_len) (by decide) (by decide))) (v_bin (o_mul c.cK) (v_var (i := 6) rfl (by leaf_len) (by decide) (by decide)) (v_var (i := 4) rfl (by leaf_len) (by decide) (by decide)))) (l_cons (v_bin (o_sub) (v_bin (o_sub) (v_bin (o_add c.cK) (v_bin (o_mul c.cK) (v_var (i := 2) rfl (by leaf_len) (by decide) (by decide)) (v_var (i := 9) rfl (by leaf_len) (by decide) (by decide))) (v_bin (o_mul c.cK) (v_var (i := 3) rfl (by leaf_len) (by decide) (by decide)) (v_var (i := 8) rfl (by leaf_len) (by decide) (by decide)))) (v_bin (o_mul c.cK) (v_var (i := 6) rfl (by leaf_len) (by decide) (by decide)) (v_var (i := 5) rfl (by leaf_len) (by decide) (by decide)))) (v_bin (o_mul c.cK) (v_var (i := 7) rfl (by leaf_len) (by decide) (by decide)) (v_var (i := 4) rfl (by leaf_len) (by decide) (by decide)))) (l_cons (v_bin (o_sub) (v_bin (o_mul c.cK) (v_var (i := 3) rfl (by leaf_len) (by decide) (by decide)) (v_var (i := 9) rfl (by leaf_len) (by decide) (by decide))) (v_bin (o_mul c.cK) (v_var (i := 7) rfl (by leaf_len) (by decide) (by decide)) (v_var (i := 5) rfl (by leaf_len) (by decide) (by decide)))) l_nil rfl) rfl) rfl) (by decide))) ss_nil))⟩
def sem_difference : List D → M D := runFn 2 10 pk_difference.1
theorem ok_difference (T : Facts P w K mg base ad) : FnA P w K mg base (GG b K ad) 2 (ad 42) sem_difference := by
  obtain ⟨fd, F⟩ := T.f_difference
  exact fna_rule F sc_difference (F.binds fun _ _ _ _ _ _ us hl => match us, hl with | [_, _], _ => rfl) rfl (pk_difference.2 P w K mg base ad b T) rfl rfl (by decide)
def pk_is_never_below : Σ' ms : MS, ∀ (P : Program) (w : World) (K : PySem.W.Frag) (mg : Str → Option Value) (base : Heap) (ad : Nat → Addr) (b : Bool), Facts P w K mg base ad → Body P w K mg base (GG b K ad) 0 (ad 43) ["high", "middle", "low"] "is_never_below" st_is_never_below ms :=
  ⟨_, fun P w K mg base ad b T cdv A fr s H E c => ss_cons (s_if (b_of (w_or (b_cmp (o_lt) (v_var (i := 2) rfl (by leaf_len) (by decide) (by decide)) v_int rfl) (w_or1 (b_cmp (o_lt) (v_var (i := 0) rfl (by leaf_len) (by decide) (by decide)) v_int rfl)))) (ss_cons (s_ret v_bool) ss_nil) (ss_nil)) (ss_cons (s_ret (v_or (v_cmp (o_ge) (v_var (i := 1) rfl (by leaf_len) (by decide) (by decide)) v_int rfl) (v_one (v_cmp (o_le) (v_bin (o_mul c.cK) (v_var (i := 1) rfl (by leaf_len) (by decide) (by decide)) (v_var (i := 1) rfl (by leaf_len) (by decide) (by decide))) (v_bin (o_mul c.cK) (v_bin (o_mul c.cK) v_int (v_var (i := 0) rfl (by leaf_len) (by decide) (by decide))) (v_var (i := 2) rfl (by leaf_len) (by decide) (by decide))) rfl)))) ss_nil)⟩
def sem_is_never_below : List D → M D := runFn 3 3 pk_is_never_below.1
theorem ok_is_never_below (T : Facts P w K mg base ad) : FnA P w K mg base (GG b K ad) 2 (ad 43) sem_is_never_below := by
  obtain ⟨fd, F⟩ := T.f_is_never_below
  exact fna_rule F sc_is_never_below (F.binds fun _ _ _ _ _ _ us hl => match us, hl with | [_, _, _], _ => rfl) rfl (pk_is_never_below.2 P w K mg base ad b T) rfl rfl (by decide)
def pk_shows_never : Σ' ms : MS, ∀ (P : Program) (w : World) (K : PySem.W.Frag) (mg : Str → Option Value) (base : Heap) (ad : Nat → Addr) (b : Bool), Facts P w K mg base ad → Body P w K mg base (GG b K ad) 14 (ad 44) ["claim", "paper", "pattern", "other", "high", "middle", "low"] "shows_never" st_shows_never ms :=
  ⟨_, fun P w K mg base ad b T cdv A fr s H E c => ss_cons (s_par (i := 2) (j := 3) c rfl rfl (by decide) rfl rfl (l_cons (v_calls (FnA.call c ((ok_pattern_told T).mono (by decide))) (by rfl) T.g_pattern_told (l_cons (v_ix c.cK (v_var (i := 0) rfl (by leaf_len) (by decide) (by decide)) v_int rfl) l_nil rfl) rfl (by decide)) (l_cons (v_calls (FnA.call c ((ok_pattern_told T).mono (by decide))) (by rfl) T.g_pattern_told (l_cons (v_ix c.cK (v_var (i := 0) rfl (by leaf_len) (by decide) (by decide)) v_int rfl) l_nil rfl) rfl (by decide)) l_nil rfl) rfl) rfl) (ss_cons (s_if (b_of (w_or (b_cmp (o_is) (v_var (i := 2) rfl (by leaf_len) (by decide) (by decide)) v_none rfl) (w_or (b_cmp (o_is) (v_var (i := 3) rfl (by leaf_len) (by decide) (by decide)) v_none rfl) (w_or1 (b_cmp (o_neZ c.cK c.rm) (v_var (i := 1) rfl (by leaf_len) (by decide) (by decide)) (v_tup l_nil (by decide)) rfl))))) (ss_cons (s_ret v_bool) ss_nil) (ss_nil)) (ss_cons (s_asg (v_calls (FnA.call c ((ok_difference T).mono (by decide))) (by rfl) T.g_difference (l_cons (v_attr c (T_attr_chain_1 T ⟨rfl, rfl, rfl, rfl, rfl⟩ (by decide)) (v_var (i := 3) rfl (by leaf_len) (by decide) (by decide)) rfl) (l_cons (v_attr c (T_attr_chain_1 T ⟨rfl, rfl, rfl, rfl, rfl⟩ (by decide)) (v_var (i := 2) rfl (by leaf_len) (by decide) (by decide)) rfl) l_nil rfl) rfl) rfl (by decide)) (g_tup c.cK c.calm (gs_cons (g_name (i := 4) c.nd rfl (by mem_news) (.inl rfl)) (gs_cons (g_name (i := 5) c.nd rfl (by mem_news) (.inl rfl)) (gs_cons (g_name (i := 6) c.nd rfl (by mem_news) (.inl rfl)) gs_nil rfl) rfl) rfl) rfl rfl) rfl rfl rfl) (ss_cons (s_ret (v_calls (FnA.call c ((ok_is_never_below T).mono (by decide))) (by rfl) T.g_is_never_below (l_cons (v_var (i := 4) rfl (by leaf_len) (by decide) (by decide)) (l_cons (v_var (i := 5) rfl (by leaf_len) (by decide) (by decide)) (l_cons (v_var (i := 6) rfl (by leaf_len) (by decide) (by decide)) l_nil rfl) rfl) rfl) rfl (by decide))) ss_nil)))⟩
def sem_shows_never : List D → M D := runFn 2 7 pk_shows_never.1
theorem ok_shows_never (T : Facts P w K mg base ad) : FnA P w K mg base (GG b K ad) 16 (ad 44) sem_shows_never := by
  obtain ⟨fd, F⟩ := T.f_shows_never
  exact fna_rule F sc_shows_never (F.binds fun _ _ _ _ _ _ us hl => match us, hl with | [_, _], _ => rfl) rfl (pk_shows_never.2 P w K mg base ad b T) rfl rfl (by decide)
def pk_shown : Σ' ms : MS, ∀ (P : Program) (w : World) (K : PySem.W.Frag) (mg : Str → Option Value) (base : Heap) (ad : Nat → Addr) (b : Bool), Facts P w K mg base ad → Body P w K mg base (GG b K ad) 4 (ad 45) ["chain", "pair", "top", "bottom"] "shown" st_shown ms :=
  ⟨_, fun P w K mg base ad b T cdv A fr s H E c => ss_cons (s_asg (v_calls (FnA.call c ((ok_led T).mono (by decide))) (by rfl) T.g_led (l_cons (v_var (i := 0) rfl (by leaf_len) (by decide) (by decide)) (l_cons (v_var (i := 1) rfl (by leaf_len) (by decide) (by decide)) l_nil rfl) rfl) rfl (by decide)) (g_tup c.cK c.calm (gs_cons (g_name (i := 2) c.nd rfl (by mem_news) (.inl rfl)) (gs_cons (g_name (i := 3) c.nd rfl (by mem_news) (.inl rfl)) gs_nil rfl) rfl) rfl rfl) rfl rfl rfl) (ss_cons (s_ret (v_calls (FnA.call c ((ok_lowest T).mono (by decide))) (by rfl) T.g_lowest (l_cons (v_var (i := 2) rfl (by leaf_len) (by decide) (by decide)) (l_cons (v_var (i := 3) rfl (by leaf_len) (by decide) (by decide)) l_nil rfl) rfl) rfl (by decide))) ss_nil)⟩
def sem_shown : List D → M D := runFn 2 4 pk_shown.1
theorem ok_shown (T : Facts P w K mg base ad) : FnA P w K mg base (GG b K ad) 6 (ad 45) sem_shown := by
  obtain ⟨fd, F⟩ := T.f_shown
  exact fna_rule F sc_shown (F.binds fun _ _ _ _ _ _ us hl => match us, hl with | [_, _], _ => rfl) rfl (pk_shown.2 P w K mg base ad b T) rfl rfl (by decide)
def pk_shows_more : Σ' ms : MS, ∀ (P : Program) (w : World) (K : PySem.W.Frag) (mg : Str → Option Value) (base : Heap) (ad : Nat → Addr) (b : Bool), Facts P w K mg base ad → Body P w K mg base (GG b K ad) 14 (ad 46) ["claim", "paper", "pattern", "other", "load"] "shows_more" st_shows_more ms :=
  ⟨_, fun P w K mg base ad b T cdv A fr s H E c => ss_cons (s_par (i := 2) (j := 3) c rfl rfl (by decide) rfl rfl (l_cons (v_calls (FnA.call c ((ok_pattern_told T).mono (by decide))) (by rfl) T.g_pattern_told (l_cons (v_ix c.cK (v_var (i := 0) rfl (by leaf_len) (by decide) (by decide)) v_int rfl) l_nil rfl) rfl (by decide)) (l_cons (v_calls (FnA.call c ((ok_pattern_told T).mono (by decide))) (by rfl) T.g_pattern_told (l_cons (v_ix c.cK (v_var (i := 0) rfl (by leaf_len) (by decide) (by decide)) v_int rfl) l_nil rfl) rfl (by decide)) l_nil rfl) rfl) rfl) (ss_cons (s_if (b_of (w_or (b_cmp (o_is) (v_var (i := 2) rfl (by leaf_len) (by decide) (by decide)) v_none rfl) (w_or (b_cmp (o_is) (v_var (i := 3) rfl (by leaf_len) (by decide) (by decide)) v_none rfl) (w_or (b_cmp (o_neZ c.cK c.rm) (v_var (i := 1) rfl (by leaf_len) (by decide) (by decide)) (v_tup l_nil (by decide)) rfl) (w_or1 (b_not (b_val (v_calls (FnA.call c ((ok_is_number T).mono (by decide))) (by rfl) T.g_is_number (l_cons (v_ix c.cK (v_var (i := 0) rfl (by leaf_len) (by decide) (by decide)) v_int rfl) l_nil rfl) rfl (by decide)) (fun _ => rfl)))))))) (ss_cons (s_ret v_bool) ss_nil) (ss_nil)) (ss_cons (s_set (i := 4) c rfl (by mem_news) (v_calls (FnA.call c ((ok_pair_of T).mono (by decide))) (by rfl) T.g_pair_of (l_cons (v_ix c.cK (v_var (i := 0) rfl (by leaf_len) (by decide) (by decide)) v_int rfl) l_nil rfl) rfl (by decide)) rfl (.inl rfl)) (ss_cons (s_ret (v_cmp (o_gt) (v_calls (FnA.call c ((ok_compare T).mono (by decide))) (by rfl) T.g_compare (l_cons (v_calls (FnA.call c ((ok_shown T).mono (by decide))) (by rfl) T.g_shown (l_cons (v_attr c (T_attr_chain_1 T ⟨rfl, rfl, rfl, rfl, rfl⟩ (by decide)) (v_var (i := 2) rfl (by leaf_len) (by decide) (by decide)) rfl) (l_cons (v_var (i := 4) rfl (by leaf_len) (by decide) (by decide)) l_nil rfl) rfl) rfl (by decide)) (l_cons (v_calls (FnA.call c ((ok_shown T).mono (by decide))) (by rfl) T.g_shown (l_cons (v_attr c (T_attr_chain_1 T ⟨rfl, rfl, rfl, rfl, rfl⟩ (by decide)) (v_var (i := 3) rfl (by leaf_len) (by decide) (by decide)) rfl) (l_cons (v_var (i := 4) rfl (by leaf_len) (by decide) (by decide)) l_nil rfl) rfl) rfl (by decide)) l_nil rfl) rfl) rfl (by decide)) v_int rfl)) ss_nil)))⟩
def sem_shows_more : List D → M D := runFn 2 5 pk_shows_more.1
theorem ok_shows_more (T : Facts P w K mg base ad) : FnA P w K mg base (GG b K ad) 16 (ad 46) sem_shows_more := by
  obtain ⟨fd, F⟩ := T.f_shows_more
  exact fna_rule F sc_shows_more (F.binds fun _ _ _ _ _ _ us hl => match us, hl with | [_, _], _ => rfl) rfl (pk_shows_more.2 P w K mg base ad b T) rfl rfl (by decide)
def pk_is_rails : Σ' ms : MS, ∀ (P : Program) (w : World) (K : PySem.W.Frag) (mg : Str → Option Value) (base : Heap) (ad : Nat → Addr) (b : Bool), Facts P w K mg base ad → Body P w K mg base (GG b K ad) 0 (ad 47) ["chain"] "is_rails" st_is_rails ms :=
  ⟨_, fun P w K mg base ad b T cdv A fr s H E c => ss_cons (s_ret (v_cmp (o_eq c.cK c.rm) (v_ix c.cK (v_var (i := 0) rfl (by leaf_len) (by decide) (by decide)) v_int rfl) v_int rfl)) ss_nil⟩
def sem_is_rails : List D → M D := runFn 1 1 pk_is_rails.1
theorem ok_is_rails (T : Facts P w K mg base ad) : FnA P w K mg base (GG b K ad) 2 (ad 47) sem_is_rails := by
  obtain ⟨fd, F⟩ := T.f_is_rails
  exact fna_rule F sc_is_rails (F.binds fun _ _ _ _ _ _ us hl => match us, hl with | [_], _ => rfl) rfl (pk_is_rails.2 P w K mg base ad b T) rfl rfl (by decide)
def pk_is_rungs : Σ' ms : MS, ∀ (P : Program) (w : World) (K : PySem.W.Frag) (mg : Str → Option Value) (base : Heap) (ad : Nat → Addr) (b : Bool), Facts P w K mg base ad → Body P w K mg base (GG b K ad) 0 (ad 48) ["chain"] "is_rungs" st_is_rungs ms :=
  ⟨_, fun P w K mg base ad b T cdv A fr s H E c => ss_cons (s_ret (v_cmp (o_eq c.cK c.rm) (v_ix c.cK (v_var (i := 0) rfl (by leaf_len) (by decide) (by decide)) v_int rfl) v_int rfl)) ss_nil⟩
def sem_is_rungs : List D → M D := runFn 1 1 pk_is_rungs.1
theorem ok_is_rungs (T : Facts P w K mg base ad) : FnA P w K mg base (GG b K ad) 2 (ad 48) sem_is_rungs := by
  obtain ⟨fd, F⟩ := T.f_is_rungs
  exact fna_rule F sc_is_rungs (F.binds fun _ _ _ _ _ _ us hl => match us, hl with | [_], _ => rfl) rfl (pk_is_rungs.2 P w K mg base ad b T) rfl rfl (by decide)
def pk_root_below : Σ' ms : MS, ∀ (P : Program) (w : World) (K : PySem.W.Frag) (mg : Str → Option Value) (base : Heap) (ad : Nat → Addr) (b : Bool), Facts P w K mg base ad → Body P w K mg base (GG b K ad) 0 (ad 49) ["number", "guess", "better"] "root_below" st_root_below ms :=
  ⟨_, fun P w K mg base ad b T cdv A fr s H E c => ss_cons (s_if (b_cmp (o_eq c.cK c.rm) (v_var (i := 0) rfl (by leaf_len) (by decide) (by decide)) v_int rfl) (ss_cons (s_ret v_int) ss_nil) (ss_nil)) (ss_cons (s_set (i := 1) c rfl (by mem_news) v_int rfl (.inl rfl)) (ss_cons (s_while c (b_cmp (o_le) (v_bin (o_mul c.cK) (v_var (i := 1) rfl (by leaf_len) (by decide) (by decide)) (v_var (i := 1) rfl (by leaf_len) (by decide) (by decide))) (v_var (i := 0) rfl (by leaf_len) (by decide) (by decide)) rfl) (ss_cons (s_set (i := 1) c rfl (by mem_news) (v_bin (o_mul c.cK) v_int (v_var (i := 1) rfl (by leaf_len) (by decide) (by decide))) rfl (.inl rfl)) (ss_nil))) (ss_cons (s_set (i := 2) c rfl (by mem_news) (v_bin (o_fdiv) (v_bin (o_add c.cK) (v_var (i := 1) rfl (by leaf_len) (by decide) (by decide)) (v_bin (o_fdiv) (v_var (i := 0) rfl (by leaf_len) (by decide) (by decide)) (v_var (i := 1) rfl (by leaf_len) (by decide) (by decide)))) v_int) rfl (.inl rfl)) (ss_cons (s_while c (b_cmp (o_lt) (v_var (i := 2) rfl (by leaf_len) (by decide) (by decide)) (v_var (i := 1) rfl (by leaf_len) (by decide) (by decide)) rfl) (ss_cons (s_set (i := 1) c rfl (by mem_news) (v_var (i := 2) rfl (by leaf_len) (by decide) (by decide)) rfl (.inl rfl)) (ss_cons (s_set (i := 2) c rfl (by mem_news) (v_bin (o_fdiv) (v_bin (o_add c.cK) (v_var (i := 1) rfl (by leaf_len) (by decide) (by decide)) (v_bin (o_fdiv) (v_var (i := 0) rfl (by leaf_len) (by decide) (by decide)) (v_var (i := 1) rfl (by leaf_len) (by decide) (by decide)))) v_int) rfl (.inl rfl)) (ss_nil)))) (ss_cons (s_ret (v_var (i := 1) rfl (by leaf_len) (by decide) (by decide))) ss_nil)))))⟩
def sem_root_below : List D → M D := runFn 1 3 pk_root_below.1
theorem ok_root_below (T : Facts P w K mg base ad) : FnA P w K mg base (GG b K ad) 2 (ad 49) sem_root_below := by
  obtain ⟨fd, F⟩ := T.f_root_below
  exact fna_rule F sc_root_below (F.binds fun _ _ _ _ _ _ us hl => match us, hl with | [_], _ => rfl) rfl (pk_root_below.2 P w K mg base ad b T) rfl rfl (by decide)
def pk_normal : Σ' ms : MS, ∀ (P : Program) (w : World) (K : PySem.W.Frag) (mg : Str → Option Value) (base : Heap) (ad : Nat → Addr) (b : Bool), Facts P w K mg base ad → Body P w K mg base (GG b K ad) 4 (ad 50) ["square", "line", "whole", "top", "bottom", "within", "root", "by"] "normal" st_normal ms :=
  ⟨_, fun P w K mg base ad b T cdv A fr s H E c => ss_cons (s_par (i := 3) (j := 4) c rfl rfl (by decide) rfl rfl (l_cons (v_var (i := 2) rfl (by leaf_len) (by decide) (by decide)) (l_cons (v_var (i := 1) rfl (by leaf_len) (by decide) (by decide)) l_nil rfl) rfl) rfl) (ss_cons (s_if (b_cmp (o_gt) (v_var (i := 0) rfl (by leaf_len) (by decide) (by decide)) v_int rfl) (ss_cons (s_set (i := 5) c rfl (by mem_news) (v_bin (o_add c.cK) (v_bin (o_mul c.cK) (v_var (i := 1) rfl (by leaf_len) (by decide) (by decide)) (v_var (i := 1) rfl (by leaf_len) (by decide) (by decide))) (v_bin (o_mul c.cK) (v_bin (o_mul c.cK) v_int (v_var (i := 0) rfl (by leaf_len) (by decide) (by decide))) (v_var (i := 2) rfl (by leaf_len) (by decide) (by decide)))) rfl (.inl rfl)) (ss_cons (s_set (i := 6) c rfl (by mem_news) (v_calls (FnA.call c ((ok_root_below T).mono (by decide))) (by rfl) T.g_root_below (l_cons (v_var (i := 5) rfl (by leaf_len) (by decide) (by decide)) l_nil rfl) rfl (by decide)) rfl (.inl rfl)) (ss_cons (s_if (b_cmp (o_ne c.cK c.rm) (v_bin (o_mul c.cK) (v_var (i := 6) rfl (by leaf_len) (by decide) (by decide)) (v_var (i := 6) rfl (by leaf_len) (by decide) (by decide))) (v_var (i := 5) rfl (by leaf_len) (by decide) (by decide)) rfl) (ss_cons (s_set (i := 7) c rfl (by mem_news) (v_calls (FnA.call c ((ok_common T).mono (by decide))) (by rfl) T.g_common (l_cons (v_calls (FnA.call c ((ok_common T).mono (by decide))) (by rfl) T.g_common (l_cons (v_var (i := 0) rfl (by leaf_len) (by decide) (by decide)) (l_cons (v_callB (c_abs) (by rfl) T.z_abs (by decide +kernel) (l_cons (v_var (i := 1) rfl (by leaf_len) (by decide) (by decide)) l_nil rfl) rfl (by decide) (by decide)) l_nil rfl) rfl) rfl (by decide)) (l_cons (v_var (i := 2) rfl (by leaf_len) (by decide) (by decide)) l_nil rfl) rfl) rfl (by decide)) rfl (.inl rfl)) (ss_cons (s_ret (v_tup (l_cons (v_bin (o_fdiv) (v_var (i := 0) rfl (by leaf_len) (by decide) (by decide)) (v_var (i := 7) rfl (by leaf_len) (by decide) (by decide))) (l_cons (v_bin (o_fdiv) (v_var (i := 1) rfl (by leaf_len) (by decide) (by decide)) (v_var (i := 7) rfl (by leaf_len) (by decide) (by decide))) (l_cons (v_bin (o_fdiv) (v_var (i := 2) rfl (by leaf_len) (by decide) (by decide)) (v_var (i := 7) rfl (by leaf_len) (by decide) (by decide))) l_nil rfl) rfl) rfl) (by decide))) ss_nil)) (ss_nil)) (ss_cons (s_par (i := 3) (j := 4) c rfl rfl (by decide) rfl rfl (l_cons (v_bin (o_sub) (v_var (i := 6) rfl (by leaf_len) (by decide) (by decide)) (v_var (i := 1) rfl (by leaf_len) (by decide) (by decide))) (l_cons (v_bin (o_mul c.cK) v_int (v_var (i := 0) rfl (by leaf_len) (by decide) (by decide))) l_nil rfl) rfl) rfl) (ss_nil))))) (ss_nil)) (ss_cons (s_asg (v_calls (FnA.call c ((ok_lowest T).mono (by decide))) (by rfl) T.g_lowest (l_cons (v_var (i := 3) rfl (by leaf_len) (by decide) (by decide)) (l_cons (v_var (i := 4) rfl (by leaf_len) (by decide) (by decide)) l_nil rfl) rfl) rfl (by decide)) (g_tup c.cK c.calm (gs_cons (g_name (i := 3) c.nd rfl (by mem_news) (.inl rfl)) (gs_cons (g_name (i := 4) c.nd rfl (by mem_news) (.inl rfl)) gs_nil rfl) rfl) rfl rfl) rfl rfl rfl) (ss_cons (s_ret (v_tup (l_cons v_int (l_cons (v_var (i := 4) rfl (by leaf_len) (by decide) (by decide)) (l_cons (v_var (i := 3) rfl (by leaf_len) (by decide) (by decide)) l_nil rfl) rfl) rfl) (by decide))) ss_nil)))⟩
def sem_normal : List D → M D := runFn 3 8 pk_normal.1
theorem ok_normal (T : Facts P w K mg base ad) : FnA P w K mg base (GG b K ad) 6 (ad 50) sem_normal := by
  obtain ⟨fd, F⟩ := T.f_normal
  exact fna_rule F sc_normal (F.binds fun _ _ _ _ _ _ us hl => match us, hl with | [_, _, _], _ => rfl) rfl (pk_normal.2 P w K mg base ad b T) rfl rfl (by decide)
def pk_ExactX_initX : Σ' ms : MS, ∀ (P : Program) (w : World) (K : PySem.W.Frag) (mg : Str → Option Value) (base : Heap) (ad : Nat → Addr) (b : Bool), Facts P w K mg base ad → Body P w K mg base (GG b K ad) 6 (ad 51) ["self", "square", "line", "whole"] "Exact.__init__" st_ExactX_initX ms :=
  ⟨_, fun P w K mg base ad b T cdv A fr s H E c => ss_cons (s_if (b_not (b_val (v_calls (FnA.call c ((ok_is_between T).mono (by decide))) (by rfl) T.g_is_between (l_cons (v_var (i := 1) rfl (by leaf_len) (by decide) (by decide)) (l_cons v_int (l_cons (v_glob (by rfl) (T.c_MOST _) (by decide)) l_nil rfl) rfl) rfl) rfl (by decide)) (fun _ => rfl))) (ss_never) (ss_nil)) (ss_cons (s_if (b_of (w_or (b_not (b_val (v_calls (FnA.call c ((ok_is_between T).mono (by decide))) (by rfl) T.g_is_between (l_cons (v_var (i := 2) rfl (by leaf_len) (by decide) (by decide)) (l_cons (v_neg (v_glob (by rfl) (T.c_MOST _) (by decide))) (l_cons (v_glob (by rfl) (T.c_MOST _) (by decide)) l_nil rfl) rfl) rfl) rfl (by decide)) (fun _ => rfl))) (w_or1 (b_of (w_and (b_cmp (o_eq c.cK c.rm) (v_var (i := 1) rfl (by leaf_len) (by decide) (by decide)) v_int rfl) (w_and1 (b_cmp (o_lt) (v_var (i := 2) rfl (by leaf_len) (by decide) (by decide)) v_int rfl))))))) (ss_never) (ss_nil)) (ss_cons (s_if (b_of (w_or (b_not (b_val (v_calls (FnA.call c ((ok_is_between T).mono (by decide))) (by rfl) T.g_is_between (l_cons (v_var (i := 3) rfl (by leaf_len) (by decide) (by decide)) (l_cons v_int (l_cons (v_glob (by rfl) (T.c_MOST _) (by decide)) l_nil rfl) rfl) rfl) rfl (by decide)) (fun _ => rfl))) (w_or1 (b_of (w_and (b_cmp (o_gt) (v_var (i := 1) rfl (by leaf_len) (by decide) (by decide)) v_int rfl) (w_and1 (b_cmp (o_eq c.cK c.rm) (v_var (i := 3) rfl (by leaf_len) (by decide) (by decide)) v_int rfl))))))) (ss_never) (ss_nil)) (ss_cons (s_setF (i := 0) (T_fld_triple T ⟨rfl, rfl, rfl, rfl, rfl⟩) rfl (by leaf_len) (by decide) (by decide) (v_calls (FnA.call c ((ok_normal T).mono (by decide))) (by rfl) T.g_normal (l_cons (v_var (i := 1) rfl (by leaf_len) (by decide) (by decide)) (l_cons (v_var (i := 2) rfl (by leaf_len) (by decide) (by decide)) (l_cons (v_var (i := 3) rfl (by leaf_len) (by decide) (by decide)) l_nil rfl) rfl) rfl) rfl (by decide)) rfl) (ss_nil))))⟩
def sem_ExactX_initX : List D → M D := mkFn 2 4 4 pk_ExactX_initX.1
theorem mk_Exact (T : Facts P w K mg base ad) : ClA P w K mg base (GG b K ad) 8 2 sem_ExactX_initX := by
  obtain ⟨fd, F⟩ := T.f_ExactX_initX
  exact cla_rule F sc_ExactX_initX (F.binds fun _ _ _ _ _ _ us hl => match us, hl with | [_, _, _, _], _ => rfl) rfl (pk_ExactX_initX.2 P w K mg base ad b T) T.m_Exact rfl rfl (by decide)
def pk_limit_of : Σ' ms : MS, ∀ (P : Program) (w : World) (K : PySem.W.Frag) (mg : Str → Option Value) (base : Heap) (ad : Nat → Addr) (b : Bool), Facts P w K mg base ad → Body P w K mg base (GG b K ad) 8 (ad 52) ["chain", "a", "b", "c", "d"] "limit_of" st_limit_of ms :=
  ⟨_, fun P w K mg base ad b T cdv A fr s H E c => ss_cons (s_asg (v_var (i := 0) rfl (by leaf_len) (by decide) (by decide)) (g_tup c.cK c.calm (gs_cons (g_name (i := 1) c.nd rfl (by mem_news) (.inl rfl)) (gs_cons (g_name (i := 2) c.nd rfl (by mem_news) (.inl rfl)) (gs_cons (g_name (i := 3) c.nd rfl (by mem_news) (.inl rfl)) (gs_cons (g_name (i := 4) c.nd rfl (by mem_news) (.inl rfl)) gs_nil rfl) rfl) rfl) rfl) rfl rfl) rfl rfl rfl) (ss_cons (s_if (b_val (v_calls (FnA.call c ((ok_is_rails T).mono (by decide))) (by rfl) T.g_is_rails (l_cons (v_var (i := 0) rfl (by leaf_len) (by decide) (by decide)) l_nil rfl) rfl (by decide)) (fun _ => rfl)) (ss_cons (s_ret (v_glob (by rfl) (T.c_OPEN _) (by decide))) ss_nil) (ss_nil)) (ss_cons (s_ret (v_ite (b_val (v_calls (FnA.call c ((ok_is_rungs T).mono (by decide))) (by rfl) T.g_is_rungs (l_cons (v_var (i := 0) rfl (by leaf_len) (by decide) (by decide)) l_nil rfl) rfl (by decide)) (fun _ => rfl)) (v_calls (ClA.call c ((mk_Exact T).mono (by decide))) (by rfl) T.k_Exact (l_cons v_int (l_cons v_int (l_cons v_int l_nil rfl) rfl) rfl) rfl (by decide)) (v_calls (ClA.call c ((mk_Exact T).mono (by decide))) (by rfl) T.k_Exact (l_cons (v_var (i := 3) rfl (by leaf_len) (by decide) (by decide)) (l_cons (v_bin (o_sub) (v_var (i := 4) rfl (by leaf_len) (by decide) (by decide)) (v_var (i := 1) rfl (by leaf_len) (by decide) (by decide))) (l_cons (v_var (i := 2) rfl (by leaf_len) (by decide) (by decide)) l_nil rfl) rfl) rfl) rfl (by decide)))) ss_nil))⟩
def sem_limit_of : List D → M D := runFn 1 5 pk_limit_of.1
theorem ok_limit_of (T : Facts P w K mg base ad) : FnA P w K mg base (GG b K ad) 10 (ad 52) sem_limit_of := by
  obtain ⟨fd, F⟩ := T.f_limit_of
  exact fna_rule F sc_limit_of (F.binds fun _ _ _ _ _ _ us hl => match us, hl with | [_], _ => rfl) rfl (pk_limit_of.2 P w K mg base ad b T) rfl rfl (by decide)
def pk_Ladder_limit : Σ' ms : MS, ∀ (P : Program) (w : World) (K : PySem.W.Frag) (mg : Str → Option Value) (base : Heap) (ad : Nat → Addr) (b : Bool), Facts P w K mg base ad → Body P w K mg base (GG b K ad) 10 (ad 53) ["self"] "Ladder.limit" st_Ladder_limit ms :=
  ⟨_, fun P w K mg base ad b T cdv A fr s H E c => ss_cons (s_ret (v_calls (FnA.call c ((ok_limit_of T).mono (by decide))) (by rfl) T.g_limit_of (l_cons (v_attr c (T_attr_chain_1 T ⟨rfl, rfl, rfl, rfl, rfl⟩ (by decide)) (v_attr c (T_attr_pattern_5 T ⟨rfl, rfl, rfl, rfl, rfl⟩ (by decide)) (v_var (i := 0) rfl (by leaf_len) (by decide) (by decide)) rfl) rfl) l_nil rfl) rfl (by decide))) ss_nil⟩
def sem_Ladder_limit : List D → M D := runFn 1 1 pk_Ladder_limit.1
theorem ok_Ladder_limit (T : Facts P w K mg base ad) : FnA P w K mg base (GG b K ad) 12 (ad 53) sem_Ladder_limit := by
  obtain ⟨fd, F⟩ := T.f_Ladder_limit
  exact fna_rule F sc_Ladder_limit (F.binds fun _ _ _ _ _ _ us hl => match us, hl with | [_], _ => rfl) rfl (pk_Ladder_limit.2 P w K mg base ad b T) rfl rfl (by decide)
theorem T_attr_limit_5 (T : Facts P w K mg base ad) {X : Cx} (h : Same X P w K mg base) {k : Nat} (hk : 12 ≤ k) : AttrT X (GG b K ad) k "limit" (tab [(5, .prop sem_Ladder_limit)]) := by
  obtain ⟨rfl, rfl, rfl, rfl, rfl⟩ := h
  exact AttrT.of (tab_cons (let ⟨q, hq⟩ := T.p_Ladder_Ladder_limit; ⟨q, _, T.cl_Ladder, hq, (ok_Ladder_limit T).mono (Nat.le_trans (by decide) hk)⟩) tab_nil)
def pk_Exact_equation : Σ' ms : MS, ∀ (P : Program) (w : World) (K : PySem.W.Frag) (mg : Str → Option Value) (base : Heap) (ad : Nat → Addr) (b : Bool), Facts P w K mg base ad → Body P w K mg base (GG b K ad) 0 (ad 54) ["self"] "Exact.equation" st_Exact_equation ms :=
  ⟨_, fun P w K mg base ad b T cdv A fr s H E c => ss_cons (s_ret (v_attr c (T_attr_triple_2 T ⟨rfl, rfl, rfl, rfl, rfl⟩ (by decide)) (v_var (i := 0) rfl (by leaf_len) (by decide) (by decide)) rfl)) ss_nil⟩
def sem_Exact_equation : List D → M D := runFn 1 1 pk_Exact_equation.1
theorem ok_Exact_equation (T : Facts P w K mg base ad) : FnA P w K mg base (GG b K ad) 2 (ad 54) sem_Exact_equation := by
  obtain ⟨fd, F⟩ := T.f_Exact_equation
  exact fna_rule F sc_Exact_equation (F.binds fun _ _ _ _ _ _ us hl => match us, hl with | [_], _ => rfl) rfl (pk_Exact_equation.2 P w K mg base ad b T) rfl rfl (by decide)
theorem T_attr_equation_2 (T : Facts P w K mg base ad) {X : Cx} (h : Same X P w K mg base) {k : Nat} (hk : 2 ≤ k) : AttrT X (GG b K ad) k "equation" (tab [(2, .prop sem_Exact_equation)]) := by
  obtain ⟨rfl, rfl, rfl, rfl, rfl⟩ := h
  exact AttrT.of (tab_cons (let ⟨q, hq⟩ := T.p_Exact_Exact_equation; ⟨q, _, T.cl_Exact, hq, (ok_Exact_equation T).mono (Nat.le_trans (by decide) hk)⟩) tab_nil)
def pk_shows_limit : Σ' ms : MS, ∀ (P : Program) (w : World) (K : PySem.W.Frag) (mg : Str → Option Value) (base : Heap) (ad : Nat → Addr) (b : Bool), Facts P w K mg base ad → Body P w K mg base (GG b K ad) 16 (ad 55) ["claim", "paper", "run", "number"] "shows_limit" st_shows_limit ms :=
  ⟨_, fun P w K mg base ad b T cdv A fr s H E c => ss_cons (s_set (i := 2) c rfl (by mem_news) (v_calls (FnA.call c ((ok_ladder_told T).mono (by decide))) (by rfl) T.g_ladder_told (l_cons (v_ix c.cK (v_var (i := 0) rfl (by leaf_len) (by decide) (by decide)) v_int rfl) (l_cons (v_ix c.cK (v_var (i := 0) rfl (by leaf_len) (by decide) (by decide)) v_int rfl) l_nil rfl) rfl) rfl (by decide)) rfl (.inl rfl)) (ss_cons (s_if (b_of (w_or (b_cmp (o_is) (v_var (i := 2) rfl (by leaf_len) (by decide) (by decide)) v_none rfl) (w_or (b_cmp (o_neZ c.cK c.rm) (v_var (i := 1) rfl (by leaf_len) (by decide) (by decide)) (v_tup l_nil (by decide)) rfl) (w_or1 (b_not (b_val (v_callB (c_isa c.cK (T.isa _ _ rfl)) (by rfl) T.z_isinstance (by decide +kernel) (l_cons (v_ix c.cK (v_var (i := 0) rfl (by leaf_len) (by decide) (by decide)) v_int rfl) (l_cons (v_ty (t := .tuple) (by rfl) T.z_tuple (by decide +kernel) (by decide) (by decide)) l_nil rfl) rfl) rfl (by decide) (by decide)) (fun _ => rfl))))))) (ss_cons (s_ret v_bool) ss_nil) (ss_nil)) (ss_cons (s_if (b_not (b_val (v_callB (c_all c.calm) (by rfl) T.z_all (by decide +kernel) (l_cons (v_lc c (own := [("number", 3)]) (i_seq c (v_ix c.cK (v_var (i := 0) rfl (by leaf_len) (by decide) (by decide)) v_int rfl)) (blkOk_by (N := ["claim", "paper", "run", "number"]) (sc := defScope st_shows_limit) (by decide +kernel)) (fun s H C cl fp => blkP c fun c => (p_name (i := 3) c.nd rfl (by mem_news) (.inr rfl))) (fun s H C cl fp => blkT c fun c => t_nil) (fun s H C cl fp => blkV c fun c => (v_and (v_callB (c_isa c.cK (T.isa _ _ rfl)) (by rfl) T.z_isinstance (by decide +kernel) (l_cons (v_var (i := 3) rfl (by leaf_len) (by decide) (by decide)) (l_cons (v_ty (t := .int) (by rfl) T.z_int (by decide +kernel) (by decide) (by decide)) l_nil rfl) rfl) rfl (by decide) (by decide)) (v_one (v_not (v_callB (c_isa c.cK (T.isa _ _ rfl)) (by rfl) T.z_isinstance (by decide +kernel) (l_cons (v_var (i := 3) rfl (by leaf_len) (by decide) (by decide)) (l_cons (v_ty (t := .bool) (by rfl) T.z_bool (by decide +kernel) (by decide) (by decide)) l_nil rfl) rfl) rfl (by decide) (by decide)))))) rfl (by decide)) l_nil rfl) rfl (by decide) (by decide)) (fun _ => rfl))) (ss_cons (s_ret v_bool) ss_nil) (ss_nil)) (ss_cons (s_ret (v_cmp (o_eq c.cK c.rm) (v_ix c.cK (v_var (i := 0) rfl (by leaf_len) (by decide) (by decide)) v_int rfl) (v_ite (b_val (v_callB (c_isa c.cK (T.isa _ _ rfl)) (by rfl) T.z_isinstance (by decide +kernel) (l_cons (v_attr c (T_attr_limit_5 T ⟨rfl, rfl, rfl, rfl, rfl⟩ (by decide)) (v_var (i := 2) rfl (by leaf_len) (by decide) (by decide)) rfl) (l_cons (v_glob (by rfl) (glob_cls (c := 2) T.k_Exact) (by decide)) l_nil rfl) rfl) rfl (by decide) (by decide)) (fun _ => rfl)) (v_attr c (T_attr_equation_2 T ⟨rfl, rfl, rfl, rfl, rfl⟩ (by decide)) (v_attr c (T_attr_limit_5 T ⟨rfl, rfl, rfl, rfl, rfl⟩ (by decide)) (v_var (i := 2) rfl (by leaf_len) (by decide) (by decide)) rfl) rfl) (v_glob (by rfl) (T.c_OPEN _) (by decide))) rfl)) ss_nil)))⟩
def sem_shows_limit : List D → M D := runFn 2 4 pk_shows_limit.1
theorem ok_shows_limit (T : Facts P w K mg base ad) : FnA P w K mg base (GG b K ad) 18 (ad 55) sem_shows_limit := by
  obtain ⟨fd, F⟩ := T.f_shows_limit
  exact fna_rule F sc_shows_limit (F.binds fun _ _ _ _ _ _ us hl => match us, hl with | [_, _], _ => rfl) rfl (pk_shows_limit.2 P w K mg base ad b T) rfl rfl (by decide)
theorem T_fv_55_46_41_44 (T : Facts P w K mg base ad) {X : Cx} (h : Same X P w K mg base) {k : Nat} (hk : 20 ≤ k) : ∀ (n : Nat) (g : List D → M D), tab [(3055, sem_shows_limit), (3046, sem_shows_more), (3041, sem_shows_most), (3044, sem_shows_never)] n = some g → FnX X (GG b K ad) k ((GG b K ad).ca n) g := by
  obtain ⟨rfl, rfl, rfl, rfl, rfl⟩ := h
  exact (tab_cons (show FnX X (GG b X.K ad) k (ad 4055) sem_shows_limit from T.fe_shows_limit ▸ (ok_shows_limit T).mono (Nat.le_trans (by decide) hk)) (tab_cons (show FnX X (GG b X.K ad) k (ad 4046) sem_shows_more from T.fe_shows_more ▸ (ok_shows_more T).mono (Nat.le_trans (by decide) hk)) (tab_cons (show FnX X (GG b X.K ad) k (ad 4041) sem_shows_most from T.fe_shows_most ▸ (ok_shows_most T).mono (Nat.le_trans (by decide) hk)) (tab_cons (show FnX X (GG b X.K ad) k (ad 4044) sem_shows_never from T.fe_shows_never ▸ (ok_shows_never T).mono (Nat.le_trans (by decide) hk)) tab_nil))))
def pk_accepts : Σ' ms : MS, ∀ (P : Program) (w : World) (K : PySem.W.Frag) (mg : Str → Option Value) (base : Heap) (ad : Nat → Addr) (b : Bool), Facts P w K mg base ad → Body P w K mg base (GG b K ad) 20 (ad 56) ["claim", "certificate", "size", "judge"] "accepts" st_accepts ms :=
  ⟨_, fun P w K mg base ad b T cdv A fr s H E c => ss_cons (s_if (b_of (w_or (b_not (b_val (v_callB (c_isa c.cK (T.isa _ _ rfl)) (by rfl) T.z_isinstance (by decide +kernel) (l_cons (v_var (i := 0) rfl (by leaf_len) (by decide) (by decide)) (l_cons (v_ty (t := .tuple) (by rfl) T.z_tuple (by decide +kernel) (by decide) (by decide)) l_nil rfl) rfl) rfl (by decide) (by decide)) (fun _ => rfl))) (w_or (b_cmp (o_eq c.cK c.rm) (v_callB (c_len c.cK) (by rfl) T.z_len (by decide +kernel) (l_cons (v_var (i := 0) rfl (by leaf_len) (by decide) (by decide)) l_nil rfl) rfl (by decide) (by decide)) v_int rfl) (w_or (b_not (b_val (v_callB (c_isa c.cK (T.isa _ _ rfl)) (by rfl) T.z_isinstance (by decide +kernel) (l_cons (v_ix c.cK (v_var (i := 0) rfl (by leaf_len) (by decide) (by decide)) v_int rfl) (l_cons (v_ty (t := .str) (by rfl) T.z_str (by decide +kernel) (by decide) (by decide)) l_nil rfl) rfl) rfl (by decide) (by decide)) (fun _ => rfl))) (w_or1 (b_cmp (o_notInK (TK_JUDGES T ⟨rfl, rfl, rfl, rfl, rfl⟩)) (v_ix c.cK (v_var (i := 0) rfl (by leaf_len) (by decide) (by decide)) v_int rfl) (v_glob (by rfl) (glob_cls (c := 4000) T.k_JUDGES) (by decide)) rfl)))))) (ss_cons (s_ret v_bool) ss_nil) (ss_nil)) (ss_cons (s_asg (v_ixK (TK_JUDGES T ⟨rfl, rfl, rfl, rfl, rfl⟩) (v_glob (by rfl) (glob_cls (c := 4000) T.k_JUDGES) (by decide)) (v_ix c.cK (v_var (i := 0) rfl (by leaf_len) (by decide) (by decide)) v_int rfl) rfl) (g_tup c.cK c.calm (gs_cons (g_name (i := 2) c.nd rfl (by mem_news) (.inl rfl)) (gs_cons (g_name (i := 3) c.nd rfl (by mem_news) (.inl rfl)) gs_nil rfl) rfl) rfl rfl) rfl rfl rfl) (ss_cons (s_ret (v_and (v_cmp (o_eq c.cK c.rm) (v_callB (c_len c.cK) (by rfl) T.z_len (by decide +kernel) (l_cons (v_var (i := 0) rfl (by leaf_len) (by decide) (by decide)) l_nil rfl) rfl (by decide) (by decide)) (v_var (i := 2) rfl (by leaf_len) (by decide) (by decide)) rfl) (v_one (v_callV c (T_fv_55_46_41_44 T ⟨rfl, rfl, rfl, rfl, rfl⟩ (by decide)) (i := 3) rfl (by leaf_len) (by decide) (by decide) (l_cons (v_var (i := 0) rfl (by leaf_len) (by decide) (by decide)) (l_cons (v_var (i := 1) rfl (by leaf_len) (by decide) (by decide)) l_nil rfl) rfl) rfl)))) ss_nil))⟩
def sem_accepts : List D → M D := runFn 2 4 pk_accepts.1
theorem ok_accepts (T : Facts P w K mg base ad) : FnA P w K mg base (GG b K ad) 22 (ad 56) sem_accepts := by
  obtain ⟨fd, F⟩ := T.f_accepts
  exact fna_rule F sc_accepts (F.binds fun _ _ _ _ _ _ us hl => match us, hl with | [_, _], _ => rfl) rfl (pk_accepts.2 P w K mg base ad b T) rfl rfl (by decide)
def pk__law_is_whole : Σ' ms : MS, ∀ (P : Program) (w : World) (K : PySem.W.Frag) (mg : Str → Option Value) (base : Heap) (ad : Nat → Addr) (b : Bool), Facts P w K mg base ad → Body P w K mg base (GG b K ad) 0 (ad 57) ["_law_thing", "_law_first", "_law_last"] "_law_is_whole" st__law_is_whole ms :=
  ⟨_, fun P w K mg base ad b T cdv A fr s H E c => ss_cons (s_ret (v_and (v_callB (c_isa c.cK (T.isa _ _ rfl)) (by rfl) T.z_isinstance (by decide +kernel) (l_cons (v_var (i := 0) rfl (by leaf_len) (by decide) (by decide)) (l_cons (v_ty (t := .int) (by rfl) T.z_int (by decide +kernel) (by decide) (by decide)) l_nil rfl) rfl) rfl (by decide) (by decide)) (v_and (v_not (v_callB (c_isa c.cK (T.isa _ _ rfl)) (by rfl) T.z_isinstance (by decide +kernel) (l_cons (v_var (i := 0) rfl (by leaf_len) (by decide) (by decide)) (l_cons (v_ty (t := .bool) (by rfl) T.z_bool (by decide +kernel) (by decide) (by decide)) l_nil rfl) rfl) rfl (by decide) (by decide))) (v_one (v_chain' (o_le) (o_le) (v_var (i := 1) rfl (by leaf_len) (by decide) (by decide)) (v_var (i := 0) rfl (by leaf_len) (by decide) (by decide)) (v_var (i := 2) rfl (by leaf_len) (by decide) (by decide)) rfl))))) ss_nil⟩
def sem__law_is_whole : List D → M D := runFn 3 3 pk__law_is_whole.1
theorem ok__law_is_whole (T : Facts P w K mg base ad) : FnA P w K mg base (GG b K ad) 2 (ad 57) sem__law_is_whole := by
  obtain ⟨fd, F⟩ := T.f__law_is_whole
  exact fna_rule F sc__law_is_whole (F.binds fun _ _ _ _ _ _ us hl => match us, hl with | [_, _, _], _ => rfl) rfl (pk__law_is_whole.2 P w K mg base ad b T) rfl rfl (by decide)
def pk__law_is_row : Σ' ms : MS, ∀ (P : Program) (w : World) (K : PySem.W.Frag) (mg : Str → Option Value) (base : Heap) (ad : Nat → Addr) (b : Bool), Facts P w K mg base ad → Body P w K mg base (GG b K ad) 2 (ad 58) ["_law_thing", "_law_part"] "_law_is_row" st__law_is_row ms :=
  ⟨_, fun P w K mg base ad b T cdv A fr s H E c => ss_cons (s_if (b_of (w_or (b_not (b_val (v_callB (c_isa c.cK (T.isa _ _ rfl)) (by rfl) T.z_isinstance (by decide +kernel) (l_cons (v_var (i := 0) rfl (by leaf_len) (by decide) (by decide)) (l_cons (v_ty (t := .tuple) (by rfl) T.z_tuple (by decide +kernel) (by decide) (by decide)) l_nil rfl) rfl) rfl (by decide) (by decide)) (fun _ => rfl))) (w_or1 (b_not (b_chain (o_le) (o_le) v_int (v_callB (c_len c.cK) (by rfl) T.z_len (by decide +kernel) (l_cons (v_var (i := 0) rfl (by leaf_len) (by decide) (by decide)) l_nil rfl) rfl (by decide) (by decide)) v_int rfl))))) (ss_cons (s_ret v_bool) ss_nil) (ss_nil)) (ss_cons (s_for c (i_seq c (v_var (i := 0) rfl (by leaf_len) (by decide) (by decide))) (g_name (i := 1) c.nd rfl (by mem_news) (.inl rfl)) (ss_cons (s_if (b_of (w_or (b_not (b_val (v_callB (c_isa c.cK (T.isa _ _ rfl)) (by rfl) T.z_isinstance (by decide +kernel) (l_cons (v_var (i := 1) rfl (by leaf_len) (by decide) (by decide)) (l_cons (v_ty (t := .tuple) (by rfl) T.z_tuple (by decide +kernel) (by decide) (by decide)) l_nil rfl) rfl) rfl (by decide) (by decide)) (fun _ => rfl))) (w_or (b_cmp (o_ne c.cK c.rm) (v_callB (c_len c.cK) (by rfl) T.z_len (by decide +kernel) (l_cons (v_var (i := 1) rfl (by leaf_len) (by decide) (by decide)) l_nil rfl) rfl (by decide) (by decide)) v_int rfl) (w_or1 (b_not (b_val (v_callB (c_isa c.cK (T.isa _ _ rfl)) (by rfl) T.z_isinstance (by decide +kernel) (l_cons (v_ix c.cK (v_var (i := 1) rfl (by leaf_len) (by decide) (by decide)) v_int rfl) (l_cons (v_ty (t := .str) (by rfl) T.z_str (by decide +kernel) (by decide) (by decide)) l_nil rfl) rfl) rfl (by decide) (by decide)) (fun _ => rfl))))))) (ss_cons (s_ret v_bool) ss_nil) (ss_nil)) (ss_cons (s_if (b_of (w_or (b_cmp (o_notin c.cK c.rm) (v_ix c.cK (v_var (i := 1) rfl (by leaf_len) (by decide) (by decide)) v_int rfl) (v_lst (l_cons v_str (l_cons v_str l_nil rfl) rfl) (by decide)) rfl) (w_or1 (b_not (b_val (v_calls (FnA.call c ((ok__law_is_whole T).mono (by decide))) (by rfl) T.g__law_is_whole (l_cons (v_ix c.cK (v_var (i := 1) rfl (by leaf_len) (by decide) (by decide)) v_int rfl) (l_cons v_int (l_cons v_int l_nil rfl) rfl) rfl) rfl (by decide)) (fun _ => rfl)))))) (ss_cons (s_ret v_bool) ss_nil) (ss_nil)) (ss_nil))) rfl) (ss_cons (s_ret v_bool) ss_nil))⟩
def sem__law_is_row : List D → M D := runFn 1 2 pk__law_is_row.1
theorem ok__law_is_row (T : Facts P w K mg base ad) : FnA P w K mg base (GG b K ad) 4 (ad 58) sem__law_is_row := by
  obtain ⟨fd, F⟩ := T.f__law_is_row
  exact fna_rule F sc__law_is_row (F.binds fun _ _ _ _ _ _ us hl => match us, hl with | [_], _ => rfl) rfl (pk__law_is_row.2 P w K mg base ad b T) rfl rfl (by decide)
def pk__law_is_load : Σ' ms : MS, ∀ (P : Program) (w : World) (K : PySem.W.Frag) (mg : Str → Option Value) (base : Heap) (ad : Nat → Addr) (b : Bool), Facts P w K mg base ad → Body P w K mg base (GG b K ad) 0 (ad 59) ["_law_thing", "_law_both", "_law_x"] "_law_is_load" st__law_is_load ms :=
  ⟨_, fun P w K mg base ad b T cdv A fr s H E c => ss_cons (s_set (i := 1) c rfl (by mem_news) (v_ite (b_val (v_callB (c_isa c.cK (T.isa _ _ rfl)) (by rfl) T.z_isinstance (by decide +kernel) (l_cons (v_var (i := 0) rfl (by leaf_len) (by decide) (by decide)) (l_cons (v_ty (t := .tuple) (by rfl) T.z_tuple (by decide +kernel) (by decide) (by decide)) l_nil rfl) rfl) rfl (by decide) (by decide)) (fun _ => rfl)) (v_var (i := 0) rfl (by leaf_len) (by decide) (by decide)) (v_tup (l_cons (v_var (i := 0) rfl (by leaf_len) (by decide) (by decide)) (l_cons v_int l_nil rfl) rfl) (by decide))) rfl (.inl rfl)) (ss_cons (s_if (b_of (w_or (b_cmp (o_ne c.cK c.rm) (v_callB (c_len c.cK) (by rfl) T.z_len (by decide +kernel) (l_cons (v_var (i := 1) rfl (by leaf_len) (by decide) (by decide)) l_nil rfl) rfl (by decide) (by decide)) v_int rfl) (w_or1 (b_val (v_callB (c_any c.calm) (by rfl) T.z_any (by decide +kernel) (l_cons (v_lc c (own := [("_law_x", 2)]) (i_seq c (v_var (i := 1) rfl (by leaf_len) (by decide) (by decide))) (blkOk_by (N := ["_law_thing", "_law_both", "_law_x"]) (sc := defScope st__law_is_load) (by decide +kernel)) (fun s H C cl fp => blkP c fun c => (p_name (i := 2) c.nd rfl (by mem_news) (.inr rfl))) (fun s H C cl fp => blkT c fun c => t_nil) (fun s H C cl fp => blkV c fun c => (v_or (v_not (v_callB (c_isa c.cK (T.isa _ _ rfl)) (by rfl) T.z_isinstance (by decide +kernel) (l_cons (v_var (i := 2) rfl (by leaf_len) (by decide) (by decide)) (l_cons (v_ty (t := .int) (by rfl) T.z_int (by decide +kernel) (by decide) (by decide)) l_nil rfl) rfl) rfl (by decide) (by decide))) (v_one (v_callB (c_isa c.cK (T.isa _ _ rfl)) (by rfl) T.z_isinstance (by decide +kernel) (l_cons (v_var (i := 2) rfl (by leaf_len) (by decide) (by decide)) (l_cons (v_ty (t := .bool) (by rfl) T.z_bool (by decide +kernel) (by decide) (by decide)) l_nil rfl) rfl) rfl (by decide) (by decide))))) rfl (by decide)) l_nil rfl) rfl (by decide) (by decide)) (fun _ => rfl))))) (ss_cons (s_ret v_bool) ss_nil) (ss_nil)) (ss_cons (s_ret (v_or (v_and (v_chain' (o_le) (o_le) v_int (v_ix c.cK (v_var (i := 1) rfl (by leaf_len) (by decide) (by decide)) v_int rfl) (v_bin (o_pow) v_int v_int) rfl) (v_one (v_chain' (o_le) (o_le) v_int (v_ix c.cK (v_var (i := 1) rfl (by leaf_len) (by decide) (by decide)) v_int rfl) (v_bin (o_pow) v_int v_int) rfl))) (v_one (v_cmp (o_eq c.cK c.rm) (v_var (i := 1) rfl (by leaf_len) (by decide) (by decide)) (v_tup (l_cons v_int (l_cons v_int l_nil rfl) rfl) (by decide)) rfl)))) ss_nil))⟩
def sem__law_is_load : List D → M D := runFn 1 3 pk__law_is_load.1
theorem ok__law_is_load (T : Facts P w K mg base ad) : FnA P w K mg base (GG b K ad) 2 (ad 59) sem__law_is_load := by
  obtain ⟨fd, F⟩ := T.f__law_is_load
  exact fna_rule F sc__law_is_load (F.binds fun _ _ _ _ _ _ us hl => match us, hl with | [_], _ => rfl) rfl (pk__law_is_load.2 P w K mg base ad b T) rfl rfl (by decide)
def pk__law_never : Σ' ms : MS, ∀ (P : Program) (w : World) (K : PySem.W.Frag) (mg : Str → Option Value) (base : Heap) (ad : Nat → Addr) (b : Bool), Facts P w K mg base ad → Body P w K mg base (GG b K ad) 2 (ad 60) ["_law_row", "_law_mate", "_law_a", "_law_c", "_law_b", "_law_d", "_law_p", "_law_r", "_law_q", "_law_s", "_law_lead", "_law_end", "_law_mid"] "_law_never" st__law_never ms :=
  ⟨_, fun P w K mg base ad b T cdv A fr s H E c => ss_cons (s_asg (v_calls (FnA.call c ((ok__law_led T).mono (by decide))) (by rfl) T.g__law_led (l_cons (v_var (i := 0) rfl (by leaf_len) (by decide) (by decide)) (l_cons (v_tup (l_cons v_int (l_cons v_int l_nil rfl) rfl) (by decide)) l_nil rfl) rfl) rfl (by decide)) (g_tup c.cK c.calm (gs_cons (g_name (i := 2) c.nd rfl (by mem_news) (.inl rfl)) (gs_cons (g_name (i := 3) c.nd rfl (by mem_news) (.inl rfl)) gs_nil rfl) rfl) rfl rfl) rfl rfl rfl) (ss_cons (s_asg (v_calls (FnA.call c ((ok__law_led T).mono (by decide))) (by rfl) T.g__law_led (l_cons (v_var (i := 0) rfl (by leaf_len) (by decide) (by decide)) (l_cons (v_tup (l_cons v_int (l_cons v_int l_nil rfl) rfl) (by decide)) l_nil rfl) rfl) rfl (by decide)) (g_tup c.cK c.calm (gs_cons (g_name (i := 4) c.nd rfl (by mem_news) (.inl rfl)) (gs_cons (g_name (i := 5) c.nd rfl (by mem_news) (.inl rfl)) gs_nil rfl) rfl) rfl rfl) rfl rfl rfl) (ss_cons (s_asg (v_calls (FnA.call c ((ok__law_led T).mono (by decide))) (by rfl) T.g__law_led (l_cons (v_var (i := 1) rfl (by leaf_len) (by decide) (by decide)) (l_cons (v_tup (l_cons v_int (l_cons v_int l_nil rfl) rfl) (by decide)) l_nil rfl) rfl) rfl (by decide)) (g_tup c.cK c.calm (gs_cons (g_name (i := 6) c.nd rfl (by mem_news) (.inl rfl)) (gs_cons (g_name (i := 7) c.nd rfl (by mem_news) (.inl rfl)) gs_nil rfl) rfl) rfl rfl) rfl rfl rfl) (ss_cons (s_asg (v_calls (FnA.call c ((ok__law_led T).mono (by decide))) (by rfl) T.g__law_led (l_cons (v_var (i := 1) rfl (by leaf_len) (by decide) (by decide)) (l_cons (v_tup (l_cons v_int (l_cons v_int l_nil rfl) rfl) (by decide)) l_nil rfl) rfl) rfl (by decide)) (g_tup c.cK c.calm (gs_cons (g_name (i := 8) c.nd rfl (by mem_news) (.inl rfl)) (gs_cons (g_name (i := 9) c.nd rfl (by mem_news) (.inl rfl)) gs_nil rfl) rfl) rfl rfl) rfl rfl rfl) (ss_cons (s_par (i := 10) (j := 11) c rfl rfl (by decide) rfl rfl (l_cons (v_bin (o_sub) (v_bin (o_mul c.cK) (v_var (i := 6) rfl (by leaf_len) (by decide) (by decide)) (v_var (i := 3) rfl (by leaf_len) (by decide) (by decide))) (v_bin (o_mul c.cK) (v_var (i := 2) rfl (by leaf_len) (by decide) (by decide)) (v_var (i := 7) rfl (by leaf_len) (by decide) (by decide)))) (l_cons (v_bin (o_sub) (v_bin (o_mul c.cK) (v_var (i := 8) rfl (by leaf_len) (by decide) (by decide)) (v_var (i := 5) rfl (by leaf_len) (by decide) (by decide))) (v_bin (o_mul c.cK) (v_var (i := 4) rfl (by leaf_len) (by decide) (by decide)) (v_var (i := 9) rfl (by leaf_len) (by decide) (by decide)))) l_nil rfl) rfl) rfl) (ss_cons (s_set (i := 12) c rfl (by mem_news) (v_bin (o_sub) (v_bin (o_sub) (v_bin (o_add c.cK) (v_bin (o_mul c.cK) (v_var (i := 6) rfl (by leaf_len) (by decide) (by decide)) (v_var (i := 5) rfl (by leaf_len) (by decide) (by decide))) (v_bin (o_mul c.cK) (v_var (i := 8) rfl (by leaf_len) (by decide) (by decide)) (v_var (i := 3) rfl (by leaf_len) (by decide) (by decide)))) (v_bin (o_mul c.cK) (v_var (i := 2) rfl (by leaf_len) (by decide) (by decide)) (v_var (i := 9) rfl (by leaf_len) (by decide) (by decide)))) (v_bin (o_mul c.cK) (v_var (i := 4) rfl (by leaf_len) (by decide) (by decide)) (v_var (i := 7) rfl (by leaf_len) (by decide) (by decide)))) rfl (.inl rfl)) (ss_cons (s_ret (v_and (v_cmp (o_ge) (v_var (i := 10) rfl (by leaf_len) (by decide) (by decide)) v_int rfl) (v_and (v_cmp (o_ge) (v_var (i := 11) rfl (by leaf_len) (by decide) (by decide)) v_int rfl) (v_one (v_or (v_cmp (o_ge) (v_var (i := 12) rfl (by leaf_len) (by decide) (by decide)) v_int rfl) (v_one (v_cmp (o_le) (v_bin (o_mul c.cK) (v_var (i := 12) rfl (by leaf_len) (by decide) (by decide)) (v_var (i := 12) rfl (by leaf_len) (by decide) (by decide))) (v_bin (o_mul c.cK) (v_bin (o_mul c.cK) v_int (v_var (i := 10) rfl (by leaf_len) (by decide) (by decide))) (v_var (i := 11) rfl (by leaf_len) (by decide) (by decide))) rfl))))))) ss_nil))))))⟩
def sem__law_never : List D → M D := runFn 2 13 pk__law_never.1
theorem ok__law_never (T : Facts P w K mg base ad) : FnA P w K mg base (GG b K ad) 4 (ad 60) sem__law_never := by
  obtain ⟨fd, F⟩ := T.f__law_never
  exact fna_rule F sc__law_never (F.binds fun _ _ _ _ _ _ us hl => match us, hl with | [_, _], _ => rfl) rfl (pk__law_never.2 P w K mg base ad b T) rfl rfl (by decide)
def pk__law_is_number : Σ' ms : MS, ∀ (P : Program) (w : World) (K : PySem.W.Frag) (mg : Str → Option Value) (base : Heap) (ad : Nat → Addr) (b : Bool), Facts P w K mg base ad → Body P w K mg base (GG b K ad) 0 (ad 61) ["_law_thing", "_law_both", "_law_x"] "_law_is_number" st__law_is_number ms :=
  ⟨_, fun P w K mg base ad b T cdv A fr s H E c => ss_cons (s_set (i := 1) c rfl (by mem_news) (v_ite (b_val (v_callB (c_isa c.cK (T.isa _ _ rfl)) (by rfl) T.z_isinstance (by decide +kernel) (l_cons (v_var (i := 0) rfl (by leaf_len) (by decide) (by decide)) (l_cons (v_ty (t := .tuple) (by rfl) T.z_tuple (by decide +kernel) (by decide) (by decide)) l_nil rfl) rfl) rfl (by decide) (by decide)) (fun _ => rfl)) (v_var (i := 0) rfl (by leaf_len) (by decide) (by decide)) (v_tup (l_cons (v_var (i := 0) rfl (by leaf_len) (by decide) (by decide)) (l_cons v_int l_nil rfl) rfl) (by decide))) rfl (.inl rfl)) (ss_cons (s_if (b_of (w_or (b_cmp (o_ne c.cK c.rm) (v_callB (c_len c.cK) (by rfl) T.z_len (by decide +kernel) (l_cons (v_var (i := 1) rfl (by leaf_len) (by decide) (by decide)) l_nil rfl) rfl (by decide) (by decide)) v_int rfl) (w_or1 (b_val (v_callB (c_any c.calm) (by rfl) T.z_any (by decide +kernel) (l_cons (v_lc c (own := [("_law_x", 2)]) (i_seq c (v_var (i := 1) rfl (by leaf_len) (by decide) (by decide))) (blkOk_by (N := ["_law_thing", "_law_both", "_law_x"]) (sc := defScope st__law_is_number) (by decide +kernel)) (fun s H C cl fp => blkP c fun c => (p_name (i := 2) c.nd rfl (by mem_news) (.inr rfl))) (fun s H C cl fp => blkT c fun c => t_nil) (fun s H C cl fp => blkV c fun c => (v_or (v_not (v_callB (c_isa c.cK (T.isa _ _ rfl)) (by rfl) T.z_isinstance (by decide +kernel) (l_cons (v_var (i := 2) rfl (by leaf_len) (by decide) (by decide)) (l_cons (v_ty (t := .int) (by rfl) T.z_int (by decide +kernel) (by decide) (by decide)) l_nil rfl) rfl) rfl (by decide) (by decide))) (v_one (v_callB (c_isa c.cK (T.isa _ _ rfl)) (by rfl) T.z_isinstance (by decide +kernel) (l_cons (v_var (i := 2) rfl (by leaf_len) (by decide) (by decide)) (l_cons (v_ty (t := .bool) (by rfl) T.z_bool (by decide +kernel) (by decide) (by decide)) l_nil rfl) rfl) rfl (by decide) (by decide))))) rfl (by decide)) l_nil rfl) rfl (by decide) (by decide)) (fun _ => rfl))))) (ss_cons (s_ret v_bool) ss_nil) (ss_nil)) (ss_cons (s_ret (v_or (v_and (v_cmp (o_ge) (v_ix c.cK (v_var (i := 1) rfl (by leaf_len) (by decide) (by decide)) v_int rfl) v_int rfl) (v_one (v_cmp (o_gt) (v_ix c.cK (v_var (i := 1) rfl (by leaf_len) (by decide) (by decide)) v_int rfl) v_int rfl))) (v_one (v_cmp (o_eq c.cK c.rm) (v_var (i := 1) rfl (by leaf_len) (by decide) (by decide)) (v_tup (l_cons v_int (l_cons v_int l_nil rfl) rfl) (by decide)) rfl)))) ss_nil))⟩
def sem__law_is_number : List D → M D := runFn 1 3 pk__law_is_number.1
theorem ok__law_is_number (T : Facts P w K mg base ad) : FnA P w K mg base (GG b K ad) 2 (ad 61) sem__law_is_number := by
  obtain ⟨fd, F⟩ := T.f__law_is_number
  exact fna_rule F sc__law_is_number (F.binds fun _ _ _ _ _ _ us hl => match us, hl with | [_], _ => rfl) rfl (pk__law_is_number.2 P w K mg base ad b T) rfl rfl (by decide)
def pk__law_frac : Σ' ms : MS, ∀ (P : Program) (w : World) (K : PySem.W.Frag) (mg : Str → Option Value) (base : Heap) (ad : Nat → Addr) (b : Bool), Facts P w K mg base ad → Body P w K mg base (GG b K ad) 2 (ad 62) ["_law_thing"] "_law_frac" st__law_frac ms :=
  ⟨_, fun P w K mg base ad b T cdv A fr s H E c => ss_cons (s_ret (v_ite (b_val (v_callB (c_isa c.cK (T.isa _ _ rfl)) (by rfl) T.z_isinstance (by decide +kernel) (l_cons (v_var (i := 0) rfl (by leaf_len) (by decide) (by decide)) (l_cons (v_ty (t := .tuple) (by rfl) T.z_tuple (by decide +kernel) (by decide) (by decide)) l_nil rfl) rfl) rfl (by decide) (by decide)) (fun _ => rfl)) (v_calls (FnA.call c ((ok__law_lowest T).mono (by decide))) (by rfl) T.g__law_lowest (l_cons (v_ix c.cK (v_var (i := 0) rfl (by leaf_len) (by decide) (by decide)) v_int rfl) (l_cons (v_ix c.cK (v_var (i := 0) rfl (by leaf_len) (by decide) (by decide)) v_int rfl) l_nil rfl) rfl) rfl (by decide)) (v_tup (l_cons (v_var (i := 0) rfl (by leaf_len) (by decide) (by decide)) (l_cons v_int l_nil rfl) rfl) (by decide)))) ss_nil⟩
def sem__law_frac : List D → M D := runFn 1 1 pk__law_frac.1
theorem ok__law_frac (T : Facts P w K mg base ad) : FnA P w K mg base (GG b K ad) 4 (ad 62) sem__law_frac := by
  obtain ⟨fd, F⟩ := T.f__law_frac
  exact fna_rule F sc__law_frac (F.binds fun _ _ _ _ _ _ us hl => match us, hl with | [_], _ => rfl) rfl (pk__law_frac.2 P w K mg base ad b T) rfl rfl (by decide)
def pk__law_sign : Σ' ms : MS, ∀ (P : Program) (w : World) (K : PySem.W.Frag) (mg : Str → Option Value) (base : Heap) (ad : Nat → Addr) (b : Bool), Facts P w K mg base ad → Body P w K mg base (GG b K ad) 0 (ad 63) ["_law_one", "_law_two", "_law_gap"] "_law_sign" st__law_sign ms :=
  ⟨_, fun P w K mg base ad b T cdv A fr s H E c => ss_cons (s_set (i := 2) c rfl (by mem_news) (v_bin (o_sub) (v_bin (o_mul c.cK) (v_ix c.cK (v_var (i := 0) rfl (by leaf_len) (by decide) (by decide)) v_int rfl) (v_ix c.cK (v_var (i := 1) rfl (by leaf_len) (by decide) (by decide)) v_int rfl)) (v_bin (o_mul c.cK) (v_ix c.cK (v_var (i := 1) rfl (by leaf_len) (by decide) (by decide)) v_int rfl) (v_ix c.cK (v_var (i := 0) rfl (by leaf_len) (by decide) (by decide)) v_int rfl))) rfl (.inl rfl)) (ss_cons (s_ret (v_ite (b_cmp (o_gt) (v_var (i := 2) rfl (by leaf_len) (by decide) (by decide)) v_int rfl) v_int (v_ite (b_cmp (o_lt) (v_var (i := 2) rfl (by leaf_len) (by decide) (by decide)) v_int rfl) (v_neg v_int) v_int))) ss_nil)⟩
def sem__law_sign : List D → M D := runFn 2 3 pk__law_sign.1
theorem ok__law_sign (T : Facts P w K mg base ad) : FnA P w K mg base (GG b K ad) 2 (ad 63) sem__law_sign := by
  obtain ⟨fd, F⟩ := T.f__law_sign
  exact fna_rule F sc__law_sign (F.binds fun _ _ _ _ _ _ us hl => match us, hl with | [_, _], _ => rfl) rfl (pk__law_sign.2 P w K mg base ad b T) rfl rfl (by decide)
def pk__law_due : Σ' ms : MS, ∀ (P : Program) (w : World) (K : PySem.W.Frag) (mg : Str → Option Value) (base : Heap) (ad : Nat → Addr) (b : Bool), Facts P w K mg base ad → Body P w K mg base (GG b K ad) 4 (ad 64) ["_law_said", "_law_paper", "_law_part"] "_law_due" st__law_due ms :=
  ⟨_, fun P w K mg base ad b T cdv A fr s H E c => ss_cons (s_if (b_of (w_or (b_not (b_val (v_callB (c_isa c.cK (T.isa _ _ rfl)) (by rfl) T.z_isinstance (by decide +kernel) (l_cons (v_var (i := 0) rfl (by leaf_len) (by decide) (by decide)) (l_cons (v_ty (t := .tuple) (by rfl) T.z_tuple (by decide +kernel) (by decide) (by decide)) l_nil rfl) rfl) rfl (by decide) (by decide)) (fun _ => rfl))) (w_or (b_cmp (o_eq c.cK c.rm) (v_callB (c_len c.cK) (by rfl) T.z_len (by decide +kernel) (l_cons (v_var (i := 0) rfl (by leaf_len) (by decide) (by decide)) l_nil rfl) rfl (by decide) (by decide)) v_int rfl) (w_or (b_not (b_val (v_callB (c_isa c.cK (T.isa _ _ rfl)) (by rfl) T.z_isinstance (by decide +kernel) (l_cons (v_var (i := 1) rfl (by leaf_len) (by decide) (by decide)) (l_cons (v_ty (t := .tuple) (by rfl) T.z_tuple (by decide +kernel) (by decide) (by decide)) l_nil rfl) rfl) rfl (by decide) (by decide)) (fun _ => rfl))) (w_or1 (b_cmp (o_gt) (v_callB (c_len c.cK) (by rfl) T.z_len (by decide +kernel) (l_cons (v_var (i := 1) rfl (by leaf_len) (by decide) (by decide)) l_nil rfl) rfl (by decide) (by decide)) v_int rfl)))))) (ss_cons (s_ret v_bool) ss_nil) (ss_nil)) (ss_cons (s_if (b_of (w_or (b_not (b_val (v_callB (c_isa c.cK (T.isa _ _ rfl)) (by rfl) T.z_isinstance (by decide +kernel) (l_cons (v_ix c.cK (v_var (i := 0) rfl (by leaf_len) (by decide) (by decide)) v_int rfl) (l_cons (v_ty (t := .str) (by rfl) T.z_str (by decide +kernel) (by decide) (by decide)) l_nil rfl) rfl) rfl (by decide) (by decide)) (fun _ => rfl))) (w_or (b_cmp (o_lt) (v_callB (c_len c.cK) (by rfl) T.z_len (by decide +kernel) (l_cons (v_var (i := 0) rfl (by leaf_len) (by decide) (by decide)) l_nil rfl) rfl (by decide) (by decide)) v_int rfl) (w_or1 (b_not (b_val (v_calls (FnA.call c ((ok__law_is_row T).mono (by decide))) (by rfl) T.g__law_is_row (l_cons (v_ix c.cK (v_var (i := 0) rfl (by leaf_len) (by decide) (by decide)) v_int rfl) l_nil rfl) rfl (by decide)) (fun _ => rfl))))))) (ss_cons (s_ret v_bool) ss_nil) (ss_nil)) (ss_cons (s_if (b_cmp (o_eq c.cK c.rm) (v_ix c.cK (v_var (i := 0) rfl (by leaf_len) (by decide) (by decide)) v_int rfl) v_str rfl) (ss_cons (s_if (b_of (w_or (b_cmp (o_ne c.cK c.rm) (v_callB (c_len c.cK) (by rfl) T.z_len (by decide +kernel) (l_cons (v_var (i := 0) rfl (by leaf_len) (by decide) (by decide)) l_nil rfl) rfl (by decide) (by decide)) v_int rfl) (w_or (b_not (b_val (v_calls (FnA.call c ((ok__law_is_load T).mono (by decide))) (by rfl) T.g__law_is_load (l_cons (v_ix c.cK (v_var (i := 0) rfl (by leaf_len) (by decide) (by decide)) v_int rfl) l_nil rfl) rfl (by decide)) (fun _ => rfl))) (w_or1 (b_not (b_val (v_callB (c_isa c.cK (T.isa _ _ rfl)) (by rfl) T.z_isinstance (by decide +kernel) (l_cons (v_ix c.cK (v_var (i := 0) rfl (by leaf_len) (by decide) (by decide)) v_int rfl) (l_cons (v_ty (t := .tuple) (by rfl) T.z_tuple (by decide +kernel) (by decide) (by decide)) l_nil rfl) rfl) rfl (by decide) (by decide)) (fun _ => rfl))))))) (ss_cons (s_ret v_bool) ss_nil) (ss_nil)) (ss_cons (s_ret (v_and (v_callB (c_all c.calm) (by rfl) T.z_all (by decide +kernel) (l_cons (v_lc c (own := [("_law_part", 2)]) (i_seq c (v_ix c.cK (v_var (i := 0) rfl (by leaf_len) (by decide) (by decide)) v_int rfl)) (blkOk_by (N := ["_law_said", "_law_paper", "_law_part"]) (sc := defScope st__law_due) (by decide +kernel)) (fun s H C cl fp => blkP c fun c => (p_name (i := 2) c.nd rfl (by mem_news) (.inr rfl))) (fun s H C cl fp => blkT c fun c => t_nil) (fun s H C cl fp => blkV c fun c => (v_calls (FnA.call c ((ok__law_is_whole T).mono (by decide))) (by rfl) T.g__law_is_whole (l_cons (v_var (i := 2) rfl (by leaf_len) (by decide) (by decide)) (l_cons (v_neg (v_bin (o_pow) v_int v_int)) (l_cons (v_bin (o_pow) v_int v_int) l_nil rfl) rfl) rfl) rfl (by decide))) rfl (by decide)) l_nil rfl) rfl (by decide) (by decide)) (v_one (v_cmp (o_eq c.cK c.rm) (v_ix c.cK (v_var (i := 0) rfl (by leaf_len) (by decide) (by decide)) v_int rfl) (v_calls (FnA.call c ((ok__law_limit T).mono (by decide))) (by rfl) T.g__law_limit (l_cons (v_ix c.cK (v_var (i := 0) rfl (by leaf_len) (by decide) (by decide)) v_int rfl) l_nil rfl) rfl (by decide)) rfl)))) ss_nil)) (ss_nil)) (ss_cons (s_if (b_not (b_val (v_calls (FnA.call c ((ok__law_is_row T).mono (by decide))) (by rfl) T.g__law_is_row (l_cons (v_ix c.cK (v_var (i := 0) rfl (by leaf_len) (by decide) (by decide)) v_int rfl) l_nil rfl) rfl (by decide)) (fun _ => rfl))) (ss_cons (s_ret v_bool) ss_nil) (ss_nil)) (ss_cons (s_if (b_cmp (o_eq c.cK c.rm) (v_ix c.cK (v_var (i := 0) rfl (by leaf_len) (by decide) (by decide)) v_int rfl) v_str rfl) (ss_cons (s_ret (v_and (v_cmp (o_eq c.cK c.rm) (v_callB (c_len c.cK) (by rfl) T.z_len (by decide +kernel) (l_cons (v_var (i := 0) rfl (by leaf_len) (by decide) (by decide)) l_nil rfl) rfl (by decide) (by decide)) v_int rfl) (v_one (v_calls (FnA.call c ((ok__law_never T).mono (by decide))) (by rfl) T.g__law_never (l_cons (v_ix c.cK (v_var (i := 0) rfl (by leaf_len) (by decide) (by decide)) v_int rfl) (l_cons (v_ix c.cK (v_var (i := 0) rfl (by leaf_len) (by decide) (by decide)) v_int rfl) l_nil rfl) rfl) rfl (by decide))))) ss_nil) (ss_nil)) (ss_cons (s_if (b_of (w_or (b_cmp (o_neZ c.cK c.rm) (v_ix c.cK (v_var (i := 0) rfl (by leaf_len) (by decide) (by decide)) v_int rfl) v_str rfl) (w_or (b_cmp (o_ne c.cK c.rm) (v_callB (c_len c.cK) (by rfl) T.z_len (by decide +kernel) (l_cons (v_var (i := 0) rfl (by leaf_len) (by decide) (by decide)) l_nil rfl) rfl (by decide) (by decide)) v_int rfl) (w_or1 (b_not (b_val (v_calls (FnA.call c ((ok__law_is_number T).mono (by decide))) (by rfl) T.g__law_is_number (l_cons (v_ix c.cK (v_var (i := 0) rfl (by leaf_len) (by decide) (by decide)) v_int rfl) l_nil rfl) rfl (by decide)) (fun _ => rfl))))))) (ss_cons (s_ret v_bool) ss_nil) (ss_nil)) (ss_cons (s_set (i := 2) c rfl (by mem_news) (v_calls (FnA.call c ((ok__law_frac T).mono (by decide))) (by rfl) T.g__law_frac (l_cons (v_ix c.cK (v_var (i := 0) rfl (by leaf_len) (by decide) (by decide)) v_int rfl) l_nil rfl) rfl (by decide)) rfl (.inl rfl)) (ss_cons (s_ret (v_cmp (o_gt) (v_calls (FnA.call c ((ok__law_sign T).mono (by decide))) (by rfl) T.g__law_sign (l_cons (v_calls (FnA.call c ((ok__law_led T).mono (by decide))) (by rfl) T.g__law_led (l_cons (v_ix c.cK (v_var (i := 0) rfl (by leaf_len) (by decide) (by decide)) v_int rfl) (l_cons (v_var (i := 2) rfl (by leaf_len) (by decide) (by decide)) l_nil rfl) rfl) rfl (by decide)) (l_cons (v_calls (FnA.call c ((ok__law_led T).mono (by decide))) (by rfl) T.g__law_led (l_cons (v_ix c.cK (v_var (i := 0) rfl (by leaf_len) (by decide) (by decide)) v_int rfl) (l_cons (v_var (i := 2) rfl (by leaf_len) (by decide) (by decide)) l_nil rfl) rfl) rfl (by decide)) l_nil rfl) rfl) rfl (by decide)) v_int rfl)) ss_nil)))))))⟩
def sem__law_due : List D → M D := runFn 2 3 pk__law_due.1
theorem ok__law_due (T : Facts P w K mg base ad) : FnA P w K mg base (GG b K ad) 6 (ad 64) sem__law_due := by
  obtain ⟨fd, F⟩ := T.f__law_due
  exact fna_rule F sc__law_due (F.binds fun _ _ _ _ _ _ us hl => match us, hl with | [_, _], _ => rfl) rfl (pk__law_due.2 P w K mg base ad b T) rfl rfl (by decide)
def pk__law_right : Σ' ms : MS, ∀ (P : Program) (w : World) (K : PySem.W.Frag) (mg : Str → Option Value) (base : Heap) (ad : Nat → Addr), Facts P w K mg base ad → Body P w K mg base (GG true K ad) 22 (ad 65) ["_law_tape", "_law_turn", "_law_said", "_law_paper"] "_law_right" st__law_right ms :=
  ⟨_, fun P w K mg base ad T cdv A fr s H E c => ss_cons (s_for c (i_rng1 (by rfl) T.z_range (l_cons v_int l_nil rfl) rfl) (g_name (i := 1) c.nd rfl (by mem_news) (.inl rfl)) (ss_cons (s_par (i := 2) (j := 3) c rfl rfl (by decide) rfl rfl (l_cons (v_calls (FnA.call c ((ok__law_case T).mono (by decide))) (by rfl) T.g__law_case (l_cons (v_var (i := 0) rfl (by leaf_len) (by decide) (by decide)) l_nil rfl) rfl (by decide)) (l_cons (v_tup l_nil (by decide)) l_nil rfl) rfl) rfl) (ss_cons (s_if (b_cmp (o_eq c.cK c.rm) (v_calls (FnA.call c ((ok__law_pick T).mono (by decide))) (by rfl) T.g__law_pick (l_cons (v_var (i := 0) rfl (by leaf_len) (by decide) (by decide)) (l_cons v_int l_nil rfl) rfl) rfl (by decide)) v_int rfl) (ss_cons (s_set (i := 2) c rfl (by mem_news) (v_calls (FnA.call c ((ok__law_bent T).mono (by decide))) (by rfl) T.g__law_bent (l_cons (v_var (i := 0) rfl (by leaf_len) (by decide) (by decide)) (l_cons (v_var (i := 2) rfl (by leaf_len) (by decide) (by decide)) l_nil rfl) rfl) rfl (by decide)) rfl (.inl rfl)) (ss_nil)) (ss_nil)) (ss_cons (s_if (b_cmp (o_eq c.cK c.rm) (v_calls (FnA.call c ((ok__law_pick T).mono (by decide))) (by rfl) T.g__law_pick (l_cons (v_var (i := 0) rfl (by leaf_len) (by decide) (by decide)) (l_cons v_int l_nil rfl) rfl) rfl (by decide)) v_int rfl) (ss_cons (s_set (i := 3) c rfl (by mem_news) (v_ix c.cK (v_lst (l_cons v_none (l_cons (v_lst l_nil (by decide)) (l_cons v_str (l_cons (v_tup (l_cons v_int l_nil rfl) (by decide)) (l_cons v_str (l_cons v_dict0 (l_cons (v_tup (l_cons (v_tup l_nil (by decide)) l_nil rfl) (by decide)) (l_cons (v_tup (l_cons v_str (l_cons v_int l_nil rfl) rfl) (by decide)) l_nil rfl) rfl) rfl) rfl) rfl) rfl) rfl) rfl) (by decide)) (v_calls (FnA.call c ((ok__law_pick T).mono (by decide))) (by rfl) T.g__law_pick (l_cons (v_var (i := 0) rfl (by leaf_len) (by decide) (by decide)) (l_cons v_int l_nil rfl) rfl) rfl (by decide)) rfl) rfl (.inl rfl)) (ss_nil)) (ss_nil)) (ss_cons (s_if (b_cmp (o_ne c.cK c.rm) (v_callB (c_repr c.cK c.rm) (by rfl) T.z_repr (by decide +kernel) (l_cons (v_calls (FnA.call c ((ok_accepts T).mono (by decide))) (by rfl) T.g_accepts (l_cons (v_var (i := 2) rfl (by leaf_len) (by decide) (by decide)) (l_cons (v_var (i := 3) rfl (by leaf_len) (by decide) (by decide)) l_nil rfl) rfl) rfl (by decide)) l_nil rfl) rfl (by decide) (by decide)) (v_callB (c_repr c.cK c.rm) (by rfl) T.z_repr (by decide +kernel) (l_cons (v_calls (FnA.call c ((ok__law_due T).mono (by decide))) (by rfl) T.g__law_due (l_cons (v_var (i := 2) rfl (by leaf_len) (by decide) (by decide)) (l_cons (v_var (i := 3) rfl (by leaf_len) (by decide) (by decide)) l_nil rfl) rfl) rfl (by decide)) l_nil rfl) rfl (by decide) (by decide)) rfl) (ss_cons (s_ret v_bool) ss_nil) (ss_nil)) (ss_nil))))) rfl) (ss_cons (s_ret v_bool) ss_nil)⟩
def sem__law_right : List D → M D := runFn 1 4 pk__law_right.1
theorem ok__law_right (T : Facts P w K mg base ad) : FnA P w K mg base (GG true K ad) 24 (ad 65) sem__law_right := by
  obtain ⟨fd, F⟩ := T.f__law_right
  exact fna_rule F sc__law_right (F.binds fun _ _ _ _ _ _ us hl => match us, hl with | [_], _ => rfl) rfl (pk__law_right.2 P w K mg base ad T) rfl rfl (by decide)
def pk__law_src : Σ' ms : MS, ∀ (P : Program) (w : World) (K : PySem.W.Frag) (mg : Str → Option Value) (base : Heap) (ad : Nat → Addr) (b : Bool), Facts P w K mg base ad → Body P w K mg base (GG b K ad) 0 (ad 66) ["_law_number", "_law_digits"] "_law_src" st__law_src ms :=
  ⟨_, fun P w K mg base ad b T cdv A fr s H E c => ss_cons (s_set (i := 1) c rfl (by mem_news) (v_ite (b_of (w_or (b_cmp (o_lt) (v_var (i := 0) rfl (by leaf_len) (by decide) (by decide)) v_int rfl) (w_or1 (b_cmp (o_ge) (v_var (i := 0) rfl (by leaf_len) (by decide) (by decide)) (v_bin (o_pow) v_int v_int) rfl)))) (v_callB (c_abs) (by rfl) T.z_abs (by decide +kernel) (l_cons (v_var (i := 0) rfl (by leaf_len) (by decide) (by decide)) l_nil rfl) rfl (by decide) (by decide)) v_int) rfl (.inl rfl)) (ss_cons (s_ret (v_shr (o_lst (l_cons (v_var (i := 1) rfl (by leaf_len) (by decide) (by decide)) (l_cons (v_bin (o_mod) (v_callTy (c_int) (by rfl) T.z_int (by decide +kernel) (l_cons (v_var (i := 0) rfl (by leaf_len) (by decide) (by decide)) l_nil rfl) rfl (by decide) (by decide)) v_int) (l_cons v_int l_nil rfl) rfl) rfl) (by decide)))) ss_nil)⟩
def sem__law_src : List D → M D := runFn 1 2 pk__law_src.1
theorem ok__law_src (T : Facts P w K mg base ad) : FnA P w K mg base (GG b K ad) 2 (ad 66) sem__law_src := by
  obtain ⟨fd, F⟩ := T.f__law_src
  exact fna_rule F sc__law_src (F.binds fun _ _ _ _ _ _ us hl => match us, hl with | [_], _ => rfl) rfl (pk__law_src.2 P w K mg base ad b T) rfl rfl (by decide)
def pk__law_cell : Σ' ms : MS, ∀ (P : Program) (w : World) (K : PySem.W.Frag) (mg : Str → Option Value) (base : Heap) (ad : Nat → Addr) (b : Bool), Facts P w K mg base ad → Body P w K mg base (GG b K ad) 0 (ad 67) ["_law_script", "_law_place", "_law_found", "_law_number"] "_law_cell" st__law_cell ms :=
  ⟨_, fun P w K mg base ad b T cdv A fr s H E c => ss_cons (s_if (b_cmp (o_lt) (v_var (i := 1) rfl (by leaf_len) (by decide) (by decide)) (v_callB (c_len c.cK) (by rfl) T.z_len (by decide +kernel) (l_cons (v_var (i := 0) rfl (by leaf_len) (by decide) (by decide)) l_nil rfl) rfl (by decide) (by decide)) rfl) (ss_cons (s_ret (v_callTy (c_int) (by rfl) T.z_int (by decide +kernel) (l_cons (v_ix c.cK (v_var (i := 0) rfl (by leaf_len) (by decide) (by decide)) (v_var (i := 1) rfl (by leaf_len) (by decide) (by decide)) rfl) l_nil rfl) rfl (by decide) (by decide))) ss_nil) (ss_nil)) (ss_cons (s_set (i := 2) c rfl (by mem_news) (v_bin (o_add c.cK) (v_bin (o_add c.cK) (v_bin (o_mul c.cK) (v_bin (o_mul c.cK) v_int (v_var (i := 1) rfl (by leaf_len) (by decide) (by decide))) (v_var (i := 1) rfl (by leaf_len) (by decide) (by decide))) (v_bin (o_mul c.cK) v_int (v_var (i := 1) rfl (by leaf_len) (by decide) (by decide)))) v_int) rfl (.inl rfl)) (ss_cons (s_for c (i_seq c (v_slice c.cK (v_var (i := 0) rfl (by leaf_len) (by decide) (by decide)) q_none (q_some v_int))) (g_name (i := 3) c.nd rfl (by mem_news) (.inl rfl)) (ss_cons (s_set (i := 2) c rfl (by mem_news) (v_bin (o_mod) (v_callTy (c_int) (by rfl) T.z_int (by decide +kernel) (l_cons (v_bin (o_add c.cK) (v_bin (o_mul c.cK) (v_var (i := 2) rfl (by leaf_len) (by decide) (by decide)) v_int) (v_var (i := 3) rfl (by leaf_len) (by decide) (by decide))) l_nil rfl) rfl (by decide) (by decide)) v_int) rfl (.inl rfl)) (ss_nil)) rfl) (ss_cons (s_ret (v_var (i := 2) rfl (by leaf_len) (by decide) (by decide))) ss_nil)))⟩
def sem__law_cell : List D → M D := runFn 2 4 pk__law_cell.1
theorem ok__law_cell (T : Facts P w K mg base ad) : FnA P w K mg base (GG b K ad) 2 (ad 67) sem__law_cell := by
  obtain ⟨fd, F⟩ := T.f__law_cell
  exact fna_rule F sc__law_cell (F.binds fun _ _ _ _ _ _ us hl => match us, hl with | [_, _], _ => rfl) rfl (pk__law_cell.2 P w K mg base ad b T) rfl rfl (by decide)
def pk_law : Σ' ms : MS, ∀ (P : Program) (w : World) (K : PySem.W.Frag) (mg : Str → Option Value) (base : Heap) (ad : Nat → Addr), Facts P w K mg base ad → Body P w K mg base (GG true K ad) 24 (ad 68) ["_law_script", "_law_place"] "law" st_law ms :=
  ⟨_, fun P w K mg base ad T cdv A fr s H E c => ss_cons (s_ret (v_callB (c_all c.calm) (by rfl) T.z_all (by decide +kernel) (l_cons (v_lc c (own := [("_law_place", 1)]) (i_rng1 (by rfl) T.z_range (l_cons (v_callB (c_max c.calm) (by rfl) T.z_max (by decide +kernel) (l_cons v_int (l_cons (v_callB (c_min c.calm) (by rfl) T.z_min (by decide +kernel) (l_cons (v_callB (c_len c.cK) (by rfl) T.z_len (by decide +kernel) (l_cons (v_var (i := 0) rfl (by leaf_len) (by decide) (by decide)) l_nil rfl) rfl (by decide) (by decide)) (l_cons v_int l_nil rfl) rfl) rfl (by decide) (by decide)) l_nil rfl) rfl) rfl (by decide) (by decide)) l_nil rfl) rfl) (blkOk_by (N := ["_law_script", "_law_place"]) (sc := defScope st_law) (by decide +kernel)) (fun s H C cl fp => blkP c fun c => (p_name (i := 1) c.nd rfl (by mem_news) (.inr rfl))) (fun s H C cl fp => blkT c fun c => t_nil) (fun s H C cl fp => blkV c fun c => (v_calls (FnA.call c ((ok__law_right T).mono (by decide))) (by rfl) T.g__law_right (l_cons (v_calls (FnA.call c ((ok__law_src T).mono (by decide))) (by rfl) T.g__law_src (l_cons (v_calls (FnA.call c ((ok__law_cell T).mono (by decide))) (by rfl) T.g__law_cell (l_cons (v_var (i := 0) rfl (by leaf_len) (by decide) (by decide)) (l_cons (v_var (i := 1) rfl (by leaf_len) (by decide) (by decide)) l_nil rfl) rfl) rfl (by decide)) l_nil rfl) rfl (by decide)) l_nil rfl) rfl (by decide))) rfl (by decide)) l_nil rfl) rfl (by decide) (by decide))) ss_nil⟩
def sem_law : List D → M D := runFn 1 2 pk_law.1
theorem ok_law (T : Facts P w K mg base ad) : FnA P w K mg base (GG true K ad) 26 (ad 68) sem_law := by
  obtain ⟨fd, F⟩ := T.f_law
  exact fna_rule F sc_law (F.binds fun _ _ _ _ _ _ us hl => match us, hl with | [_], _ => rfl) rfl (pk_law.2 P w K mg base ad T) rfl rfl (by decide)
end K72
set_option maxRecDepth 100000
set_option maxHeartbeats 1000000
set_option exponentiation.threshold 4000
namespace K72
open PySem Ev
theorem runS_expr {α : Type} {g : List SV → M α} {sd : List SV} {S : List Ob} {N : List SV → List Ob → Prop} {R : D → List Ob → Prop} {B C : List SV → List Ob → Prop} : RunS (exS g fun _ => nextS) sd S N R B C ↔ Ev.Run (g sd) S fun _ S' => N sd S' := by
  rw [runS_ex]
  exact Iff.rfl
theorem gcd_step (x y : Int) (hx : 0 ≤ x) (hy : 0 < y) : Int.gcd y (x % y) = Int.gcd x y := by
  show Nat.gcd y.natAbs (x % y).natAbs = Nat.gcd x.natAbs y.natAbs
  rw [Int.natAbs_emod_of_nonneg hx, Nat.gcd_comm y.natAbs, ← Nat.gcd_rec, Nat.gcd_comm]
def Left (x y : Int) (n : Nat) : Prop := ∃ m : Nat, x * y < 2 ^ m ∧ (if x < y then m + 2 else m + 1) ≤ n
theorem left_step {x y : Int} {n : Nat} (hx : 0 ≤ x) (hy : 0 < y) (h : Left x y n) : ∃ n', n' < n ∧ Left y (x % y) n' := by
  obtain ⟨m, h1, h2⟩ := h
  have r0 := Int.emod_nonneg x (show y ≠ 0 by omega)
  have r1 := Int.emod_lt_of_pos x hy
  by_cases l : x < y
  · rw [if_pos l] at h2
    refine ⟨m + 1, by omega, m, ?_, ?_⟩
    · rw [Int.emod_eq_of_lt hx l, Int.mul_comm]
      exact h1
    · rw [if_neg (by omega)]
      exact Nat.le_refl _
  · rw [if_neg l] at h2
    have m0 : m ≠ 0 := by
      rintro rfl
      have z : 0 < x * y := Int.mul_pos (by omega) hy
      simp at h1
      omega
    obtain ⟨m', rfl⟩ : ∃ m', m = m' + 1 := ⟨m - 1, by omega⟩
    refine ⟨m' + 1, by omega, m', ?_, ?_⟩
    · have r2 : x % y ≤ x - y := by
        have q : 1 ≤ x / y := Int.le_ediv_of_mul_le hy (by omega)
        have e := Int.emod_add_mul_ediv x y
        have e2 : y * 1 ≤ y * (x / y) := Int.mul_le_mul_of_nonneg_left q (by omega)
        omega
      have r3 : 2 * (x % y) < x := by omega
      have r4 : y * (2 * (x % y)) < y * x := Int.mul_lt_mul_of_pos_left r3 hy
      have e5 : y * (2 * (x % y)) = 2 * (y * (x % y)) := by grind
      have e6 : y * x = x * y := Int.mul_comm _ _
      have e7 : (2 : Int) ^ (m' + 1) = 2 * 2 ^ m' := by rw [Int.pow_succ, Int.mul_comm]
      omega
    · rw [if_neg (by omega)]
      exact Nat.le_refl _
theorem left_start {x y : Int} (hx : 0 ≤ x) (hy : 0 ≤ y) (bx : x < 2 ^ 1000) (by_ : y < 2 ^ 1000) : ∃ n, n < bigW ∧ Left x y n := by
  refine ⟨2002, by decide, 2000, ?_, by split <;> omega⟩
  have a : x * y ≤ x * 2 ^ 1000 := Int.mul_le_mul_of_nonneg_left (by omega) hx
  have b : x * 2 ^ 1000 < 2 ^ 1000 * 2 ^ 1000 := Int.mul_lt_mul_of_pos_right bx (by decide)
  have c : (2 : Int) ^ 1000 * 2 ^ 1000 = 2 ^ 2000 := by decide
  omega
theorem common_ok (a b : Int) (ha : 0 ≤ a) (hb : 0 ≤ b) (sa : a < 2 ^ 1000) (sb : b < 2 ^ 1000) : sem_common [.int a, .int b] = M.pure (.int (Int.gcd a b)) := by
  refine pure_of fun S => ?_
  obtain ⟨n, hn, hl⟩ := left_start ha hb sa sb
  unfold sem_common
  rw [run_fn]
  refine ⟨rfl, ?_⟩
  unfold pk_common
  rw [runS_seq]
  refine iter_rule (J := fun n sd S' => S' = S ∧ ∃ x y : Int, sd = [.val (.int x), .val (.int y)] ∧ 0 ≤ x ∧ 0 ≤ y ∧ Int.gcd x y = Int.gcd a b ∧ Left x y n) ?_ bigW n _ _ hn ⟨rfl, a, b, rfl, ha, hb, rfl, hl⟩
  rintro n sd S' ⟨rfl, x, y, rfl, hx, hy, hg, hn⟩
  simp only [run_pure, run_bind, run_ite, run_noErr, run_stuck, runS_next, runS_stuck, runS_seq, runS_ret, runS_par, runS_own, runS_for, runS_if, runS_tgt, runS_expr, setT, tupT, consT, getv, on1, on2, toB_bl, add_int, sub_int, cmp_int, int_int, List.getElem?_cons_zero, List.getElem?_cons_succ, List.set_cons_zero, List.set_cons_succ, List.length_cons, List.length_nil, if_true, reduceIte, Nat.reduceAdd, Nat.reduceEqDiff]
  by_cases h : 0 < y
  · simp only [h, decide_true, if_true]
    try simp only [run_pure, run_bind, run_ite, run_noErr, run_stuck, runS_next, runS_stuck, runS_seq, runS_ret, runS_par, runS_own, runS_for, runS_if, runS_tgt, runS_expr, setT, tupT, consT, getv, on1, on2, toB_bl, add_int, sub_int, cmp_int, int_int, List.getElem?_cons_zero, List.getElem?_cons_succ, List.set_cons_zero, List.set_cons_succ, List.length_cons, List.length_nil, if_true, reduceIte, Nat.reduceAdd, Nat.reduceEqDiff]
    simp only [mod_int h]
    try simp only [run_pure, run_bind, run_ite, run_noErr, run_stuck, runS_next, runS_stuck, runS_seq, runS_ret, runS_par, runS_own, runS_for, runS_if, runS_tgt, runS_expr, setT, tupT, consT, getv, on1, on2, toB_bl, add_int, sub_int, cmp_int, int_int, List.getElem?_cons_zero, List.getElem?_cons_succ, List.set_cons_zero, List.set_cons_succ, List.length_cons, List.length_nil, if_true, reduceIte, Nat.reduceAdd, Nat.reduceEqDiff]
    obtain ⟨n', l', h'⟩ := left_step hx h hn
    exact ⟨n', l', trivial, y, x % y, rfl, hy, Int.emod_nonneg x (by omega), (gcd_step x y hx h).trans hg, h'⟩
  · have y0 : y = 0 := by omega
    subst y0
    simp only [h, decide_false]
    try simp only [run_pure, run_bind, run_ite, run_noErr, run_stuck, runS_next, runS_stuck, runS_seq, runS_ret, runS_par, runS_own, runS_for, runS_if, runS_tgt, runS_expr, setT, tupT, consT, getv, on1, on2, toB_bl, add_int, sub_int, cmp_int, int_int, List.getElem?_cons_zero, List.getElem?_cons_succ, List.set_cons_zero, List.set_cons_succ, List.length_cons, List.length_nil, if_true, reduceIte, Nat.reduceAdd, Nat.reduceEqDiff]
    simp only [Int.gcd_zero] at hg
    refine ⟨?_, trivial⟩
    rw [← hg]
    congr 1
    omega
def lowT (t : Int) (b : Int) : Int := t / (Int.gcd t b : Int)
def lowB (t : Int) (b : Int) : Int := b / (Int.gcd t b : Int)
theorem divOk_gcd {t b : Int} (ht : 0 ≤ t) (hb : 0 ≤ b) (h : 0 < t + b) (st : t < 2 ^ 1000) (sb : b < 2 ^ 1000) : divOk (Int.gcd t b : Int) = true := by
  have g0 : 0 < Int.gcd t b := by
    rw [Int.gcd_pos_iff]
    omega
  have g1 : Int.gcd t b < 2 ^ 1000 := by
    by_cases e : t = 0
    · subst e
      rw [Int.gcd_zero_left]
      omega
    · have := Nat.le_of_dvd (by omega) (Int.gcd_dvd_natAbs_left t b)
      omega
  unfold divOk
  rw [Bool.and_eq_true]
  refine ⟨decide_eq_true (by omega), decide_eq_true ?_⟩
  rw [Int.natAbs_natCast]
  have := (Nat.log2_lt (by omega)).mpr g1
  omega
theorem lowest_ok (t b : Int) (ht : 0 ≤ t) (hb : 0 ≤ b) (h : 0 < t + b) (st : t < 2 ^ 1000) (sb : b < 2 ^ 1000) : sem_lowest [.int t, .int b] = M.pure (.tup [.int (lowT t b), .int (lowB t b)]) := by
  refine pure_of fun S => ?_
  have d := divOk_gcd ht hb h st sb
  unfold sem_lowest
  rw [run_fn]
  refine ⟨rfl, ?_⟩
  show RunS pk_lowest.1 [.val (.int t), .val (.int b), .no] S _ _ _ _
  unfold pk_lowest
  simp only [run_pure, run_bind, run_ite, run_noErr, run_stuck, runS_next, runS_stuck, runS_seq, runS_ret, runS_par, runS_own, runS_for, runS_if, runS_tgt, runS_expr, setT, tupT, consT, getv, on1, on2, toB_bl, add_int, sub_int, cmp_int, int_int, List.getElem?_cons_zero, List.getElem?_cons_succ, List.set_cons_zero, List.set_cons_succ, List.length_cons, List.length_nil, if_true, reduceIte, Nat.reduceAdd, Nat.reduceEqDiff]
  simp only [common_ok t b ht hb st sb]
  simp only [run_pure, run_bind, run_ite, run_noErr, run_stuck, runS_next, runS_stuck, runS_seq, runS_ret, runS_par, runS_own, runS_for, runS_if, runS_tgt, runS_expr, setT, tupT, consT, getv, on1, on2, toB_bl, add_int, sub_int, cmp_int, int_int, List.getElem?_cons_zero, List.getElem?_cons_succ, List.set_cons_zero, List.set_cons_succ, List.length_cons, List.length_nil, if_true, reduceIte, Nat.reduceAdd, Nat.reduceEqDiff]
  simp only [fdiv_int d]
  try simp only [run_pure, run_bind, run_ite, run_noErr, run_stuck, runS_next, runS_stuck, runS_seq, runS_ret, runS_par, runS_own, runS_for, runS_if, runS_tgt, runS_expr, setT, tupT, consT, getv, on1, on2, toB_bl, add_int, sub_int, cmp_int, int_int, List.getElem?_cons_zero, List.getElem?_cons_succ, List.set_cons_zero, List.set_cons_succ, List.length_cons, List.length_nil, if_true, reduceIte, Nat.reduceAdd, Nat.reduceEqDiff]
  exact ⟨rfl, trivial⟩
def Sm (k : Nat) (x : Int) : Prop := 0 ≤ x ∧ x < 2 ^ k
theorem Sm.mono {j k : Nat} {x : Int} (h : Sm j x) (l : j ≤ k) : Sm k x := ⟨h.1, Int.lt_of_lt_of_le h.2 (by exact_mod_cast Nat.pow_le_pow_right (by decide) l)⟩
theorem Sm.mul {j k : Nat} {x y : Int} (h : Sm j x) (l : Sm k y) : Sm (j + k) (x * y) := by
  refine ⟨Int.mul_nonneg h.1 l.1, ?_⟩
  have a : x * y ≤ x * 2 ^ k := Int.mul_le_mul_of_nonneg_left (by have := l.2; omega) h.1
  have p : (0 : Int) < 2 ^ k := Int.pow_pos (by decide)
  have b : x * 2 ^ k < 2 ^ j * 2 ^ k := Int.mul_lt_mul_of_pos_right h.2 p
  rw [Int.pow_add]
  omega
theorem Sm.add {k : Nat} {x y : Int} (h : Sm k x) (l : Sm k y) : Sm (k + 1) (x + y) := by
  have a := h.1
  have b := h.2
  have c := l.1
  have d := l.2
  refine ⟨by omega, ?_⟩
  rw [Int.pow_succ]
  omega
theorem Sm.nat {k : Nat} {x : Int} (h : Sm k x) : x.natAbs < 2 ^ k := by
  have a := h.1
  have b := h.2
  have e : ((x.natAbs : Nat) : Int) = x := by omega
  have c : ((x.natAbs : Nat) : Int) < ((2 ^ k : Nat) : Int) := by
    rw [e]
    simpa using b
  exact_mod_cast c
theorem mulS {j k : Nat} {x y : Int} (h : Sm j x) (l : Sm k y) (c : j + k ≤ 134217728) : dMul (.int x) (.int y) = M.pure (.int (x * y)) := mul_int (mulOk_by h.nat l.nat c)
structure Mx where
  a : Int
  b : Int
  c : Int
  d : Int
def Mx.D (m : Mx) : Ev.D := .tup [.int m.a, .int m.b, .int m.c, .int m.d]
def Mx.mul (m n : Mx) : Mx := ⟨m.a * n.a + m.b * n.c, m.a * n.b + m.b * n.d, m.c * n.a + m.d * n.c, m.c * n.b + m.d * n.d⟩
structure Mx.S (k : Nat) (m : Mx) : Prop where
  a : Sm k m.a
  b : Sm k m.b
  c : Sm k m.c
  d : Sm k m.d
theorem joined_ok {k : Nat} (m n : Mx) (hm : m.S k) (hn : n.S k) (hk : k ≤ 10000) : sem_joined [m.D, n.D] = M.pure (m.mul n).D := by
  refine pure_of fun S => ?_
  have l : k + k ≤ 134217728 := by omega
  unfold sem_joined
  rw [run_fn]
  refine ⟨rfl, ?_⟩
  show RunS pk_joined.1 [.val m.D, .val n.D, .no, .no, .no, .no, .no, .no, .no, .no] S _ _ _ _
  unfold pk_joined Mx.D
  simp only [run_pure, run_bind, run_ite, run_noErr, run_stuck, runS_next, runS_stuck, runS_seq, runS_ret, runS_par, runS_own, runS_for, runS_if, runS_tgt, runS_expr, setT, tupT, consT, getv, on1, on2, toB_bl, add_int, sub_int, cmp_int, int_int, List.getElem?_cons_zero, List.getElem?_cons_succ, List.set_cons_zero, List.set_cons_succ, List.length_cons, List.length_nil, if_true, reduceIte, Nat.reduceAdd, Nat.reduceEqDiff]
  simp only [mulS hm.a hn.a l, mulS hm.b hn.c l, mulS hm.a hn.b l, mulS hm.b hn.d l, mulS hm.c hn.a l, mulS hm.d hn.c l, mulS hm.c hn.b l, mulS hm.d hn.d l]
  simp only [run_pure, run_bind, run_ite, run_noErr, run_stuck, runS_next, runS_stuck, runS_seq, runS_ret, runS_par, runS_own, runS_for, runS_if, runS_tgt, runS_expr, setT, tupT, consT, getv, on1, on2, toB_bl, add_int, sub_int, cmp_int, int_int, List.getElem?_cons_zero, List.getElem?_cons_succ, List.set_cons_zero, List.set_cons_succ, List.length_cons, List.length_nil, if_true, reduceIte, Nat.reduceAdd, Nat.reduceEqDiff]
  exact ⟨rfl, trivial⟩
structure Pc where
  rail : Bool
  o : Int
def Pc.ok (p : Pc) : Prop := 1 ≤ p.o ∧ p.o ≤ 12
def Pc.w (p : Pc) : Str := if p.rail then "rail" else "rung"
def Pc.D (p : Pc) : Ev.D := .tup [.str p.w, .int p.o]
def Pc.m (p : Pc) : Mx := if p.rail then ⟨1, p.o, 0, 1⟩ else ⟨p.o, 0, 1, p.o⟩
def rowD (r : List Pc) : Ev.D := .tup (r.map Pc.D)
theorem Pc.sm {p : Pc} (h : p.ok) : Sm 4 p.o := ⟨by have := h.1; omega, by have := h.2; show p.o < 16; omega⟩
theorem Pc.ms {p : Pc} (h : p.ok) : p.m.S 4 := by
  have s := Pc.sm h
  have z : Sm 4 0 := ⟨by decide, by decide⟩
  have u : Sm 4 1 := ⟨by decide, by decide⟩
  unfold Pc.m
  split
  · exact ⟨u, s, z, u⟩
  · exact ⟨s, z, u, s⟩
theorem Mx.S.mul {j k : Nat} {m n : Mx} (h : m.S j) (l : n.S k) : (m.mul n).S (j + k + 1) :=
  ⟨(h.a.mul l.a).add (h.b.mul l.c), (h.a.mul l.b).add (h.b.mul l.d), (h.c.mul l.a).add (h.d.mul l.c), (h.c.mul l.b).add (h.d.mul l.d)⟩
theorem Mx.S.mono {j k : Nat} {m : Mx} (h : m.S j) (l : j ≤ k) : m.S k := ⟨h.a.mono l, h.b.mono l, h.c.mono l, h.d.mono l⟩
def chainM : Mx → Int → List Pc → Mx × Int
  | m, t, [] => (m, t)
  | m, t, p :: r => chainM (m.mul p.m) (if p.rail then t else t * p.o) r
def one : Mx := ⟨1, 0, 0, 1⟩
theorem eq_str (x y : Str) : dEq false (.str x) (.str y) = M.pure (.bl (decide (x = y))) := rfl
theorem rail_eq : decide (("rail" : Str) = "rail") = true := by decide
theorem rung_ne : decide (("rung" : Str) = "rail") = false := by decide
theorem chain_ok (r : List Pc) (hr : ∀ p ∈ r, p.ok) (hl : r.length ≤ 8) : sem_chain_of [rowD r] = M.pure (.tup [(chainM one 1 r).1.D, .int (chainM one 1 r).2]) := by
  refine pure_of fun S => ?_
  unfold sem_chain_of
  rw [run_fn]
  refine ⟨rfl, ?_⟩
  show RunS pk_chain_of.1 [.val (rowD r), .no, .no, .no, .no] S _ _ _ _
  unfold pk_chain_of rowD
  simp only [run_pure, run_bind, run_ite, run_noErr, run_stuck, runS_next, runS_stuck, runS_seq, runS_ret, runS_par, runS_own, runS_for, runS_if, runS_tgt, runS_expr, setT, tupT, consT, getv, on1, on2, toB_bl, add_int, sub_int, cmp_int, int_int, List.getElem?_cons_zero, List.getElem?_cons_succ, List.set_cons_zero, List.set_cons_succ, List.length_cons, List.length_nil, if_true, reduceIte, Nat.reduceAdd, Nat.reduceEqDiff]
  unfold seqOf
  simp only [run_pure, run_bind, run_ite, run_noErr, run_stuck, runS_next, runS_stuck, runS_seq, runS_ret, runS_par, runS_own, runS_for, runS_if, runS_tgt, runS_expr, setT, tupT, consT, getv, on1, on2, toB_bl, add_int, sub_int, cmp_int, int_int, List.getElem?_cons_zero, List.getElem?_cons_succ, List.set_cons_zero, List.set_cons_succ, List.length_cons, List.length_nil, if_true, reduceIte, Nat.reduceAdd, Nat.reduceEqDiff]
  refine loop_rule (J := fun ds sd S' => S' = S ∧ ∃ (r' : List Pc) (m : Mx) (t : Int) (k : Nat) (u v : SV), ds = r'.map Pc.D ∧ sd = [.val (.tup (r.map Pc.D)), .val m.D, .val (.int t), u, v] ∧ chainM m t r' = chainM one 1 r ∧ m.S k ∧ Sm k t ∧ k + 5 * r'.length ≤ 100 ∧ ∀ p ∈ r', p.ok) ?_ ?_ _ _ _ ?_
  · rintro d ds sd S' ⟨rfl, r', m, t, k, u, v, e, rfl, ch, hm, ht, hk, ho⟩
    rcases r' with _ | ⟨p, r'⟩
    · cases e
    rw [List.map_cons] at e
    cases e
    have hp := ho p List.mem_cons_self
    have hk : k + 5 * (r'.length + 1) ≤ 100 := by simpa using hk
    refine ⟨_, _, rfl, ?_⟩
    have jm := joined_ok m p.m (hm.mono (by omega : k ≤ k + 4)) ((Pc.ms hp).mono (by omega : 4 ≤ k + 4)) (by omega)
    have hm2 : (m.mul p.m).S (k + 5) := hm.mul (Pc.ms hp)
    have hr2 : ∀ q ∈ r', q.ok := fun q hq => ho q (List.mem_cons_of_mem _ hq)
    rcases p with ⟨_ | _, o⟩
    · simp only [run_pure, run_bind, run_ite, run_noErr, run_stuck, runS_next, runS_stuck, runS_seq, runS_ret, runS_par, runS_own, runS_for, runS_if, runS_tgt, runS_expr, setT, tupT, consT, getv, on1, on2, toB_bl, add_int, sub_int, cmp_int, int_int, List.getElem?_cons_zero, List.getElem?_cons_succ, List.set_cons_zero, List.set_cons_succ, List.length_cons, List.length_nil, if_true, reduceIte, Nat.reduceAdd, Nat.reduceEqDiff]
      simp only [eq_str, Pc.w, Bool.false_eq_true, if_false, rung_ne]
      simp only [run_pure, run_bind, run_ite, run_noErr, run_stuck, runS_next, runS_stuck, runS_seq, runS_ret, runS_par, runS_own, runS_for, runS_if, runS_tgt, runS_expr, setT, tupT, consT, getv, on1, on2, toB_bl, add_int, sub_int, cmp_int, int_int, List.getElem?_cons_zero, List.getElem?_cons_succ, List.set_cons_zero, List.set_cons_succ, List.length_cons, List.length_nil, if_true, reduceIte, Nat.reduceAdd, Nat.reduceEqDiff]
      rw [if_neg Bool.false_ne_true]
      have jm : sem_joined [m.D, .tup [.int o, .int 0, .int 1, .int o]] = M.pure (m.mul (Pc.m ⟨false, o⟩)).D := jm
      have so : Sm 4 o := Pc.sm hp
      rw [jm]
      simp only [run_pure, run_bind, run_ite, run_noErr, run_stuck, runS_next, runS_stuck, runS_seq, runS_ret, runS_par, runS_own, runS_for, runS_if, runS_tgt, runS_expr, setT, tupT, consT, getv, on1, on2, toB_bl, add_int, sub_int, cmp_int, int_int, List.getElem?_cons_zero, List.getElem?_cons_succ, List.set_cons_zero, List.set_cons_succ, List.length_cons, List.length_nil, if_true, reduceIte, Nat.reduceAdd, Nat.reduceEqDiff]
      rw [mulS ht so (by omega)]
      simp only [run_pure, run_bind, run_ite, run_noErr, run_stuck, runS_next, runS_stuck, runS_seq, runS_ret, runS_par, runS_own, runS_for, runS_if, runS_tgt, runS_expr, setT, tupT, consT, getv, on1, on2, toB_bl, add_int, sub_int, cmp_int, int_int, List.getElem?_cons_zero, List.getElem?_cons_succ, List.set_cons_zero, List.set_cons_succ, List.length_cons, List.length_nil, if_true, reduceIte, Nat.reduceAdd, Nat.reduceEqDiff]
      exact ⟨trivial, r', _, _, k + 5, _, _, rfl, rfl, ch, hm2, (ht.mul so).mono (by omega), by omega, hr2⟩
    · simp only [run_pure, run_bind, run_ite, run_noErr, run_stuck, runS_next, runS_stuck, runS_seq, runS_ret, runS_par, runS_own, runS_for, runS_if, runS_tgt, runS_expr, setT, tupT, consT, getv, on1, on2, toB_bl, add_int, sub_int, cmp_int, int_int, List.getElem?_cons_zero, List.getElem?_cons_succ, List.set_cons_zero, List.set_cons_succ, List.length_cons, List.length_nil, if_true, reduceIte, Nat.reduceAdd, Nat.reduceEqDiff]
      simp only [eq_str, Pc.w, if_true, rail_eq]
      simp only [run_pure, run_bind, run_ite, run_noErr, run_stuck, runS_next, runS_stuck, runS_seq, runS_ret, runS_par, runS_own, runS_for, runS_if, runS_tgt, runS_expr, setT, tupT, consT, getv, on1, on2, toB_bl, add_int, sub_int, cmp_int, int_int, List.getElem?_cons_zero, List.getElem?_cons_succ, List.set_cons_zero, List.set_cons_succ, List.length_cons, List.length_nil, if_true, reduceIte, Nat.reduceAdd, Nat.reduceEqDiff]
      rw [if_pos (decide_eq_true trivial)]
      have jm : sem_joined [m.D, .tup [.int 1, .int o, .int 0, .int 1]] = M.pure (m.mul (Pc.m ⟨true, o⟩)).D := jm
      rw [jm]
      simp only [run_pure, run_bind, run_ite, run_noErr, run_stuck, runS_next, runS_stuck, runS_seq, runS_ret, runS_par, runS_own, runS_for, runS_if, runS_tgt, runS_expr, setT, tupT, consT, getv, on1, on2, toB_bl, add_int, sub_int, cmp_int, int_int, List.getElem?_cons_zero, List.getElem?_cons_succ, List.set_cons_zero, List.set_cons_succ, List.length_cons, List.length_nil, if_true, reduceIte, Nat.reduceAdd, Nat.reduceEqDiff]
      exact ⟨trivial, r', _, _, k + 5, _, _, rfl, rfl, ch, hm2, ht.mono (by omega), by omega, hr2⟩
  · rintro sd S' ⟨rfl, r', m, t, k, u, v, e, rfl, ch, hm, ht, hk, ho⟩
    rcases r' with _ | ⟨p, r'⟩
    · simp only [run_pure, run_bind, run_ite, run_noErr, run_stuck, runS_next, runS_stuck, runS_seq, runS_ret, runS_par, runS_own, runS_for, runS_if, runS_tgt, runS_expr, setT, tupT, consT, getv, on1, on2, toB_bl, add_int, sub_int, cmp_int, int_int, List.getElem?_cons_zero, List.getElem?_cons_succ, List.set_cons_zero, List.set_cons_succ, List.length_cons, List.length_nil, if_true, reduceIte, Nat.reduceAdd, Nat.reduceEqDiff]
      have ch : (m, t) = chainM one 1 r := ch
      rw [← ch]
      exact ⟨rfl, trivial⟩
    · cases e
  · exact ⟨rfl, r, one, 1, 1, _, _, rfl, rfl, rfl, ⟨⟨by decide, by decide⟩, ⟨by decide, by decide⟩, ⟨by decide, by decide⟩, ⟨by decide, by decide⟩⟩, ⟨by decide, by decide⟩, by omega, hr⟩
theorem led_ok {k : Nat} (m : Mx) (t b : Int) (hm : m.S k) (ht : Sm k t) (hb : Sm k b) (hk : k ≤ 10000) : sem_led [m.D, .tup [.int t, .int b]] = M.pure (.tup [.int (m.a * t + m.b * b), .int (m.c * t + m.d * b)]) := by
  refine pure_of fun S => ?_
  have l : k + k ≤ 134217728 := by omega
  unfold sem_led
  rw [run_fn]
  refine ⟨rfl, ?_⟩
  show RunS pk_led.1 [.val m.D, .val (.tup [.int t, .int b]), .no, .no, .no, .no] S _ _ _ _
  unfold pk_led Mx.D
  have i0 : dIx (.tup [.int t, .int b]) (.int 0) = M.pure (.int t) := ix_tup rfl
  have i1 : dIx (.tup [.int t, .int b]) (.int 1) = M.pure (.int b) := ix_tup rfl
  simp only [run_pure, run_bind, run_ite, run_noErr, run_stuck, runS_next, runS_stuck, runS_seq, runS_ret, runS_par, runS_own, runS_for, runS_if, runS_tgt, runS_expr, setT, tupT, consT, getv, on1, on2, toB_bl, add_int, sub_int, cmp_int, int_int, List.getElem?_cons_zero, List.getElem?_cons_succ, List.set_cons_zero, List.set_cons_succ, List.length_cons, List.length_nil, if_true, reduceIte, Nat.reduceAdd, Nat.reduceEqDiff]
  simp only [i0, i1]
  simp only [run_pure, run_bind, run_ite, run_noErr, run_stuck, runS_next, runS_stuck, runS_seq, runS_ret, runS_par, runS_own, runS_for, runS_if, runS_tgt, runS_expr, setT, tupT, consT, getv, on1, on2, toB_bl, add_int, sub_int, cmp_int, int_int, List.getElem?_cons_zero, List.getElem?_cons_succ, List.set_cons_zero, List.set_cons_succ, List.length_cons, List.length_nil, if_true, reduceIte, Nat.reduceAdd, Nat.reduceEqDiff]
  simp only [mulS hm.a ht l, mulS hm.b hb l, mulS hm.c ht l, mulS hm.d hb l]
  simp only [run_pure, run_bind, run_ite, run_noErr, run_stuck, runS_next, runS_stuck, runS_seq, runS_ret, runS_par, runS_own, runS_for, runS_if, runS_tgt, runS_expr, setT, tupT, consT, getv, on1, on2, toB_bl, add_int, sub_int, cmp_int, int_int, List.getElem?_cons_zero, List.getElem?_cons_succ, List.set_cons_zero, List.set_cons_succ, List.length_cons, List.length_nil, if_true, reduceIte, Nat.reduceAdd, Nat.reduceEqDiff]
  exact ⟨trivial, trivial⟩
def Mx.top (m : Mx) (t b : Int) : Int := m.a * t + m.b * b
def Mx.bot (m : Mx) (t b : Int) : Int := m.c * t + m.d * b
theorem isa_int_int (kn : Nat → Bool) (sb : Nat → Nat → Option Bool) (i : Int) : dIsa kn sb (.int i) (.ty .int) = M.pure (.bl true) := rfl
theorem isa_int_bool (kn : Nat → Bool) (sb : Nat → Nat → Option Bool) (i : Int) : dIsa kn sb (.int i) (.ty .bool) = M.pure (.bl false) := rfl
theorem isa_int_tup (kn : Nat → Bool) (sb : Nat → Nat → Option Bool) (i : Int) : dIsa kn sb (.int i) (.ty .tuple) = M.pure (.bl false) := rfl
theorem isa_tup_tup (kn : Nat → Bool) (sb : Nat → Nat → Option Bool) (ds : List D) : dIsa kn sb (.tup ds) (.ty .tuple) = M.pure (.bl true) := rfl
theorem is_integer_ok (i : Int) : sem_is_integer [.int i] = M.pure (.bl true) := by
  refine pure_of fun S => ?_
  unfold sem_is_integer
  rw [run_fn]
  refine ⟨rfl, ?_⟩
  show RunS pk_is_integer.1 [.val (.int i)] S _ _ _ _
  unfold pk_is_integer
  simp only [run_pure, run_bind, run_ite, run_noErr, run_stuck, runS_next, runS_stuck, runS_seq, runS_ret, runS_par, runS_own, runS_for, runS_if, runS_tgt, runS_expr, setT, tupT, consT, getv, on1, on2, toB_bl, add_int, sub_int, cmp_int, int_int, List.getElem?_cons_zero, List.getElem?_cons_succ, List.set_cons_zero, List.set_cons_succ, List.length_cons, List.length_nil, if_true, reduceIte, Nat.reduceAdd, Nat.reduceEqDiff]
  simp only [isa_int_int, isa_int_bool]
  simp only [run_pure, run_bind, run_ite, run_noErr, run_stuck, runS_next, runS_stuck, runS_seq, runS_ret, runS_par, runS_own, runS_for, runS_if, runS_tgt, runS_expr, setT, tupT, consT, getv, on1, on2, toB_bl, add_int, sub_int, cmp_int, int_int, List.getElem?_cons_zero, List.getElem?_cons_succ, List.set_cons_zero, List.set_cons_succ, List.length_cons, List.length_nil, if_true, reduceIte, Nat.reduceAdd, Nat.reduceEqDiff]
  simp
theorem len_tup (ds : List D) : dLen (.tup ds) = M.pure (.int ds.length) := rfl
theorem eq_int (i j : Int) : dEq false (.int i) (.int j) = M.pure (.bl (decide (i = j))) := rfl
theorem ne_int (i j : Int) : dEq true (.int i) (.int j) = M.pure (.bl (!decide (i = j))) := rfl
def LoadT (t b : Int) : Prop := 0 ≤ t ∧ t ≤ 10 ^ 12 ∧ 0 ≤ b ∧ b ≤ 10 ^ 12 ∧ (b = 0 → t = 1)
theorem is_fraction_tup (t b : Int) (h : LoadT t b) : sem_is_fraction [.tup [.int t, .int b]] = M.pure (.bl (decide (1 ≤ b))) := by
  refine pure_of fun S => ?_
  have i0 : dIx (.tup [.int t, .int b]) (.int 0) = M.pure (.int t) := ix_tup rfl
  have i1 : dIx (.tup [.int t, .int b]) (.int 1) = M.pure (.int b) := ix_tup rfl
  unfold sem_is_fraction
  rw [run_fn]
  refine ⟨rfl, ?_⟩
  show RunS pk_is_fraction.1 [.val (.tup [.int t, .int b])] S _ _ _ _
  unfold pk_is_fraction
  simp only [run_pure, run_bind, run_ite, run_noErr, run_stuck, runS_next, runS_stuck, runS_seq, runS_ret, runS_par, runS_own, runS_for, runS_if, runS_tgt, runS_expr, setT, tupT, consT, getv, on1, on2, toB_bl, add_int, sub_int, cmp_int, int_int, List.getElem?_cons_zero, List.getElem?_cons_succ, List.set_cons_zero, List.set_cons_succ, List.length_cons, List.length_nil, if_true, reduceIte, Nat.reduceAdd, Nat.reduceEqDiff]
  have e2 : ([D.int t, D.int b].length : Int) = 2 := rfl
  simp only [run_pure, run_bind, run_ite, run_noErr, run_stuck, runS_next, runS_stuck, runS_seq, runS_ret, runS_par, runS_own, runS_for, runS_if, runS_tgt, runS_expr, setT, tupT, consT, getv, on1, on2, toB_bl, add_int, sub_int, cmp_int, int_int, List.getElem?_cons_zero, List.getElem?_cons_succ, List.set_cons_zero, List.set_cons_succ, List.length_cons, List.length_nil, if_true, reduceIte, Nat.reduceAdd, Nat.reduceEqDiff, Bool.not_true, Bool.not_false, Bool.false_eq_true, if_false, decide_true, decide_false, Bool.true_eq_false, and_true, true_and, isa_tup_tup, len_tup, eq_int, is_integer_ok, i0, i1, e2]
  have h0 : decide ((0 : Int) ≤ t) = true := decide_eq_true h.1
  simp only [h0, if_true]
  trivial
theorem eq_open : dEq false (.tup [.int 1, .int 0]) (.tup [.int 1, .int 0]) = M.pure (.bl true) := by
  with_unfolding_all rfl
theorem is_number_tup (t b : Int) (h : LoadT t b) : sem_is_number [.tup [.int t, .int b]] = M.pure (.bl true) := by
  refine pure_of fun S => ?_
  have i0 : dIx (.tup [.int t, .int b]) (.int 0) = M.pure (.int t) := ix_tup rfl
  have i1 : dIx (.tup [.int t, .int b]) (.int 1) = M.pure (.int b) := ix_tup rfl
  unfold sem_is_number
  rw [run_fn]
  refine ⟨rfl, ?_⟩
  show RunS pk_is_number.1 [.val (.tup [.int t, .int b])] S _ _ _ _
  unfold pk_is_number
  have e2 : ([D.int t, D.int b].length : Int) = 2 := rfl
  by_cases hb : 1 ≤ b
  · have hd : decide (1 ≤ b) = true := decide_eq_true hb
    simp only [run_pure, run_bind, run_ite, run_noErr, run_stuck, runS_next, runS_stuck, runS_seq, runS_ret, runS_par, runS_own, runS_for, runS_if, runS_tgt, runS_expr, setT, tupT, consT, getv, on1, on2, toB_bl, add_int, sub_int, cmp_int, int_int, List.getElem?_cons_zero, List.getElem?_cons_succ, List.set_cons_zero, List.set_cons_succ, List.length_cons, List.length_nil, if_true, reduceIte, Nat.reduceAdd, Nat.reduceEqDiff, Bool.not_true, Bool.not_false, Bool.false_eq_true, if_false, decide_true, decide_false, Bool.true_eq_false, and_true, true_and, is_fraction_tup t b h, hd]
  · have hd : decide (1 ≤ b) = false := decide_eq_false hb
    have b0 : b = 0 := by have := h.2.2.1; omega
    have t1 : t = 1 := h.2.2.2.2 b0
    subst b0 t1
    simp only [run_pure, run_bind, run_ite, run_noErr, run_stuck, runS_next, runS_stuck, runS_seq, runS_ret, runS_par, runS_own, runS_for, runS_if, runS_tgt, runS_expr, setT, tupT, consT, getv, on1, on2, toB_bl, add_int, sub_int, cmp_int, int_int, List.getElem?_cons_zero, List.getElem?_cons_succ, List.set_cons_zero, List.set_cons_succ, List.length_cons, List.length_nil, if_true, reduceIte, Nat.reduceAdd, Nat.reduceEqDiff, Bool.not_true, Bool.not_false, Bool.false_eq_true, if_false, decide_true, decide_false, Bool.true_eq_false, and_true, true_and, is_fraction_tup 1 0 h, hd, isa_tup_tup, len_tup, ne_int, is_integer_ok, i0, i1, e2, eq_open]
    trivial
theorem is_resistance_tup (t b : Int) (h : LoadT t b) : sem_is_resistance [.tup [.int t, .int b]] = M.pure (.bl true) := by
  refine pure_of fun S => ?_
  have i0 : dIx (.tup [.int t, .int b]) (.int 0) = M.pure (.int t) := ix_tup rfl
  have i1 : dIx (.tup [.int t, .int b]) (.int 1) = M.pure (.int b) := ix_tup rfl
  unfold sem_is_resistance
  rw [run_fn]
  refine ⟨rfl, ?_⟩
  show RunS pk_is_resistance.1 [.val (.tup [.int t, .int b])] S _ _ _ _
  unfold pk_is_resistance
  have h1 : decide (t ≤ 1000000000000) = true := decide_eq_true h.2.1
  have h2 : decide (b ≤ 1000000000000) = true := decide_eq_true h.2.2.2.1
  simp only [run_pure, run_bind, run_ite, run_noErr, run_stuck, runS_next, runS_stuck, runS_seq, runS_ret, runS_par, runS_own, runS_for, runS_if, runS_tgt, runS_expr, setT, tupT, consT, getv, on1, on2, toB_bl, add_int, sub_int, cmp_int, int_int, List.getElem?_cons_zero, List.getElem?_cons_succ, List.set_cons_zero, List.set_cons_succ, List.length_cons, List.length_nil, if_true, reduceIte, Nat.reduceAdd, Nat.reduceEqDiff, Bool.not_true, Bool.not_false, Bool.false_eq_true, if_false, decide_true, decide_false, Bool.true_eq_false, and_true, true_and, is_number_tup t b h, isa_tup_tup, i0, i1, h1, h2]
theorem check_tup (t b : Int) (h : LoadT t b) : sem_check_resistance [.tup [.int t, .int b]] = M.pure .non := by
  refine pure_of fun S => ?_
  unfold sem_check_resistance
  rw [run_fn]
  refine ⟨rfl, ?_⟩
  show RunS pk_check_resistance.1 [.val (.tup [.int t, .int b])] S _ _ _ _
  unfold pk_check_resistance
  simp only [run_pure, run_bind, run_ite, run_noErr, run_stuck, runS_next, runS_stuck, runS_seq, runS_ret, runS_par, runS_own, runS_for, runS_if, runS_tgt, runS_expr, setT, tupT, consT, getv, on1, on2, toB_bl, add_int, sub_int, cmp_int, int_int, List.getElem?_cons_zero, List.getElem?_cons_succ, List.set_cons_zero, List.set_cons_succ, List.length_cons, List.length_nil, if_true, reduceIte, Nat.reduceAdd, Nat.reduceEqDiff, Bool.not_true, Bool.not_false, Bool.false_eq_true, if_false, decide_true, decide_false, Bool.true_eq_false, and_true, true_and, is_resistance_tup t b h]
theorem is_fraction_int (n : Int) (h : 0 ≤ n) : sem_is_fraction [.int n] = M.pure (.bl true) := by
  refine pure_of fun S => ?_
  unfold sem_is_fraction
  rw [run_fn]
  refine ⟨rfl, ?_⟩
  show RunS pk_is_fraction.1 [.val (.int n)] S _ _ _ _
  unfold pk_is_fraction
  have h1 : decide (0 ≤ n) = true := decide_eq_true h
  simp only [run_pure, run_bind, run_ite, run_noErr, run_stuck, runS_next, runS_stuck, runS_seq, runS_ret, runS_par, runS_own, runS_for, runS_if, runS_tgt, runS_expr, setT, tupT, consT, getv, on1, on2, toB_bl, add_int, sub_int, cmp_int, int_int, List.getElem?_cons_zero, List.getElem?_cons_succ, List.set_cons_zero, List.set_cons_succ, List.length_cons, List.length_nil, if_true, reduceIte, Nat.reduceAdd, Nat.reduceEqDiff, Bool.not_true, Bool.not_false, Bool.false_eq_true, if_false, decide_true, decide_false, Bool.true_eq_false, and_true, true_and, isa_int_tup, is_integer_ok, h1]
theorem is_resistance_int (n : Int) (h : 0 ≤ n) (h2 : n ≤ 10 ^ 12) : sem_is_resistance [.int n] = M.pure (.bl true) := by
  refine pure_of fun S => ?_
  have num : sem_is_number [.int n] = M.pure (.bl true) := by
    refine pure_of fun S => ?_
    unfold sem_is_number
    rw [run_fn]
    refine ⟨rfl, ?_⟩
    show RunS pk_is_number.1 [.val (.int n)] S _ _ _ _
    unfold pk_is_number
    simp only [run_pure, run_bind, run_ite, run_noErr, run_stuck, runS_next, runS_stuck, runS_seq, runS_ret, runS_par, runS_own, runS_for, runS_if, runS_tgt, runS_expr, setT, tupT, consT, getv, on1, on2, toB_bl, add_int, sub_int, cmp_int, int_int, List.getElem?_cons_zero, List.getElem?_cons_succ, List.set_cons_zero, List.set_cons_succ, List.length_cons, List.length_nil, if_true, reduceIte, Nat.reduceAdd, Nat.reduceEqDiff, Bool.not_true, Bool.not_false, Bool.false_eq_true, if_false, decide_true, decide_false, Bool.true_eq_false, and_true, true_and, is_fraction_int n h]
  unfold sem_is_resistance
  rw [run_fn]
  refine ⟨rfl, ?_⟩
  show RunS pk_is_resistance.1 [.val (.int n)] S _ _ _ _
  unfold pk_is_resistance
  have h1 : decide (n ≤ 1000000000000) = true := decide_eq_true h2
  simp only [run_pure, run_bind, run_ite, run_noErr, run_stuck, runS_next, runS_stuck, runS_seq, runS_ret, runS_par, runS_own, runS_for, runS_if, runS_tgt, runS_expr, setT, tupT, consT, getv, on1, on2, toB_bl, add_int, sub_int, cmp_int, int_int, List.getElem?_cons_zero, List.getElem?_cons_succ, List.set_cons_zero, List.set_cons_succ, List.length_cons, List.length_nil, if_true, reduceIte, Nat.reduceAdd, Nat.reduceEqDiff, Bool.not_true, Bool.not_false, Bool.false_eq_true, if_false, decide_true, decide_false, Bool.true_eq_false, and_true, true_and, num, isa_int_tup, h1]
theorem check_int (n : Int) (h : 0 ≤ n) (h2 : n ≤ 10 ^ 12) : sem_check_resistance [.int n] = M.pure .non := by
  refine pure_of fun S => ?_
  unfold sem_check_resistance
  rw [run_fn]
  refine ⟨rfl, ?_⟩
  show RunS pk_check_resistance.1 [.val (.int n)] S _ _ _ _
  unfold pk_check_resistance
  simp only [run_pure, run_bind, run_ite, run_noErr, run_stuck, runS_next, runS_stuck, runS_seq, runS_ret, runS_par, runS_own, runS_for, runS_if, runS_tgt, runS_expr, setT, tupT, consT, getv, on1, on2, toB_bl, add_int, sub_int, cmp_int, int_int, List.getElem?_cons_zero, List.getElem?_cons_succ, List.set_cons_zero, List.set_cons_succ, List.length_cons, List.length_nil, if_true, reduceIte, Nat.reduceAdd, Nat.reduceEqDiff, Bool.not_true, Bool.not_false, Bool.false_eq_true, if_false, decide_true, decide_false, Bool.true_eq_false, and_true, true_and, is_resistance_int n h h2]
theorem pair_of_int (n : Int) : sem_pair_of [.int n] = M.pure (.tup [.int n, .int 1]) := by
  refine pure_of fun S => ?_
  unfold sem_pair_of
  rw [run_fn]
  refine ⟨rfl, ?_⟩
  show RunS pk_pair_of.1 [.val (.int n)] S _ _ _ _
  unfold pk_pair_of
  simp only [run_pure, run_bind, run_ite, run_noErr, run_stuck, runS_next, runS_stuck, runS_seq, runS_ret, runS_par, runS_own, runS_for, runS_if, runS_tgt, runS_expr, setT, tupT, consT, getv, on1, on2, toB_bl, add_int, sub_int, cmp_int, int_int, List.getElem?_cons_zero, List.getElem?_cons_succ, List.set_cons_zero, List.set_cons_succ, List.length_cons, List.length_nil, if_true, reduceIte, Nat.reduceAdd, Nat.reduceEqDiff, Bool.not_true, Bool.not_false, Bool.false_eq_true, if_false, decide_true, decide_false, Bool.true_eq_false, and_true, true_and, isa_int_tup]
section
variable {S : List Ob} {c m n : Nat} {ms : MS} {ds : List D} {Q : D → List Ob → Prop} {sd : List SV} {N : List SV → List Ob → Prop} {R : D → List Ob → Prop} {B C : List SV → List Ob → Prop}
theorem run_mkFn : Run (mkFn c m n ms ds) S Q ↔ ds.length + 1 = m ∧ RunS ms (slots n (.own (.ins c []) :: ds.map .val)) S (fun sd S' => match sd[0]? with | some (SV.own (Ob.ins c' es)) => if c' = c then Q (.ins c es) S' else False | _ => False) (fun _ _ => False) (fun _ _ => False) (fun _ _ => False) := by
  unfold Ev.Run mkFn RunS
  by_cases h : ds.length + 1 = m
  · simp only [h, if_true, true_and]
    rcases ms (slots n (.own (.ins c []) :: ds.map .val)) S with _ | ⟨sd | _ | _ | _ | _, S'⟩
    · exact Iff.rfl
    · unfold mkR
      simp only
      rcases sd[0]? with _ | _ | _ | ⟨_ | _ | ⟨c', es⟩⟩
      · exact Iff.rfl
      · exact Iff.rfl
      · exact Iff.rfl
      · exact Iff.rfl
      · exact Iff.rfl
      · simp only
        by_cases e : c' = c
        · rw [if_pos e, if_pos e]
        · rw [if_neg e, if_neg e]
    · exact Iff.rfl
    · exact Iff.rfl
    · exact Iff.rfl
    · exact Iff.rfl
  · simp only [h, if_false, false_and]
theorem runS_setF {i : Nat} {tbl : Nat → Option Nat} {g : List SV → M D} : RunS (setFS i tbl g) sd S N R B C ↔ Run (g sd) S fun d S' => match sd[i]? with
    | some (SV.own (Ob.ins c ds)) => (match tbl c with
      | some j => (match putL ds j d with
        | some es => N (sd.set i (.own (.ins c es))) S'
        | none => False)
      | none => False)
    | _ => False := by
  unfold setFS
  rw [runS_ex]
  unfold Ev.Run
  rcases g sd S with _ | ⟨_ | d, S'⟩
  · exact Iff.rfl
  · exact Iff.rfl
  · unfold RunS
    simp only
    rcases sd[i]? with _ | _ | _ | ⟨_ | _ | ⟨c', es⟩⟩
    · exact Iff.rfl
    · exact Iff.rfl
    · exact Iff.rfl
    · exact Iff.rfl
    · exact Iff.rfl
    · simp only
      rcases tbl c' with _ | j
      · exact Iff.rfl
      · simp only
        rcases putL es j d with _ | es2
        · exact Iff.rfl
        · exact Iff.rfl
end
def patD (r : List Pc) : D := .ins 1 [rowD r, (chainM one 1 r).1.D, .int (chainM one 1 r).2]
theorem row_ok (d : D) : sem_RowX_initX [d] = M.pure (.ins 0 [d]) := by
  refine pure_of fun S => ?_
  unfold sem_RowX_initX
  rw [run_mkFn]
  refine ⟨rfl, ?_⟩
  show RunS pk_RowX_initX.1 [.own (.ins 0 []), .val d] S _ _ _ _
  unfold pk_RowX_initX
  simp only [run_pure, run_bind, run_ite, run_noErr, run_stuck, runS_next, runS_stuck, runS_seq, runS_ret, runS_par, runS_own, runS_for, runS_if, runS_tgt, runS_expr, setT, tupT, consT, getv, on1, on2, toB_bl, add_int, sub_int, cmp_int, int_int, List.getElem?_cons_zero, List.getElem?_cons_succ, List.set_cons_zero, List.set_cons_succ, List.length_cons, List.length_nil, if_true, reduceIte, Nat.reduceAdd, Nat.reduceEqDiff, Bool.not_true, Bool.not_false, Bool.false_eq_true, if_false, decide_true, decide_false, Bool.true_eq_false, and_true, true_and, runS_setF]
  rfl
theorem isa_row (d : D) : dIsa (fun c => decide (c < 2)) (fun a b => if a < 2 ∧ b < 2 then some (decide (a = b)) else none) (.ins 0 [d]) (.cls 0) = M.pure (.bl true) := rfl
theorem attr_told (d : D) : attr (tab [(0, .fld 0)]) (.ins 0 [d]) = M.pure d := rfl
theorem pat_of_row (r : List Pc) (hr : ∀ p ∈ r, p.ok) (hl : r.length ≤ 8) : sem_PatternX_initX [.ins 0 [rowD r]] = M.pure (patD r) := by
  refine pure_of fun S => ?_
  unfold sem_PatternX_initX mkStar
  rw [if_pos (show 1 ≤ [D.ins 0 [rowD r]].length + 1 ∧ [D.ins 0 [rowD r]].length + 1 < 1 + lim from (show 1 ≤ 2 ∧ 2 < 1 + lim by decide))]
  rw [run_mkFn]
  refine ⟨rfl, ?_⟩
  show RunS pk_PatternX_initX.1 [.own (.ins 1 []), .val (.tup [.ins 0 [rowD r]])] S _ _ _ _
  unfold pk_PatternX_initX
  have l1 : ([D.ins 0 [rowD r]].length : Int) = 1 := rfl
  have i0 : dIx (.tup [.ins 0 [rowD r]]) (.int 0) = M.pure (.ins 0 [rowD r]) := ix_tup rfl
  simp only [run_pure, run_bind, run_ite, run_noErr, run_stuck, runS_next, runS_stuck, runS_seq, runS_ret, runS_par, runS_own, runS_for, runS_if, runS_tgt, runS_expr, setT, tupT, consT, getv, on1, on2, toB_bl, add_int, sub_int, cmp_int, int_int, List.getElem?_cons_zero, List.getElem?_cons_succ, List.set_cons_zero, List.set_cons_succ, List.length_cons, List.length_nil, if_true, reduceIte, Nat.reduceAdd, Nat.reduceEqDiff, Bool.not_true, Bool.not_false, Bool.false_eq_true, if_false, decide_true, decide_false, Bool.true_eq_false, and_true, true_and, runS_setF, len_tup, eq_int, l1, i0, isa_row, attr_told]
  rw [if_pos (by decide)]
  show Ev.Run (sem_chain_of [rowD r]) S _
  rw [chain_ok r hr hl]
  exact ⟨rfl, rfl⟩
theorem pattern_of_ok (r : List Pc) (hr : ∀ p ∈ r, p.ok) (hl : r.length ≤ 8) : sem_pattern_of [rowD r] = M.pure (patD r) := by
  refine pure_of fun S => ?_
  unfold sem_pattern_of
  rw [run_fn]
  refine ⟨rfl, ?_⟩
  show RunS pk_pattern_of.1 [.val (rowD r)] S _ _ _ _
  unfold pk_pattern_of
  simp only [run_pure, run_bind, run_ite, run_noErr, run_stuck, runS_next, runS_stuck, runS_seq, runS_ret, runS_par, runS_own, runS_for, runS_if, runS_tgt, runS_expr, setT, tupT, consT, getv, on1, on2, toB_bl, add_int, sub_int, cmp_int, int_int, List.getElem?_cons_zero, List.getElem?_cons_succ, List.set_cons_zero, List.set_cons_succ, List.length_cons, List.length_nil, if_true, reduceIte, Nat.reduceAdd, Nat.reduceEqDiff, Bool.not_true, Bool.not_false, Bool.false_eq_true, if_false, decide_true, decide_false, Bool.true_eq_false, and_true, true_and, row_ok, pat_of_row r hr hl]
theorem attr_chain (r : List Pc) : attr (tab [(1, .fld 1)]) (patD r) = M.pure (chainM one 1 r).1.D := rfl
theorem chain_sm : ∀ (r : List Pc) (m : Mx) (t : Int) (k : Nat), (∀ p ∈ r, p.ok) → m.S k → Sm k t → (chainM m t r).1.S (k + 5 * r.length) ∧ Sm (k + 5 * r.length) (chainM m t r).2
  | [], m, t, k, _, hm, ht => ⟨hm, ht⟩
  | p :: r, m, t, k, hr, hm, ht => by
    have hp := hr p List.mem_cons_self
    have z := chain_sm r (m.mul p.m) (if p.rail then t else t * p.o) (k + 5) (fun q hq => hr q (List.mem_cons_of_mem _ hq)) (hm.mul (Pc.ms hp)) (by
      split
      · exact ht.mono (by omega)
      · exact (ht.mul (Pc.sm hp)).mono (by omega))
    have e : k + 5 * (p :: r).length = k + 5 + 5 * r.length := by rw [List.length_cons]; omega
    rw [e]
    exact z
theorem one_sm : one.S 1 := ⟨⟨by decide, by decide⟩, ⟨by decide, by decide⟩, ⟨by decide, by decide⟩, ⟨by decide, by decide⟩⟩
def Row (r : List Pc) : Prop := (∀ p ∈ r, p.ok) ∧ r.length ≤ 8
def pairD (p : Int × Int) : D := .tup [.int p.1, .int p.2]
theorem low_sm {k : Nat} {t b : Int} (ht : Sm k t) (hb : Sm k b) (h : 0 < t + b) : Sm k (lowT t b) ∧ Sm k (lowB t b) := by
  have g0 : 0 < Int.gcd t b := by
    rw [Int.gcd_pos_iff]
    have := ht.1
    have := hb.1
    omega
  have a := Int.ediv_le_self (Int.gcd t b : Int) ht.1
  have b2 := Int.ediv_le_self (Int.gcd t b : Int) hb.1
  have c := Int.ediv_nonneg ht.1 (show (0 : Int) ≤ (Int.gcd t b : Int) by omega)
  have d := Int.ediv_nonneg hb.1 (show (0 : Int) ≤ (Int.gcd t b : Int) by omega)
  exact ⟨⟨c, Int.lt_of_le_of_lt a ht.2⟩, ⟨d, Int.lt_of_le_of_lt b2 hb.2⟩⟩
end K72
set_option maxRecDepth 100000
set_option maxHeartbeats 1000000
set_option maxRecDepth 100000
set_option maxHeartbeats 1000000
namespace K72
open PySem Ev
theorem ix_ref {S : List Ob} {n : Nat} {ds : List D} {i : Int} {d : D} {P : D → List Ob → Prop} (h : S[n]? = some (.lst ds)) (hi : L2.atI ds i = some d) : Ev.Run (dIx (.ref n) (.int i)) S P ↔ P d S := by
  have e : dIx (.ref n) (.int i) S = some (.ok d, S) := by
    show (match S[n]? with
      | some (.lst ds) => (match L2.atI ds i with | some x => (some (Except.ok x, S) : Option (Except Exn D × List Ob)) | none => none)
      | _ => none) = _
    rw [h]
    simp only
    rw [hi]
  unfold Ev.Run
  rw [e]
theorem item_set {S : List Ob} {n i : Nat} {j : Int} {ds : List D} {d : D} {sd : List SV} (h0 : sd[0]? = some (.val (.ref n))) (h : S[n]? = some (.lst ds)) (hi : L2.ixN ds.length j = some i) : itemT (getv 0) (fun _ => M.pure (.int j)) d sd S = some (sd, S.set n (.lst (ds.set i d))) := by
  unfold itemT getv
  rw [h0]
  show (match S[n]? with
    | some (.lst ds) => (match L2.ixN ds.length j with | some i => some (sd, S.set n (.lst (ds.set i d))) | none => none)
    | _ => none) = _
  rw [h]
  simp only
  rw [hi]
theorem set_get {S : List Ob} {n : Nat} {o p : Ob} (h : S[n]? = some o) : (S.set n p)[n]? = some p := List.getElem?_set_self (List.getElem?_eq_some_iff.mp h).1
theorem low_scale {t b k : Int} (hk : 0 < k) : lowT (k * t) (k * b) = lowT t b ∧ lowB (k * t) (k * b) = lowB t b := by
  have e : (Int.gcd (k * t) (k * b) : Int) = k * (Int.gcd t b : Int) := by
    rw [Int.gcd_mul_left]
    have : ((k.natAbs : Nat) : Int) = k := by omega
    rw [Int.natCast_mul, this]
  unfold lowT lowB
  rw [e, Int.mul_ediv_mul_of_pos _ _ hk, Int.mul_ediv_mul_of_pos _ _ hk]
  exact ⟨rfl, rfl⟩
end K72
set_option maxRecDepth 100000
set_option maxHeartbeats 1000000
namespace K72
open PySem Ev
structure Vec (k : Nat) (v : Int × Int) : Prop where
  t : Sm k v.1
  b : Sm k v.2
  p : 0 < v.1 + v.2
theorem Vec.mono {j k : Nat} {v : Int × Int} (h : Vec j v) (l : j ≤ k) : Vec k v := ⟨h.t.mono l, h.b.mono l, h.p⟩
end K72
set_option maxRecDepth 100000
set_option maxHeartbeats 1000000
namespace K72
open PySem Ev
theorem Mx.ext {m n : Mx} (h1 : m.a = n.a) (h2 : m.b = n.b) (h3 : m.c = n.c) (h4 : m.d = n.d) : m = n := by
  cases m
  cases n
  simp at h1 h2 h3 h4
  simp [h1, h2, h3, h4]
theorem Mx.assoc (m n o : Mx) : (m.mul n).mul o = m.mul (n.mul o) := by
  apply Mx.ext <;> (simp only [Mx.mul]; grind)
theorem Mx.one_mul (m : Mx) : one.mul m = m := by
  apply Mx.ext <;> (simp only [Mx.mul, one]; grind)
theorem Mx.mul_one (m : Mx) : m.mul one = m := by
  apply Mx.ext <;> (simp only [Mx.mul, one]; grind)
def mat (r : List Pc) : Mx := (chainM one 1 r).1
theorem chain_from : ∀ (r : List Pc) (m : Mx) (t : Int), (chainM m t r).1 = m.mul (mat r)
  | [], m, t => (Mx.mul_one m).symm
  | p :: r, m, t => by
    show (chainM (m.mul p.m) _ r).1 = m.mul (chainM (one.mul p.m) _ r).1
    rw [chain_from r, chain_from r, Mx.one_mul, Mx.assoc]
theorem mat_cons (p : Pc) (r : List Pc) : mat (p :: r) = p.m.mul (mat r) := by
  show (chainM (one.mul p.m) _ r).1 = _
  rw [chain_from, Mx.one_mul]
theorem top_mul (m n : Mx) (t b : Int) : (m.mul n).top t b = m.top (n.top t b) (n.bot t b) := by
  simp only [Mx.mul, Mx.top, Mx.bot]
  grind
theorem bot_mul (m n : Mx) (t b : Int) : (m.mul n).bot t b = m.bot (n.top t b) (n.bot t b) := by
  simp only [Mx.mul, Mx.top, Mx.bot]
  grind
def lowP (v : Int × Int) : Int × Int := (lowT v.1 v.2, lowB v.1 v.2)
theorem lowP_mul {v : Int × Int} (ht : 0 ≤ v.1) (hb : 0 ≤ v.2) (hp : 0 < v.1 + v.2) : ∃ g : Int, 0 < g ∧ g * (lowP v).1 = v.1 ∧ g * (lowP v).2 = v.2 := by
  have g0 : 0 < Int.gcd v.1 v.2 := by
    rw [Int.gcd_pos_iff]
    omega
  refine ⟨(Int.gcd v.1 v.2 : Int), by omega, ?_, ?_⟩
  · rw [Int.mul_comm]
    exact Int.ediv_mul_cancel (Int.gcd_dvd_left _ _)
  · rw [Int.mul_comm]
    exact Int.ediv_mul_cancel (Int.gcd_dvd_right _ _)
end K72
set_option maxRecDepth 100000
set_option maxHeartbeats 1000000
set_option maxRecDepth 100000
set_option maxHeartbeats 1000000
namespace K72
open PySem Ev
theorem ix0 (v : Int × Int) : dIx (pairD v) (.int 0) = M.pure (.int v.1) := ix_tup rfl
theorem ix1 (v : Int × Int) : dIx (pairD v) (.int 1) = M.pure (.int v.2) := ix_tup rfl
end K72
set_option maxRecDepth 100000
set_option maxHeartbeats 1000000
set_option maxRecDepth 100000
set_option maxHeartbeats 1000000
namespace K72
open PySem Ev
structure EndV (v : Int × Int) : Prop where
  low : lowP v = v
  t0 : 0 ≤ v.1
  t1 : v.1 ≤ 10 ^ 12
  b0 : 0 ≤ v.2
  b1 : v.2 ≤ 10 ^ 12
  op : v.2 = 0 → v.1 = 1
  p : 0 < v.1 + v.2
theorem EndV.vec {v : Int × Int} (h : EndV v) : Vec 100 v := ⟨⟨h.t0, by have := h.t1; omega⟩, ⟨h.b0, by have := h.b1; omega⟩, h.p⟩
theorem lowP_idem {t b : Int} (ht : 0 ≤ t) (hb : 0 ≤ b) (hp : 0 < t + b) : lowP (lowP (t, b)) = lowP (t, b) := by
  obtain ⟨g, g0, e1, e2⟩ := lowP_mul (v := (t, b)) ht hb hp
  have z := low_scale (t := (lowP (t, b)).1) (b := (lowP (t, b)).2) g0
  have e1 : g * (lowP (t, b)).1 = t := e1
  have e2 : g * (lowP (t, b)).2 = b := e2
  rw [e1, e2] at z
  exact Prod.ext z.1.symm z.2.symm
theorem end_low {t b : Int} (ht : 0 ≤ t) (ht1 : t ≤ 10 ^ 12) (hb : 0 < b) (hb1 : b ≤ 10 ^ 12) : EndV (lowP (t, b)) := by
  have hp : 0 < t + b := by omega
  have idem := lowP_idem ht (by omega : 0 ≤ b) hp
  obtain ⟨g, g0, e1, e2⟩ := lowP_mul (v := (t, b)) ht (by show 0 ≤ b; omega) hp
  have e1 : g * (lowP (t, b)).1 = t := e1
  have e2 : g * (lowP (t, b)).2 = b := e2
  have d : ∀ x y : Int, 0 ≤ y → y = t ∨ y = b → g * x = y → 0 ≤ x ∧ x ≤ y := fun x y hy _ e => by
    have a : 0 ≤ x := by
      by_cases n : 0 ≤ x
      · exact n
      · have := Int.mul_neg_of_pos_of_neg g0 (show x < 0 by omega)
        omega
    refine ⟨a, ?_⟩
    have := Int.mul_le_mul_of_nonneg_right (show 1 ≤ g by omega) a
    rw [Int.one_mul] at this
    omega
  have q1 := d _ t ht (.inl rfl) e1
  have q2 := d _ b (by omega) (.inr rfl) e2
  have nz : (lowP (t, b)).2 ≠ 0 := by
    intro z
    rw [z, Int.mul_zero] at e2
    omega
  exact ⟨idem, q1.1, by omega, q2.1, by omega, fun z => absurd z nz, by omega⟩
theorem end_10 : EndV (1, 0) := ⟨by decide +kernel, by decide, by decide, by decide, by decide, by decide, by decide⟩
end K72
set_option maxRecDepth 100000
set_option maxHeartbeats 1000000
set_option maxRecDepth 100000
set_option maxHeartbeats 1000000
set_option maxRecDepth 100000
set_option maxHeartbeats 1000000
namespace K72
open PySem Ev
theorem ix_scr {ds : List D} {i : Int} {d : D} (h : L2.atI ds i = some d) : dIx (.scr ds) (.int i) = M.pure d := by
  funext S
  show (match L2.atI ds i with | some x => (some (Except.ok x, S) : Option (Except Exn D × List Ob)) | none => none) = _
  rw [h]
  rfl
end K72
set_option maxRecDepth 100000
set_option maxHeartbeats 1000000
namespace K72
open PySem Ev
def scl (r : List Pc) : Int := (chainM one 1 r).2
theorem chain_scl : ∀ (r : List Pc) (m : Mx) (t : Int), (chainM m t r).2 = t * scl r
  | [], m, t => by show t = t * 1; omega
  | p :: r, m, t => by
    have e1 : (chainM m t (p :: r)).2 = (if p.rail then t else t * p.o) * scl r := chain_scl r _ _
    have e2 : scl (p :: r) = (if p.rail then 1 else 1 * p.o) * scl r := chain_scl r _ _
    rw [e1, e2]
    split <;> grind
def qH (m n : Mx) : Int := n.a * m.c - m.a * n.c
def qM (m n : Mx) : Int := n.a * m.d + n.b * m.c - m.a * n.d - m.b * n.c
def qL (m n : Mx) : Int := n.b * m.d - m.b * n.d
def SameN (r q : List Pc) : Prop := (mat r).a * scl q = (mat q).a * scl r ∧ (mat r).b * scl q = (mat q).b * scl r ∧ (mat r).c * scl q = (mat q).c * scl r ∧ (mat r).d * scl q = (mat q).d * scl r
theorem bd_sm {k : Nat} {x : Int} (h : Sm k x) : Bd k x := .mk h.nat
theorem Row.sm41 {r : List Pc} (h : Row r) : (mat r).S 41 ∧ Sm 41 (scl r) := by
  obtain ⟨a, b⟩ := chain_sm r one 1 1 h.1 one_sm ⟨by decide, by decide⟩
  have l := h.2
  exact ⟨a.mono (by omega), b.mono (by omega)⟩
end K72
set_option maxRecDepth 100000
set_option maxHeartbeats 1000000
namespace K72
open PySem Ev
def RowN (r : List Pc) : Prop := (∀ p ∈ r, p.ok) ∧ 1 ≤ r.length ∧ r.length ≤ 8
theorem RowN.row {r : List Pc} (h : RowN r) : Row r := ⟨h.1, h.2.2⟩
theorem RowN.ne {r : List Pc} (h : RowN r) : r ≠ [] := by
  intro e
  have := h.2.1
  rw [e] at this
  simp at this
end K72
set_option maxRecDepth 100000
set_option maxHeartbeats 1000000
namespace K72
open PySem Ev
theorem go_filter {α : Type} {f g : α → D} {p : α → Bool} {t : TgP} {tt : List SV → M Bool} {fe : List SV → M D} {sdw : List SV} {S : List Ob} {P : List D → List Ob → Prop} (xs : List α)
    (step : ∀ x ∈ xs, ∃ sd1, t (f x) sdw = some sd1 ∧ tt sd1 = M.pure (p x) ∧ (p x = true → fe sd1 = M.pure (g x))) (l : xs.length ≤ lim) (h : P ((xs.filter p).map g) S) : Wp (compS t tt fe sdw (xs.map f) []) S P := by
  refine go_comp (J := fun ds acc S' => S' = S ∧ ∃ ys : List α, ds = ys.map f ∧ (∀ y ∈ ys, y ∈ xs) ∧ acc.length + ys.length ≤ lim ∧ acc ++ (ys.filter p).map g = (xs.filter p).map g) ?_ ?_ _ _ _ ⟨rfl, xs, rfl, fun _ h => h, by simpa using l, rfl⟩
  · rintro d ds acc S' ⟨rfl, ys, e, hm, hl, he⟩
    rcases ys with _ | ⟨y, ys⟩
    · cases e
    rw [List.map_cons] at e
    cases e
    obtain ⟨sd1, e1, e2, e3⟩ := step y (hm y List.mem_cons_self)
    rw [List.length_cons] at hl
    refine ⟨sd1, e1, by omega, go_val e2 ?_⟩
    cases hp : p y with
    | false =>
      rw [if_neg (by simp)]
      rw [List.filter_cons_of_neg (by simp [hp])] at he
      exact ⟨rfl, ys, rfl, fun z hz => hm z (List.mem_cons_of_mem _ hz), by omega, he⟩
    | true =>
      rw [if_pos rfl]
      rw [List.filter_cons_of_pos hp, List.map_cons] at he
      refine go_val (e3 hp) ⟨rfl, ys, rfl, fun z hz => hm z (List.mem_cons_of_mem _ hz), ?_, ?_⟩
      · rw [List.length_append, List.length_singleton]; omega
      · rw [List.append_assoc]; exact he
  · rintro acc S' ⟨rfl, ys, e, hm, hl, he⟩
    rcases ys with _ | ⟨y, ys⟩
    · rw [← he] at h
      simpa using h
    · cases e
end K72
set_option maxRecDepth 100000
set_option maxHeartbeats 1000000
namespace K72
open PySem Ev
instance (r q : List Pc) : Decidable (SameN r q) := by unfold SameN; exact inferInstance
end K72
set_option maxRecDepth 100000
set_option maxHeartbeats 1000000
namespace K72
open PySem Ev
def Nvb (H M L : Int) : Prop := 0 ≤ L ∧ 0 ≤ H ∧ (0 ≤ M ∨ M * M ≤ 4 * H * L)
instance (H M L : Int) : Decidable (Nvb H M L) := by unfold Nvb; exact inferInstance
theorem q_bd {r q : List Pc} (hr : Row r) (hq : Row q) : Bd 86 (qH (mat r) (mat q)) ∧ Bd 86 (qM (mat r) (mat q)) ∧ Bd 86 (qL (mat r) (mat q)) := by
  obtain ⟨⟨a, b, c, d⟩, _⟩ := hr.sm41
  obtain ⟨⟨e, f, g, h⟩, _⟩ := hq.sm41
  have p : ∀ {x y : Int}, Sm 41 x → Sm 41 y → (0 ≤ x * y ∧ x * y < 2 ^ 82) := fun h l => (h.mul l)
  have h1 := p e c
  have h2 := p a g
  have h3 := p e d
  have h4 := p f c
  have h5 := p a h
  have h6 := p b g
  have h7 := p f d
  have h8 := p b h
  unfold qH qM qL
  exact ⟨.mk (by omega), .mk (by omega), .mk (by omega)⟩
end K72
set_option maxRecDepth 100000
set_option maxHeartbeats 1000000
namespace K72
open PySem Ev
theorem nvb_ok (H W L : Int) (bH : Bd 86 H) (bW : Bd 86 W) (bL : Bd 86 L) : sem_is_never_below [.int H, .int W, .int L] = M.pure (.bl (decide (Nvb H W L))) := by
  refine pure_wp fun S => ?_
  (unfold sem_is_never_below; refine Ev.go_fn rfl ?_; unfold pk_is_never_below; simp only [Ev.slots, List.map_cons, List.map_nil, List.length_cons, List.length_nil, List.cons_append, List.nil_append, List.replicate, Nat.reduceSub, Nat.reduceAdd])
  have b4 : Bd 3 (4 : Int) := by unfold Bd; decide
  (repeat regstrif_gather)
  refine ite_d (fun c => ?_) (fun c => ?_)
  · (repeat regstrif_gather)
    exact ⟨by rw [decide_eq_false]; unfold Nvb; omega, rfl⟩
  · (repeat regstrif_gather)
    refine ite_d (fun d => ?_) (fun d => ?_)
    · (repeat regstrif_gather)
      exact ⟨by rw [decide_eq_false]; unfold Nvb; omega, rfl⟩
    · (repeat regstrif_gather)
      refine ite_d (fun e => ?_) (fun e => ?_)
      · (repeat regstrif_gather)
        exact ⟨by rw [decide_eq_true]; exact ⟨by omega, by omega, .inl e⟩, rfl⟩
      · (repeat regstrif_gather)
        refine ⟨?_, rfl⟩
        have : Nvb H W L ↔ W * W ≤ 4 * H * L := ⟨fun z => z.2.2.elim (fun q => absurd q e) id, fun z => ⟨by omega, by omega, .inr z⟩⟩
        simp only [this]
theorem difference_ok (n m : Mx) (hn : n.S 50) (hm : m.S 50) : sem_difference [n.D, m.D] = M.pure (.tup [.int (qH m n), .int (qM m n), .int (qL m n)]) := by
  refine pure_wp fun S => ?_
  have a := bd_sm hn.a
  have b := bd_sm hn.b
  have c := bd_sm hn.c
  have d := bd_sm hn.d
  have e := bd_sm hm.a
  have f := bd_sm hm.b
  have g := bd_sm hm.c
  have h := bd_sm hm.d
  unfold Mx.D
  (unfold sem_difference; refine Ev.go_fn rfl ?_; unfold pk_difference; simp only [Ev.slots, List.map_cons, List.map_nil, List.length_cons, List.length_nil, List.cons_append, List.nil_append, List.replicate, Nat.reduceSub, Nat.reduceAdd])
  (repeat regstrif_gather)
  exact ⟨rfl, rfl⟩
end K72
set_option maxRecDepth 100000
set_option maxHeartbeats 1000000
namespace K72
open PySem Ev
theorem root_ok {n s : Int} (h : IsRt n s) (b : n < 2 ^ 900) : sem_root_below [.int n] = M.pure (.int s) := by
  refine pure_wp fun S => ?_
  have s0 := h.nn
  have n0 : 0 ≤ n := Int.le_trans (Int.mul_nonneg s0 s0) h.le
  have sb : s < 2 ^ 450 := rt_lt h (by simpa using b)
  (unfold sem_root_below; refine Ev.go_fn rfl ?_; unfold pk_root_below; simp only [Ev.slots, List.map_cons, List.map_nil, List.length_cons, List.length_nil, List.cons_append, List.nil_append, List.replicate, Nat.reduceSub, Nat.reduceAdd])
  (repeat regstrif_gather)
  refine ite_d (fun c => ?_) (fun c => ?_)
  · (repeat regstrif_gather)
    have z : IsRt n 0 := ⟨by decide, by omega, by omega⟩
    rw [h.uniq z]
    exact ⟨rfl, rfl⟩
  · (repeat regstrif_gather)
    have n1 : 1 ≤ n := by omega
    have s1 : 1 ≤ s := by
      rcases Int.lt_or_le s 1 with z | z
      · have : s = 0 := by omega
        have := h.lt
        subst s
        omega
      · exact z
    refine gs_iter (J := fun f sd S' => S' = S ∧ ∃ (i : Nat) (x : SV), sd = [.val (.int n), .val (.int (2 ^ i)), x] ∧ i + f = 460 ∧ i ≤ 460) ?_ 460 _ _ (by decide) ⟨rfl, 0, _, rfl, by decide, by decide⟩
    rintro f sd S' ⟨rfl, i, x, rfl, hi, il⟩
    have bi : Bd (i + 1) ((2 : Int) ^ i) := .mk (by
      rw [Int.natAbs_pow]
      exact Nat.pow_lt_pow_right (by decide) (by omega))
    have p0 : (0 : Int) < 2 ^ i := Int.pow_pos (by decide)
    have sq : (2 : Int) ^ i * 2 ^ i = 2 ^ (2 * i) := by rw [Nat.two_mul, Int.pow_add]
    have d2 : ∀ (S : List Ob) (P : D → List Ob → Prop) (x : Int), P (.int (x / 2)) S → Wp (dFdiv (.int x) (.int 2)) S P := fun S P x h => p_div (k := 2) (by decide) (.mk (by decide)) (by decide) h
    (repeat regstrif_gather)
    refine ite_d (fun c => ?_) (fun c => ?_)
    · have i450 : i < 450 := by
        rcases Nat.lt_or_ge i 450 with z | z
        · exact z
        · have : (2 : Int) ^ 900 ≤ 2 ^ (2 * i) := by exact_mod_cast Nat.pow_le_pow_right (by decide) (by omega)
          omega
      (repeat regstrif_gather)
      have e : (2 : Int) * 2 ^ i = 2 ^ (i + 1) := by rw [Int.pow_succ, Int.mul_comm]
      rw [e]
      exact ⟨f - 1, by omega, rfl, i + 1, _, rfl, by omega, by omega⟩
    · have sg : s ≤ 2 ^ i := by
        rcases Int.lt_or_le (2 ^ i : Int) s with z | z
        · have : (2 : Int) ^ i * 2 ^ i ≤ s * s := Int.mul_le_mul (by omega) (by omega) (by omega) (by omega)
          have := h.le
          omega
        · exact z
      have dg : ∀ (S : List Ob) (P : D → List Ob → Prop) (g : Int), 1 ≤ g → g < 2 ^ 461 → P (.int (n / g)) S → Wp (dFdiv (.int n) (.int g)) S P := fun S P g h1 h2 h => p_div (k := 461) (by omega) (.mk (by omega)) (by decide) h
      have gi : (2 : Int) ^ i < 2 ^ 461 := by exact_mod_cast Nat.pow_lt_pow_right (by decide) (show i < 461 by omega)
      have gm : (2 : Int) ^ i - s < 2 ^ 461 := by omega
      obtain ⟨K, hK⟩ : ∃ K : Int, K = 2 ^ 461 := ⟨_, rfl⟩
      rw [← hK] at gi dg
      have gm : ∃ m, (2 : Int) ^ i - s < 2 ^ m ∧ m < 470 := ⟨461, gm, by decide⟩
      obtain ⟨m0, gm, gm0⟩ := gm
      (repeat regstrif_gather)
      refine gs_iter (J := fun f sd S2 => S2 = S' ∧ ∃ (g : Int) (m : Nat), sd = [.val (.int n), .val (.int g), .val (.int ((g + n / g) / 2))] ∧ s ≤ g ∧ 1 ≤ g ∧ g < K ∧ g - s < 2 ^ m ∧ m < f) ?_ 470 _ _ (by decide) ⟨rfl, 2 ^ i, m0, rfl, sg, by omega, gi, gm, gm0⟩
      rintro f sd S2 ⟨rfl, g, m, rfl, hg, g1, gb, hm, mf⟩
      obtain ⟨w1, w2⟩ := newton h g1 hg
      (repeat regstrif_gather)
      refine ite_d (fun c => ?_) (fun c => ?_)
      · have lt : s < g := by omega
        have w2 := w2 lt
        have bg : Bd 462 ((g + n / g) / 2) := .mk (by omega)
        (repeat regstrif_gather)
        rcases m with _ | m
        · simp at hm
          omega
        · have e : (2 : Int) ^ (m + 1) = 2 * 2 ^ m := by rw [Int.pow_succ, Int.mul_comm]
          exact ⟨f - 1, by omega, rfl, _, m, rfl, w1, by omega, by omega, by omega, by omega⟩
      · (repeat regstrif_gather)
        have : g = s := by
          rcases Int.lt_or_le s g with z | z
          · have := w2 z
            omega
          · omega
        rw [this]
        exact ⟨rfl, rfl⟩
def rtN : Nat → Nat
  | 0 => 0
  | n + 1 => if (rtN n + 1) * (rtN n + 1) ≤ n + 1 then rtN n + 1 else rtN n
theorem rtN_is : ∀ n : Nat, IsRt n (rtN n)
  | 0 => ⟨by decide, by decide, by decide⟩
  | n + 1 => by
    have h := rtN_is n
    have a := h.nn
    have b := h.le
    have c := h.lt
    unfold rtN
    by_cases z : (rtN n + 1) * (rtN n + 1) ≤ n + 1
    · rw [if_pos z]
      have z' : ((rtN n : Int) + 1) * ((rtN n : Int) + 1) ≤ (n : Int) + 1 := by exact_mod_cast z
      have e : ((rtN n + 1 : Nat) : Int) = (rtN n : Int) + 1 := by omega
      rw [e]
      refine ⟨by omega, by omega, ?_⟩
      have : ((rtN n : Int) + 1 + 1) * ((rtN n : Int) + 1 + 1) = ((rtN n : Int) + 1) * ((rtN n : Int) + 1) + 2 * (rtN n : Int) + 3 := by grind
      omega
    · rw [if_neg z]
      have z' : ¬ ((rtN n : Int) + 1) * ((rtN n : Int) + 1) ≤ (n : Int) + 1 := by exact_mod_cast z
      exact ⟨a, by omega, by omega⟩
@[irreducible] def rt (n : Int) : Int := rtN n.toNat
theorem rt_is {n : Int} (h : 0 ≤ n) : IsRt n (rt n) := by
  have := rtN_is n.toNat
  unfold rt
  have e : (n.toNat : Int) = n := by omega
  rw [e] at this
  exact this
structure Eqn (a b c : Int) : Prop where
  a0 : 0 ≤ a
  a1 : a < 2 ^ 140
  b0 : -(2 ^ 140) < b
  b1 : b < 2 ^ 140
  c0 : 0 ≤ c
  c1 : c < 2 ^ 140
  z : a = 0 → 1 ≤ b
  p : 0 < a → 0 < c
def wth (a b c : Int) : Int := b * b + 4 * a * c
def norm (a b c : Int) : Int × Int × Int :=
  if a = 0 then (0, (lowP (c, b)).2, (lowP (c, b)).1)
  else if rt (wth a b c) * rt (wth a b c) = wth a b c then (0, (lowP (rt (wth a b c) - b, 2 * a)).2, (lowP (rt (wth a b c) - b, 2 * a)).1)
  else (a / (Int.gcd (Int.gcd a b.natAbs) c : Int), b / (Int.gcd (Int.gcd a b.natAbs) c : Int), c / (Int.gcd (Int.gcd a b.natAbs) c : Int))
def tri (v : Int × Int × Int) : D := .tup [.int v.1, .int v.2.1, .int v.2.2]
theorem wth_bd {a b c : Int} (h : Eqn a b c) : 0 ≤ wth a b c ∧ wth a b c < 2 ^ 290 := by
  obtain ⟨a0, a1, b0, b1, c0, c1, z, p⟩ := h
  have ac : 0 ≤ a * c := Int.mul_nonneg a0 c0
  have ac1 : a * c < 2 ^ 280 := (Sm.mul (j := 140) (k := 140) ⟨a0, a1⟩ ⟨c0, c1⟩).2
  have bb : b * b = (b.natAbs : Int) * (b.natAbs : Int) := by rw [Int.natAbs_mul_self']
  have bs := (Sm.mul (j := 140) (k := 140) (x := (b.natAbs : Int)) (y := (b.natAbs : Int)) ⟨by omega, by omega⟩ ⟨by omega, by omega⟩)
  obtain ⟨b2, b3⟩ := bs
  rw [← bb] at b2 b3
  have e : 4 * a * c = 4 * (a * c) := by grind
  unfold wth
  rw [e]
  omega
theorem gcd_pos' {a b c : Int} (h : 0 < a) : 0 < (Int.gcd (Int.gcd a b.natAbs) c : Int) ∧ (Int.gcd (Int.gcd a b.natAbs) c : Int) ≤ a := by
  have g1 : Int.gcd a b.natAbs ∣ a.natAbs := Int.gcd_dvd_natAbs_left _ _
  have g2 : Int.gcd (Int.gcd a b.natAbs) c ∣ Int.gcd a b.natAbs := by
    have := Int.gcd_dvd_natAbs_left (Int.gcd a b.natAbs : Int) c
    simpa using this
  have g3 := Nat.dvd_trans g2 g1
  have l := Nat.le_of_dvd (by omega) g3
  have p := Nat.pos_of_dvd_of_pos g3 (by omega)
  omega
theorem rt_big {a b c : Int} (h : Eqn a b c) (ha : 0 < a) : b.natAbs ≤ rt (wth a b c) := by
  obtain ⟨w0, w1⟩ := wth_bd h
  have r := rt_is w0
  have rn := r.nn
  have ac : 0 < a * c := Int.mul_pos ha (h.p ha)
  rcases Int.lt_or_le (rt (wth a b c)) b.natAbs with z | z
  · have l : (rt (wth a b c) + 1) * (rt (wth a b c) + 1) ≤ (b.natAbs : Int) * (b.natAbs : Int) := Int.mul_le_mul (by omega) (by omega) (by omega) (by omega)
    rw [Int.natAbs_mul_self'] at l
    have := r.lt
    have e : wth a b c = b * b + 4 * (a * c) := by unfold wth; grind
    omega
  · exact z
theorem normal_ok {a b c : Int} (h : Eqn a b c) : sem_normal [.int a, .int b, .int c] = M.pure (tri (norm a b c)) := by
  refine pure_wp fun S => ?_
  have h' := h
  obtain ⟨a0, a1, b0, b1, c0, c1, z, p⟩ := h'
  obtain ⟨w0, w1⟩ := wth_bd h
  have ba : Bd 140 a := .mk (by omega)
  have bb : Bd 140 b := .mk (by omega)
  have bc : Bd 140 c := .mk (by omega)
  have b4 : Bd 3 (4 : Int) := .mk (by decide)
  have ro := root_ok (rt_is w0) (Int.lt_trans w1 (by decide +kernel))
  have lo : ∀ t u : Int, 0 ≤ t → 0 ≤ u → 0 < t + u → t < 2 ^ 300 → u < 2 ^ 300 → sem_lowest [.int t, .int u] = M.pure (pairD (lowP (t, u))) := fun t b h1 h2 h3 b1 b2 => lowest_ok t b h1 h2 h3 (Int.lt_trans b1 (by decide +kernel)) (Int.lt_trans b2 (by decide +kernel))
  (unfold sem_normal; refine Ev.go_fn rfl ?_; unfold pk_normal; simp only [Ev.slots, List.map_cons, List.map_nil, List.length_cons, List.length_nil, List.cons_append, List.nil_append, List.replicate, Nat.reduceSub, Nat.reduceAdd])
  (repeat regstrif_gather)
  refine ite_d (fun ca => ?_) (fun ca => ?_)
  · have rb := rt_big h ca
    have rl : rt (wth a b c) < 2 ^ 145 := rt_lt (rt_is w0) w1
    have rp := (rt_is w0).nn
    have br : Bd 145 (rt (wth a b c)) := .mk (by omega)
    have an : ¬ a = 0 := by omega
    obtain ⟨gp, gl⟩ := gcd_pos' (b := b) (c := c) ca
    unfold norm
    rw [if_neg an]
    (repeat regstrif_gather)
    refine go_val ro ?_
    (repeat regstrif_gather)
    refine ite_d (fun cr => ?_) (fun cr => ?_)
    · have cr' : rt (wth a b c) * rt (wth a b c) = wth a b c := cr
      rw [if_pos cr']
      (repeat regstrif_gather)
      refine go_val (lo (rt (wth a b c) - b) (2 * a) (by omega) (by omega) (by omega) (by omega) (by omega)) ?_
      unfold pairD
      (repeat regstrif_gather)
      exact ⟨rfl, rfl⟩
    · have cr' : ¬ rt (wth a b c) * rt (wth a b c) = wth a b c := cr
      rw [if_neg cr']
      have g1 := common_ok a b.natAbs a0 (by omega) (Int.lt_trans a1 (by decide +kernel)) (by omega)
      have gg : (Int.gcd a b.natAbs : Int) ≤ a := by
        have := Nat.le_of_dvd (by omega) (Int.gcd_dvd_natAbs_left a (b.natAbs : Int))
        omega
      have g2 := common_ok (Int.gcd a b.natAbs : Int) c (by omega) c0 (by omega) (Int.lt_trans c1 (by decide +kernel))
      have bg : Bd 140 (Int.gcd (Int.gcd a b.natAbs) c : Int) := .mk (by omega)
      (repeat regstrif_gather)
      refine go_val g1 ?_
      (repeat regstrif_gather)
      refine go_val g2 ?_
      (repeat regstrif_gather)
      exact ⟨rfl, rfl⟩
  · have an : a = 0 := by omega
    have b1' := z an
    unfold norm
    rw [if_pos an]
    (repeat regstrif_gather)
    refine go_val (lo c b (by omega) (by omega) (by omega) (by omega) (by omega)) ?_
    unfold pairD
    (repeat regstrif_gather)
    exact ⟨rfl, rfl⟩
end K72
set_option maxRecDepth 100000
set_option maxHeartbeats 1000000
namespace K72
open PySem Ev
theorem between_ok (x lo hi : Int) : sem_is_between [.int x, .int lo, .int hi] = M.pure (.bl (decide (lo ≤ x ∧ x ≤ hi))) := by
  refine pure_wp fun S => ?_
  (unfold sem_is_between; refine Ev.go_fn rfl ?_; unfold pk_is_between; simp only [Ev.slots, List.map_cons, List.map_nil, List.length_cons, List.length_nil, List.cons_append, List.nil_append, List.replicate, Nat.reduceSub, Nat.reduceAdd])
  (repeat regstrif_gather)
  refine go_val (is_integer_ok x) ?_
  (repeat regstrif_gather)
  unfold chainD
  (repeat regstrif_gather)
  refine ite_d (fun c => ?_) (fun c => ?_)
  · (repeat regstrif_gather)
    exact ⟨by simp [c], rfl⟩
  · (repeat regstrif_gather)
    exact ⟨by simp [c], rfl⟩
def exD (v : Int × Int × Int) : D := .ins 2 [tri v]
def MOSTI : Int := 10000000000000000000000000000000000000000
theorem exact_ok {a b c : Int} (h : Eqn a b c) (ha : a ≤ MOSTI) (hb : b ≤ MOSTI) (hb2 : -MOSTI ≤ b) (hc : c ≤ MOSTI) : sem_ExactX_initX [.int a, .int b, .int c] = M.pure (exD (norm a b c)) := by
  refine pure_wp fun S => ?_
  have h' := h
  obtain ⟨a0, a1, b0, b1, c0, c1, z, p⟩ := h'
  unfold MOSTI at ha hb hb2 hc
  have cs : (a = 0 ∧ 1 ≤ b) ∨ (0 < a ∧ 0 < c) := by
    rcases Int.lt_or_le 0 a with q | q
    · exact .inr ⟨q, p q⟩
    · exact .inl ⟨by omega, z (by omega)⟩
  have bt : ∀ x lo hi : Int, lo ≤ x → x ≤ hi → sem_is_between [.int x, .int lo, .int hi] = M.pure (.bl true) := fun x lo hi h l => by rw [between_ok, decide_eq_true ⟨h, l⟩]
  unfold sem_ExactX_initX
  refine go_mk rfl ?_
  unfold pk_ExactX_initX
  simp only [Ev.slots, List.map_cons, List.map_nil, List.length_cons, List.length_nil, List.cons_append, List.nil_append, List.replicate, Nat.reduceSub, Nat.reduceAdd]
  rcases cs with cs | cs
  all_goals
    (repeat regstrif_gather)
    refine go_val (bt a _ _ a0 ha) ?_
    (repeat regstrif_gather)
    refine go_val (bt b _ _ hb2 hb) ?_
    (repeat regstrif_gather)
    refine go_val (bt c _ _ c0 hc) ?_
    (repeat regstrif_gather)
    refine gs_setF (by exact rfl) (by exact rfl) ?_
    (repeat regstrif_gather)
    refine go_val (normal_ok h) ?_
    refine ⟨_, rfl, ?_⟩
    (repeat regstrif_gather)
    exact ⟨_, rfl, rfl, rfl⟩
theorem limit_ok {r : List Pc} (h : Row r) : sem_limit_of [(mat r).D] = M.pure (if (mat r).c = 0 then .tup [.int 1, .int 0] else if (mat r).b = 0 then exD (norm 0 1 0) else exD (norm (mat r).c ((mat r).d - (mat r).a) (mat r).b)) := by
  refine pure_wp fun S => ?_
  obtain ⟨⟨⟨a1, a2⟩, ⟨b1, b2⟩, ⟨c1, c2⟩, ⟨d1, d2⟩⟩, s1, s2⟩ := h.sm41
  unfold Mx.D
  have ir : ∀ a b c d : Int, sem_is_rails [.tup [.int a, .int b, .int c, .int d]] = M.pure (.bl (decide (c = 0))) := fun a b c d => by
    refine pure_wp fun S => ?_
    (unfold sem_is_rails; refine Ev.go_fn rfl ?_; unfold pk_is_rails; simp only [Ev.slots, List.map_cons, List.map_nil, List.length_cons, List.length_nil, List.cons_append, List.nil_append, List.replicate, Nat.reduceSub, Nat.reduceAdd])
    (repeat regstrif_gather)
    exact ⟨rfl, rfl⟩
  have ig : ∀ a b c d : Int, sem_is_rungs [.tup [.int a, .int b, .int c, .int d]] = M.pure (.bl (decide (b = 0))) := fun a b c d => by
    refine pure_wp fun S => ?_
    (unfold sem_is_rungs; refine Ev.go_fn rfl ?_; unfold pk_is_rungs; simp only [Ev.slots, List.map_cons, List.map_nil, List.length_cons, List.length_nil, List.cons_append, List.nil_append, List.replicate, Nat.reduceSub, Nat.reduceAdd])
    (repeat regstrif_gather)
    exact ⟨rfl, rfl⟩
  (unfold sem_limit_of; refine Ev.go_fn rfl ?_; unfold pk_limit_of; simp only [Ev.slots, List.map_cons, List.map_nil, List.length_cons, List.length_nil, List.cons_append, List.nil_append, List.replicate, Nat.reduceSub, Nat.reduceAdd])
  (repeat regstrif_gather)
  refine go_val (ir _ _ _ _) ?_
  (repeat regstrif_gather)
  refine ite_d (fun c => ?_) (fun c => ?_)
  · rw [if_pos c]
    (repeat regstrif_gather)
    exact ⟨rfl, rfl⟩
  · rw [if_neg c]
    (repeat regstrif_gather)
    refine go_val (ig _ _ _ _) ?_
    (repeat regstrif_gather)
    refine ite_d (fun d => ?_) (fun d => ?_)
    · rw [if_pos d]
      (repeat regstrif_gather)
      refine go_val (exact_ok (a := 0) (b := 1) (c := 0) ⟨by decide, by decide, by decide, by decide, by decide, by decide, fun _ => by decide, fun h => by omega⟩ (by decide) (by decide) (by decide) (by decide)) ?_
      exact ⟨rfl, rfl⟩
    · rw [if_neg d]
      (repeat regstrif_gather)
      refine go_val (exact_ok (a := (mat r).c) (b := (mat r).d - (mat r).a) (c := (mat r).b) ⟨by omega, by omega, by omega, by omega, by omega, by omega, fun h => by omega, fun h => by omega⟩ (by unfold MOSTI; omega) (by unfold MOSTI; omega) (by unfold MOSTI; omega) (by unfold MOSTI; omega)) ?_
      exact ⟨rfl, rfl⟩
def limD (r : List Pc) : D := if (mat r).c = 0 then .tup [.int 1, .int 0] else if (mat r).b = 0 then exD (norm 0 1 0) else exD (norm (mat r).c ((mat r).d - (mat r).a) (mat r).b)
def ladD (r : List Pc) (v : Int × Int) : D := .ins 5 [pairD v, patD r]
theorem check_pat_ok (r : List Pc) : sem_check_pattern [patD r] = M.pure .non := by
  refine pure_wp fun S => ?_
  (unfold sem_check_pattern; refine Ev.go_fn rfl ?_; unfold pk_check_pattern; simp only [Ev.slots, List.map_cons, List.map_nil, List.length_cons, List.length_nil, List.cons_append, List.nil_append, List.replicate, Nat.reduceSub, Nat.reduceAdd])
  (repeat regstrif_gather)
  refine go_val (r := .bl true) rfl ?_
  (repeat regstrif_gather)
  exact ⟨trivial, rfl⟩
theorem ladder_ok (r : List Pc) (v : Int × Int) (d : D) (hc : sem_check_resistance [d] = M.pure .non) (hp : sem_pair_of [d] = M.pure (pairD v)) : sem_LadderX_initX [patD r, d] = M.pure (ladD r v) := by
  refine pure_wp fun S => ?_
  unfold sem_LadderX_initX
  refine go_mk rfl ?_
  unfold pk_LadderX_initX
  simp only [Ev.slots, List.map_cons, List.map_nil, List.length_cons, List.length_nil, List.cons_append, List.nil_append, List.replicate, Nat.reduceSub, Nat.reduceAdd]
  (repeat regstrif_gather)
  refine go_val (check_pat_ok r) ?_
  (repeat regstrif_gather)
  refine go_val hc ?_
  (repeat regstrif_gather)
  refine gs_sup (by exact rfl) (by exact rfl) ?_
  (repeat regstrif_gather)
  refine go_val hp ?_
  (repeat regstrif_gather)
  refine ⟨rfl, ?_⟩
  unfold pk_RunX_initX
  simp only [Ev.slots, List.map_cons, List.map_nil, List.length_cons, List.length_nil, List.cons_append, List.nil_append, List.replicate, Nat.reduceSub, Nat.reduceAdd]
  (repeat regstrif_gather)
  refine gs_setF (by exact rfl) (by exact rfl) ?_
  (repeat regstrif_gather)
  refine ⟨_, rfl, ?_⟩
  (repeat regstrif_gather)
  refine ⟨_, rfl, ?_⟩
  (repeat regstrif_gather)
  refine gs_setF (by exact rfl) (by exact rfl) ?_
  (repeat regstrif_gather)
  refine ⟨_, rfl, ?_⟩
  (repeat regstrif_gather)
  exact ⟨_, rfl, rfl, rfl⟩
theorem lad_limit {r : List Pc} (h : Row r) (v : Int × Int) : sem_Ladder_limit [ladD r v] = M.pure (limD r) := by
  refine pure_wp fun S => ?_
  (unfold sem_Ladder_limit; refine Ev.go_fn rfl ?_; unfold pk_Ladder_limit; simp only [Ev.slots, List.map_cons, List.map_nil, List.length_cons, List.length_nil, List.cons_append, List.nil_append, List.replicate, Nat.reduceSub, Nat.reduceAdd])
  (repeat regstrif_gather)
  refine go_val (r := patD r) rfl ?_
  refine go_val (attr_chain r) ?_
  (repeat regstrif_gather)
  exact go_val (limit_ok h) ⟨rfl, rfl⟩
end K72
set_option maxRecDepth 100000
set_option maxHeartbeats 1000000
set_option maxRecDepth 100000
set_option maxHeartbeats 1000000
namespace K72
open PySem Ev
theorem ad_ge : ∀ {r : List Pc}, (∀ p ∈ r, p.ok) → scl r ≤ (mat r).a ∧ scl r ≤ (mat r).d ∧ 0 ≤ (mat r).b ∧ 0 ≤ (mat r).c ∧ 0 < scl r
  | [], _ => by decide
  | p :: r, h => by
    obtain ⟨i1, i2, i3, i4, i5⟩ := ad_ge (r := r) fun q hq => h q (List.mem_cons_of_mem _ hq)
    have hp := h p List.mem_cons_self
    have e2 : scl (p :: r) = (if p.rail then 1 else 1 * p.o) * scl r := chain_scl r _ _
    obtain ⟨b, o⟩ := p
    have o1 : 1 ≤ o := hp.1
    rw [mat_cons, e2]
    cases b with
    | true =>
      have oc := Int.mul_nonneg (show 0 ≤ o by omega) i4
      have od := Int.mul_nonneg (show 0 ≤ o by omega) (show 0 ≤ (mat r).d by omega)
      simp only [Mx.mul, Pc.m, if_true]
      omega
    | false =>
      have oa := Int.mul_le_mul_of_nonneg_left i1 (show 0 ≤ o by omega)
      have od := Int.mul_le_mul_of_nonneg_left i2 (show 0 ≤ o by omega)
      have ob := Int.mul_nonneg (show 0 ≤ o by omega) i3
      have oc := Int.mul_nonneg (show 0 ≤ o by omega) i4
      have os := Int.mul_pos (show 0 < o by omega) i5
      simp only [Mx.mul, Pc.m, Bool.false_eq_true, if_false, Int.one_mul]
      omega
theorem norm_sq {a b c : Int} (ha : a ≠ 0) (h : rt (wth a b c) * rt (wth a b c) = wth a b c) : norm a b c = (0, (lowP (rt (wth a b c) - b, 2 * a)).2, (lowP (rt (wth a b c) - b, 2 * a)).1) := by
  unfold norm
  rw [if_neg ha, if_pos h]
theorem norm_no {a b c : Int} (ha : a ≠ 0) (h : ¬ rt (wth a b c) * rt (wth a b c) = wth a b c) : norm a b c = (a / (Int.gcd (Int.gcd a b.natAbs) c : Int), b / (Int.gcd (Int.gcd a b.natAbs) c : Int), c / (Int.gcd (Int.gcd a b.natAbs) c : Int)) := by
  unfold norm
  rw [if_neg ha, if_neg h]
end K72
set_option maxRecDepth 100000
set_option maxHeartbeats 2000000
set_option maxRecDepth 100000
set_option maxHeartbeats 1000000
set_option maxRecDepth 100000
set_option maxHeartbeats 1000000
namespace K72
open PySem Ev
theorem div_back {a g : Int} (ha : 0 < a) (hg : 0 < g) (d : g ∣ a) : a / (a / g) = g := by
  obtain ⟨k, rfl⟩ := d
  have k0 : 0 < k := by
    rcases Int.lt_or_le 0 k with z | z
    · exact z
    · have := Int.mul_nonneg (show 0 ≤ g by omega) (show 0 ≤ -k by omega)
      have e : g * -k = -(g * k) := by grind
      omega
  rw [Int.mul_ediv_cancel_left _ (by omega), Int.mul_ediv_cancel _ (by omega)]
end K72
set_option maxRecDepth 100000
set_option maxHeartbeats 1000000
namespace K72
open PySem Ev
theorem left_big {k : Nat} {x y : Int} (hx : Sm k x) (hy : Sm k y) : ∃ n, n < 2 * k + 3 ∧ Left x y n := by
  refine ⟨2 * k + 2, by omega, 2 * k, ?_, by split <;> omega⟩
  have p : (0 : Int) < 2 ^ k := Int.pow_pos (by decide)
  have a : x * y ≤ x * 2 ^ k := Int.mul_le_mul_of_nonneg_left (Int.le_of_lt hy.2) hx.1
  have b : x * 2 ^ k < 2 ^ k * 2 ^ k := Int.mul_lt_mul_of_pos_right hx.2 p
  rw [Nat.two_mul, Int.pow_add]
  exact Int.lt_of_le_of_lt a b
theorem common_big {k : Nat} (a b : Int) (ha : Sm k a) (hb : Sm k b) (hk : k ≤ 100000) : sem_common [.int a, .int b] = M.pure (.int (Int.gcd a b)) := by
  refine pure_wp fun S => ?_
  obtain ⟨n, hn, hl⟩ := left_big ha hb
  (unfold sem_common; refine Ev.go_fn rfl ?_; unfold pk_common; simp only [Ev.slots, List.map_cons, List.map_nil, List.length_cons, List.length_nil, List.cons_append, List.nil_append, List.replicate, Nat.reduceSub, Nat.reduceAdd])
  (repeat regstrif_gather)
  refine gs_iter (J := fun n sd S' => S' = S ∧ ∃ x y : Int, sd = [.val (.int x), .val (.int y)] ∧ 0 ≤ x ∧ 0 ≤ y ∧ Int.gcd x y = Int.gcd a b ∧ Left x y n) ?_ n _ _ (by unfold bigW; omega) ⟨rfl, a, b, rfl, ha.1, hb.1, rfl, hl⟩
  rintro n sd S' ⟨rfl, x, y, rfl, hx, hy, hg, hn⟩
  (repeat regstrif_gather)
  refine ite_d (fun h => ?_) (fun h => ?_)
  · (repeat regstrif_gather)
    obtain ⟨n', l', h'⟩ := left_step hx h hn
    exact ⟨n', l', rfl, y, x % y, rfl, hy, Int.emod_nonneg x (by omega), (gcd_step x y hx h).trans hg, h'⟩
  · have y0 : y = 0 := by omega
    subst y0
    (repeat regstrif_gather)
    simp only [Int.gcd_zero] at hg
    refine ⟨?_, rfl⟩
    rw [← hg]
    congr 1
    omega
theorem gcd_sm {k : Nat} {a b : Int} (ha : Sm k a) (hb : Sm k b) : Sm k (Int.gcd a b : Int) := by
  by_cases z : a = 0
  · subst z
    rw [Int.gcd_zero_left]
    exact ⟨by omega, by have := hb.2; have := hb.1; omega⟩
  · have d : (Int.gcd a b : Int) ∣ a := Int.gcd_dvd_left _ _
    have l := Int.le_of_dvd (by have := ha.1; omega) d
    exact ⟨by omega, Int.lt_of_le_of_lt l ha.2⟩
theorem gcd_pos2 {a b : Int} (h : a ≠ 0 ∨ b ≠ 0) : 0 < (Int.gcd a b : Int) := by
  have : 0 < Int.gcd a b := by rw [Int.gcd_pos_iff]; exact h
  omega
theorem lowest_big {k : Nat} (t b : Int) (ht : Sm k t) (hb : Sm k b) (h : 0 < t + b) (hk : k ≤ 9000) : sem_lowest [.int t, .int b] = M.pure (pairD (lowP (t, b))) := by
  refine pure_wp fun S => ?_
  have g0 : 0 < (Int.gcd t b : Int) := gcd_pos2 (by have := ht.1; have := hb.1; omega)
  have g1 := gcd_sm ht hb
  have bg : Bd k (Int.gcd t b : Int) := bd_sm g1
  have bg : Bd 9000 (Int.gcd t b : Int) := bd_sm (g1.mono hk)
  (unfold sem_lowest; refine Ev.go_fn rfl ?_; unfold pk_lowest; simp only [Ev.slots, List.map_cons, List.map_nil, List.length_cons, List.length_nil, List.cons_append, List.nil_append, List.replicate, Nat.reduceSub, Nat.reduceAdd])
  (repeat regstrif_gather)
  refine go_val (common_big t b ht hb (by omega)) ?_
  (repeat regstrif_gather)
  exact ⟨rfl, rfl⟩
def Sc (s : Int) (m q : Mx) : Prop := m.a = s * q.a ∧ m.b = s * q.b ∧ m.c = s * q.c ∧ m.d = s * q.d
theorem Sc.refl (m : Mx) : Sc 1 m m := ⟨by omega, by omega, by omega, by omega⟩
theorem Sc.trans {s t : Int} {m n q : Mx} (h : Sc s m n) (l : Sc t n q) : Sc (s * t) m q := by
  obtain ⟨h1, h2, h3, h4⟩ := h
  obtain ⟨l1, l2, l3, l4⟩ := l
  refine ⟨?_, ?_, ?_, ?_⟩
  · rw [h1, l1, Int.mul_assoc]
  · rw [h2, l2, Int.mul_assoc]
  · rw [h3, l3, Int.mul_assoc]
  · rw [h4, l4, Int.mul_assoc]
theorem Sc.mul {s t : Int} {m n p q : Mx} (h : Sc s m p) (l : Sc t n q) : Sc (s * t) (m.mul n) (p.mul q) := by
  obtain ⟨h1, h2, h3, h4⟩ := h
  obtain ⟨l1, l2, l3, l4⟩ := l
  refine ⟨?_, ?_, ?_, ?_⟩ <;> simp only [Mx.mul, h1, h2, h3, h4, l1, l2, l3, l4] <;> grind
theorem Sc.top {s : Int} {m q : Mx} (h : Sc s m q) (t b : Int) : m.top t b = s * q.top t b := by
  obtain ⟨h1, h2, h3, h4⟩ := h
  simp only [Mx.top, h1, h2]
  grind
theorem Sc.bot {s : Int} {m q : Mx} (h : Sc s m q) (t b : Int) : m.bot t b = s * q.bot t b := by
  obtain ⟨h1, h2, h3, h4⟩ := h
  simp only [Mx.bot, h3, h4]
  grind
def Mx.pow (m : Mx) : Nat → Mx
  | 0 => one
  | n + 1 => m.mul (m.pow n)
theorem Mx.pow_add (m : Mx) (i : Nat) : ∀ j, m.pow (j + i) = (m.pow j).mul (m.pow i)
  | 0 => by rw [Nat.zero_add]; exact (Mx.one_mul _).symm
  | j + 1 => by
    rw [Nat.add_right_comm]
    show m.mul (m.pow (j + i)) = (m.mul (m.pow j)).mul _
    rw [Mx.pow_add m i j, Mx.assoc]
theorem Sc.pow {s : Int} {m q : Mx} (h : Sc s m q) : ∀ n : Nat, Sc (s ^ n) (m.pow n) (q.pow n)
  | 0 => by
    show Sc (s ^ 0) one one
    rw [Int.pow_zero]
    exact Sc.refl one
  | n + 1 => by
    rw [Int.pow_succ, Int.mul_comm]
    exact h.mul (Sc.pow h n)
structure Mx.P (m : Mx) : Prop where
  a : 0 < m.a
  b : 0 ≤ m.b
  c : 0 ≤ m.c
  d : 0 < m.d
theorem Mx.P.mul {m n : Mx} (h : m.P) (l : n.P) : (m.mul n).P := by
  have h1 := h.a
  have h2 := h.d
  have l1 := l.a
  have l2 := l.d
  refine ⟨?_, ?_, ?_, ?_⟩ <;> simp only [Mx.mul]
  · have := Int.mul_pos h1 l1
    have := Int.mul_nonneg h.b l.c
    omega
  · have := Int.mul_nonneg (Int.le_of_lt h1) l.b
    have := Int.mul_nonneg h.b (Int.le_of_lt l2)
    omega
  · have := Int.mul_nonneg h.c (Int.le_of_lt l1)
    have := Int.mul_nonneg (Int.le_of_lt h2) l.c
    omega
  · have := Int.mul_nonneg h.c l.b
    have := Int.mul_pos h2 l2
    omega
theorem Mx.P.one : (K72.one).P := ⟨by decide, by decide, by decide, by decide⟩
theorem Mx.P.pow {m : Mx} (h : m.P) : ∀ n, (m.pow n).P
  | 0 => Mx.P.one
  | n + 1 => h.mul (Mx.P.pow h n)
theorem Mx.P.vec {m : Mx} (h : m.P) {t b : Int} (ht : 0 ≤ t) (hb : 0 ≤ b) (p : 0 < t + b) : 0 ≤ m.top t b ∧ 0 ≤ m.bot t b ∧ 0 < m.top t b + m.bot t b := by
  have h1 := Int.mul_nonneg (Int.le_of_lt h.a) ht
  have h2 := Int.mul_nonneg h.b hb
  have h3 := Int.mul_nonneg h.c ht
  have h4 := Int.mul_nonneg (Int.le_of_lt h.d) hb
  have : 0 < m.a * t ∨ 0 < m.d * b := by
    rcases Int.lt_or_le 0 t with z | z
    · exact .inl (Int.mul_pos h.a z)
    · exact .inr (Int.mul_pos h.d (by omega))
  unfold Mx.top Mx.bot
  omega
theorem mat_P {r : List Pc} (h : ∀ p ∈ r, p.ok) : (mat r).P := by
  obtain ⟨h1, h2, h3, h4, h5⟩ := ad_ge h
  exact ⟨by omega, h3, h4, by omega⟩
def Mx.g (m : Mx) : Int := (Int.gcd (Int.gcd m.a m.b : Int) (Int.gcd m.c m.d : Int) : Int)
end K72
set_option maxRecDepth 100000
set_option maxHeartbeats 1000000
namespace K72
open PySem Ev
def valP (r : List Pc) (v : Int × Int) (n : Nat) : Int × Int := lowP (((mat r).pow n).top v.1 v.2, ((mat r).pow n).bot v.1 v.2)
theorem Row.s41 {r : List Pc} (h : Row r) : (mat r).S 41 := h.sm41.1
theorem sign_ok (n : Int) : sem_sign_of [.int n] = M.pure (.int (if 0 < n then 1 else if n < 0 then -1 else 0)) := by
  refine pure_wp fun S => ?_
  (unfold sem_sign_of; refine Ev.go_fn rfl ?_; unfold pk_sign_of; simp only [Ev.slots, List.map_cons, List.map_nil, List.length_cons, List.length_nil, List.cons_append, List.nil_append, List.replicate, Nat.reduceSub, Nat.reduceAdd])
  (repeat regstrif_gather)
  refine ite_d (fun c => ?_) (fun c => ?_)
  · rw [if_pos c]
    (repeat regstrif_gather)
    exact ⟨rfl, rfl⟩
  · rw [if_neg c]
    (repeat regstrif_gather)
    refine ite_d (fun c => ?_) (fun c => ?_)
    · rw [if_pos c]
      (repeat regstrif_gather)
      exact ⟨rfl, rfl⟩
    · rw [if_neg c]
      (repeat regstrif_gather)
      exact ⟨rfl, rfl⟩
def sgn (n : Int) : Int := if 0 < n then 1 else if n < 0 then -1 else 0
def cmpP (v w : Int × Int) : Int := sgn (v.1 * w.2 - w.1 * v.2)
theorem compare_ok {k : Nat} (v w : Int × Int) (h1 : Sm k v.1) (h2 : Sm k v.2) (h3 : Sm k w.1) (h4 : Sm k w.2) (hk : k ≤ 10000) : sem_compare [pairD v, pairD w] = M.pure (.int (cmpP v w)) := by
  refine pure_wp fun S => ?_
  have b1 : Bd 10000 v.1 := bd_sm (h1.mono hk)
  have b2 : Bd 10000 v.2 := bd_sm (h2.mono hk)
  have b3 : Bd 10000 w.1 := bd_sm (h3.mono hk)
  have b4 : Bd 10000 w.2 := bd_sm (h4.mono hk)
  (unfold sem_compare; refine Ev.go_fn rfl ?_; unfold pk_compare; simp only [Ev.slots, List.map_cons, List.map_nil, List.length_cons, List.length_nil, List.cons_append, List.nil_append, List.replicate, Nat.reduceSub, Nat.reduceAdd])
  unfold pairD
  (repeat regstrif_gather)
  exact go_val (sign_ok _) ⟨rfl, rfl⟩
end K72
set_option maxRecDepth 100000
set_option maxHeartbeats 1000000
namespace K72
open PySem Ev
theorem norm_010 : norm 0 1 0 = (0, 1, 0) := by
  unfold norm
  rw [if_pos rfl]
  decide +kernel
def Nm (r : List Pc) : Int × Int × Int := if (mat r).b = 0 then (0, 1, 0) else norm (mat r).c ((mat r).d - (mat r).a) (mat r).b
theorem limD_eq (r : List Pc) : limD r = if (mat r).c = 0 then .tup [.int 1, .int 0] else exD (Nm r) := by
  unfold limD Nm
  rw [norm_010]
  split
  · rfl
  · split <;> rfl
theorem row_eqn {r : List Pc} (h : Row r) (hc : (mat r).c ≠ 0) (hb : (mat r).b ≠ 0) : Eqn (mat r).c ((mat r).d - (mat r).a) (mat r).b := by
  obtain ⟨⟨⟨a1, a2⟩, ⟨b1, b2⟩, ⟨c1, c2⟩, ⟨d1, d2⟩⟩, s1, s2⟩ := h.sm41
  exact ⟨by omega, by omega, by omega, by omega, by omega, by omega, fun h => by omega, fun h => by omega⟩
theorem rt_small {n K s : Int} (h : IsRt n s) (k0 : 0 < K) (hn : n ≤ 5 * (K * K)) : s < 3 * K := by
  rcases Int.lt_or_le s (3 * K) with z | z
  · exact z
  · have := Int.mul_le_mul z z (by omega) (by have := h.nn; omega)
    have e : 3 * K * (3 * K) = 9 * (K * K) := by grind
    have p := Int.mul_pos k0 k0
    have := h.le
    omega
def Fix (m : Mx) (v : Int × Int) : Prop := m.top v.1 v.2 * v.2 = v.1 * m.bot v.1 v.2
theorem Fix.mul {m n : Mx} {v : Int × Int} (b : v.2 ≠ 0) (h : Fix m v) (l : Fix n v) : Fix (m.mul n) v := by
  unfold Fix at *
  rw [top_mul, bot_mul]
  refine Int.eq_of_mul_eq_mul_left b ?_
  simp only [Mx.top, Mx.bot] at *
  generalize n.a * v.1 + n.b * v.2 = p at *
  generalize n.c * v.1 + n.d * v.2 = q at *
  have e1 : v.2 * ((m.a * p + m.b * q) * v.2) = (m.a * (p * v.2) + m.b * q * v.2) * v.2 := by grind
  have e2 : v.2 * (v.1 * (m.c * p + m.d * q)) = v.1 * (m.c * (p * v.2) + m.d * q * v.2) := by grind
  rw [e1, e2, l]
  have e3 : (m.a * (v.1 * q) + m.b * q * v.2) * v.2 = q * ((m.a * v.1 + m.b * v.2) * v.2) := by grind
  rw [e3, h]
  grind
theorem Fix.pow {m : Mx} {v : Int × Int} (b : v.2 ≠ 0) (h : Fix m v) : ∀ n, Fix (m.pow n) v
  | 0 => by unfold Fix Mx.pow Mx.top Mx.bot one; grind
  | n + 1 => h.mul b (Fix.pow b h n)
end K72
set_option maxRecDepth 100000
set_option maxHeartbeats 1000000
namespace K72
open PySem Ev
def act (m : Mx) (v : Int × Int) : Int × Int := (m.top v.1 v.2, m.bot v.1 v.2)
theorem act_mul (m n : Mx) (v : Int × Int) : act (m.mul n) v = act m (act n v) := by
  unfold act
  rw [top_mul, bot_mul]
theorem act_one (v : Int × Int) : act one v = v := by
  unfold act one Mx.top Mx.bot
  simp
structure Nn (v : Int × Int) : Prop where
  t : 0 ≤ v.1
  b : 0 ≤ v.2
  p : 0 < v.1 + v.2
theorem Nn.act {m : Mx} (h : m.P) {v : Int × Int} (n : Nn v) : Nn (act m v) := by
  obtain ⟨a, b, c⟩ := h.vec n.t n.b n.p
  exact ⟨a, b, c⟩
theorem Nn.low {v : Int × Int} (n : Nn v) : Nn (lowP v) := by
  obtain ⟨g, g0, e1, e2⟩ := lowP_mul n.t n.b n.p
  have nn : ∀ {x y : Int}, 0 ≤ y → g * x = y → 0 ≤ x := fun {x y} hy e => by
    rcases Int.lt_or_le x 0 with z | z
    · have := Int.mul_neg_of_pos_of_neg g0 z
      omega
    · exact z
  refine ⟨nn n.t e1, nn n.b e2, ?_⟩
  have a := nn n.t e1
  have b := nn n.b e2
  rcases Int.lt_or_le 0 ((lowP v).1 + (lowP v).2) with z | z
  · exact z
  · have z1 : (lowP v).1 = 0 := by omega
    have z2 : (lowP v).2 = 0 := by omega
    rw [z1, Int.mul_zero] at e1
    rw [z2, Int.mul_zero] at e2
    have := n.p
    omega
structure Tms (s : Int) (m q : Mx) : Prop where
  b : m.b = s * q.b
  c : m.c = s * q.c
  d : m.d - m.a = s * (q.d - q.a)
theorem Tms.two (m : Mx) : Tms (m.a + m.d) (m.mul m) m := by
  refine ⟨?_, ?_, ?_⟩ <;> simp only [Mx.mul] <;> grind
theorem Tms.three (m : Mx) : Tms (m.a * m.a + m.a * m.d + m.d * m.d + m.b * m.c) ((m.mul m).mul m) m := by
  refine ⟨?_, ?_, ?_⟩ <;> simp only [Mx.mul] <;> grind
end K72
set_option maxRecDepth 100000
set_option maxHeartbeats 2000000
namespace K72
open PySem Ev
def Tape (S : List Ob) (n c : Nat) : Prop := ∃ a m k : Int, S[n]? = some (.lst [.int a, .int m, .int k]) ∧ 0 ≤ a ∧ 0 ≤ m ∧ m < 2147483629 ∧ 0 ≤ k ∧ k ≤ c
theorem Tape.mono {S : List Ob} {n c c' : Nat} (h : Tape S n c) (l : c ≤ c') : Tape S n c' := by
  obtain ⟨a, m, k, e, h1, h2, h3, h4, h5⟩ := h
  exact ⟨a, m, k, e, h1, h2, h3, h4, by omega⟩
theorem pick_ok (S : List Ob) (n c : Nat) (many : Int) (h : Tape S n c) (hc : c ≤ 1000000) (hm : 0 < many) (hm2 : many ≤ 1000000000001) : Ev.Run (sem__law_pick [.ref n, .int many]) S fun d S' => ∃ r, d = .int r ∧ 0 ≤ r ∧ r < many ∧ Tape S' n (c + 1) := by
  obtain ⟨a, m, k, hS, ha, hm0, hm1, hk0, hk1⟩ := h
  unfold sem__law_pick
  rw [run_fn]
  refine ⟨rfl, ?_⟩
  show RunS pk__law_pick.1 [.val (.ref n), .val (.int many), .no] S _ _ _ _
  unfold pk__law_pick
  simp only [runS_seq, runS_tgt, runS_if, runS_ret, runS_next, run_bind, run_pure, run_ite, getv, List.getElem?_cons_zero, List.getElem?_cons_succ, List.set_cons_zero, List.set_cons_succ, on1, on2]
  rw [ix_ref hS (show L2.atI [D.int a, D.int m, D.int k] 2 = some (.int k) from rfl)]
  simp only [run_pure, add_int, int_int]
  rw [item_set (j := 2) (i := 2) rfl hS rfl]
  have hS1 := set_get (p := .lst [.int a, .int m, .int (k + 1)]) hS
  simp only [List.getElem?_cons_zero, List.getElem?_cons_succ, run_pure, List.set_cons_zero, List.set_cons_succ]
  rw [ix_ref hS1 (show L2.atI [D.int a, D.int m, D.int (k + 1)] 1 = some (.int m) from rfl)]
  rw [ix_ref hS1 (show L2.atI [D.int a, D.int m, D.int (k + 1)] 2 = some (.int (k + 1)) from rfl)]
  have s1 : Sm 31 (k + 1) := ⟨by omega, by omega⟩
  rw [mulS (show Sm 20 31337 from ⟨by decide, by decide⟩) s1 (by decide)]
  simp only [run_pure, add_int]
  have pw : dPow (.int (m + 31337 * (k + 1) + 17)) (.int 5) = M.pure (.int ((m + 31337 * (k + 1) + 17) ^ 5)) := by
    show (if 0 ≤ (5 : Int) ∧ (5 : Int) ≤ 1000000 ∧ (m + 31337 * (k + 1) + 17).natAbs < 2 ^ 64 then M.pure (D.int _) else M.stuck) = _
    rw [if_pos ⟨by decide, by decide, by omega⟩]
    rfl
  rw [pw]
  simp only [run_pure, int_int, mod_int (show (0 : Int) < 2147483629 by decide)]
  rw [item_set (j := 1) (i := 1) rfl hS1 rfl]
  have m0 := Int.emod_nonneg ((m + 31337 * (k + 1) + 17) ^ 5) (show (2147483629 : Int) ≠ 0 by decide)
  have m1 := Int.emod_lt_of_pos ((m + 31337 * (k + 1) + 17) ^ 5) (show (0 : Int) < 2147483629 by decide)
  generalize (m + 31337 * (k + 1) + 17) ^ 5 % 2147483629 = m' at m0 m1
  have hS2 := set_get (p := .lst [.int a, .int m', .int (k + 1)]) hS1
  simp only [List.getElem?_cons_zero, List.getElem?_cons_succ, run_pure, List.set_cons_zero, List.set_cons_succ]
  rw [ix_ref hS2 (show L2.atI [D.int a, D.int m', D.int (k + 1)] 0 = some (.int a) from rfl)]
  simp only [cmp_int, run_pure, toB_bl]
  by_cases b0 : 0 < a
  · rw [if_pos (decide_eq_true b0)]
    rw [ix_ref hS2 (show L2.atI [D.int a, D.int m', D.int (k + 1)] 0 = some (.int a) from rfl)]
    have dm : dDivmod (.int a) (.int many) = M.pure (.tup [.int (a / many), .int (a % many)]) := by
      show (if divmOk a many = true then M.pure (D.tup [.int (a / many), .int (a % many)]) else M.stuck) = _
      rw [if_pos]
      unfold divmOk
      rw [Bool.and_eq_true]
      refine ⟨decide_eq_true hm, ?_⟩
      rw [PyProof.noPylong_of_log2 (by
        have h40 : many.natAbs.log2 < 40 := (Nat.log2_lt (by omega)).mpr (by omega)
        omega)]
      rfl
    rw [dm]
    simp only [run_pure, tupT, consT, List.length_cons, List.length_nil, Nat.reduceAdd, if_true]
    rw [item_set (j := 0) (i := 0) rfl hS2 rfl]
    simp only [setT, List.set_cons_zero, List.set_cons_succ, List.getElem?_cons_zero, List.getElem?_cons_succ, run_pure]
    exact ⟨a % many, rfl, Int.emod_nonneg _ (by omega), Int.emod_lt_of_pos _ hm, _, _, _, set_get hS2, Int.ediv_nonneg ha (by omega), m0, m1, by omega, by omega⟩
  · rw [if_neg (by simpa using b0)]
    rw [ix_ref hS2 (show L2.atI [D.int a, D.int m', D.int (k + 1)] 1 = some (.int m') from rfl)]
    rw [fdiv_int (show divOk 97 = true by decide +kernel)]
    simp only [run_pure, int_int, mod_int hm]
    exact ⟨_, rfl, Int.emod_nonneg _ (by omega), Int.emod_lt_of_pos _ hm, _, _, _, hS2, ha, m0, m1, by omega, by omega⟩
theorem pick_wp {S : List Ob} {n c : Nat} {many : Int} {P : D → List Ob → Prop} (h : Tape S n c) (hc : c ≤ 1000000) (hm : 0 < many) (hm2 : many ≤ 1000000000001) (q : ∀ r S', 0 ≤ r → r < many → Tape S' n (c + 1) → P (.int r) S') : Wp (sem__law_pick [.ref n, .int many]) S P :=
  ((pick_ok S n c many h hc hm hm2).mono fun d S' z => by obtain ⟨r, rfl, h0, h1, h2⟩ := z; exact q r S' h0 h1 h2).wp
end K72
set_option maxRecDepth 100000
set_option maxHeartbeats 4000000
namespace K72
open PySem Ev
theorem law_lowest_ok {k : Nat} (t b : Int) (ht : Sm k t) (hb : Sm k b) (h : 0 < t + b) (hk : k ≤ 9000) : sem__law_lowest [.int t, .int b] = M.pure (pairD (lowP (t, b))) := by
  refine pure_wp fun S => ?_
  obtain ⟨n, hn, hl⟩ := left_big ht hb
  have g0 : 0 < (Int.gcd t b : Int) := gcd_pos2 (by have := ht.1; have := hb.1; omega)
  have g1 := gcd_sm ht hb
  have bg : Bd 9000 (Int.gcd t b : Int) := bd_sm (g1.mono hk)
  (unfold sem__law_lowest; refine Ev.go_fn rfl ?_; unfold pk__law_lowest; simp only [Ev.slots, List.map_cons, List.map_nil, List.length_cons, List.length_nil, List.cons_append, List.nil_append, List.replicate, Nat.reduceSub, Nat.reduceAdd])
  (repeat regstrif_gather)
  refine gs_iter (J := fun n sd S' => S' = S ∧ ∃ x y : Int, sd = [.val (.int t), .val (.int b), .val (.int x), .val (.int y)] ∧ 0 ≤ x ∧ 0 ≤ y ∧ Int.gcd x y = Int.gcd t b ∧ Left x y n) ?_ n _ _ (by unfold bigW; omega) ⟨rfl, t, b, rfl, ht.1, hb.1, rfl, hl⟩
  rintro n sd S' ⟨rfl, x, y, rfl, hx, hy, hg, hn⟩
  (repeat regstrif_gather)
  refine ite_d (fun h => ?_) (fun h => ?_)
  · (repeat regstrif_gather)
    obtain ⟨n', l', h'⟩ := left_step hx h hn
    exact ⟨n', l', rfl, y, x % y, rfl, hy, Int.emod_nonneg x (by omega), (gcd_step x y hx h).trans hg, h'⟩
  · have y0 : y = 0 := by omega
    subst y0
    simp only [Int.gcd_zero] at hg
    have xg : x = (Int.gcd t b : Int) := by omega
    subst xg
    (repeat regstrif_gather)
    exact ⟨rfl, rfl⟩
def rowT (r : List Pc) : D := .tup (r.map Pc.D)
theorem revX_row (r : List Pc) : dRevX (rowT r) = M.pure (.tup (r.reverse.map Pc.D)) := by
  show dStep (-1) (.tup (r.map Pc.D)) = _
  rw [dStep_rev, List.map_reverse]
theorem law_led_ok {k : Nat} {r : List Pc} (h : Row r) {v : Int × Int} (h1 : Sm k v.1) (h2 : Sm k v.2) (hk : k ≤ 9000) : sem__law_led [rowT r, pairD v] = M.pure (pairD (act (mat r) v)) := by
  refine pure_wp fun S => ?_
  have rv := revX_row r
  unfold pairD
  (unfold sem__law_led; refine Ev.go_fn rfl ?_; unfold pk__law_led; simp only [Ev.slots, List.map_cons, List.map_nil, List.length_cons, List.length_nil, List.cons_append, List.nil_append, List.replicate, Nat.reduceSub, Nat.reduceAdd])
  (repeat regstrif_gather)
  refine go_val rv ?_
  (repeat regstrif_gather)
  refine gs_each (J := fun ks sd S' => S' = S ∧ ∃ (r2 : List Pc) (u w : SV), r = ks.reverse ++ r2 ∧ sd = [.val (rowT r), .val (.tup [.int v.1, .int v.2]), .val (.int (act (mat r2) v).1), .val (.int (act (mat r2) v).2), u, w]) ?_ ?_ _ _ _ ⟨rfl, [], .no, .no, by rw [List.reverse_reverse, List.append_nil], by rw [show mat [] = one from rfl, act_one]⟩
  · rintro p ks sd S' ⟨rfl, r2, u, w, er, rfl⟩
    have hp : p.ok := h.1 p (by rw [er]; simp)
    have hr2 : ∀ q ∈ r2, q.ok := fun q hq => h.1 q (by rw [er]; simp [hq])
    have so := Pc.sm hp
    have bo := bd_sm so
    have e : r = ks.reverse ++ (p :: r2) := by rw [er, List.reverse_cons, List.append_assoc]; rfl
    have st : act (mat (p :: r2)) v = act p.m (act (mat r2) v) := by rw [mat_cons, act_mul]
    have l2 : r2.length ≤ 8 := by
      have := congrArg List.length er
      have := h.2
      rw [List.length_append] at *
      omega
    have s2 := (show Row r2 from ⟨hr2, l2⟩).s41
    have a1 : Sm (41 + k + 1) (act (mat r2) v).1 := (s2.a.mul h1).add (s2.b.mul h2)
    have a2 : Sm (41 + k + 1) (act (mat r2) v).2 := (s2.c.mul h1).add (s2.d.mul h2)
    have b1 := bd_sm a1
    have b2 := bd_sm a2
    generalize act (mat r2) v = x at *
    obtain ⟨b, o⟩ := p
    cases b with
    | true =>
      rw [show Pc.D ⟨true, o⟩ = .tup [.str "rail", .int o] from rfl]
      (repeat regstrif_gather)
      refine ⟨rfl, _ :: r2, .val (.str "rail"), .val (.int o), e, ?_⟩
      have ea : act (Pc.m ⟨true, o⟩) x = (x.1 + o * x.2, x.2) := by
        show (1 * x.1 + o * x.2, 0 * x.1 + 1 * x.2) = _
        rw [Int.one_mul, Int.zero_mul, Int.zero_add, Int.one_mul]
      rw [st, ea]
    | false =>
      rw [show Pc.D ⟨false, o⟩ = .tup [.str "rung", .int o] from rfl]
      (repeat regstrif_gather)
      refine ⟨rfl, _ :: r2, .val (.str "rung"), .val (.int o), e, ?_⟩
      have ea : act (Pc.m ⟨false, o⟩) x = (o * x.1, o * x.2 + x.1) := by
        show (o * x.1 + 0 * x.2, 1 * x.1 + o * x.2) = _
        rw [Int.zero_mul, Int.add_zero, Int.one_mul, Int.add_comm]
      rw [st, ea]
  · rintro sd S' ⟨rfl, r2, u, w, er, rfl⟩
    rw [List.reverse_nil, List.nil_append] at er
    subst er
    (repeat regstrif_gather)
    exact ⟨rfl, rfl⟩
theorem pow_S {m : Mx} {k : Nat} (h : m.S k) (k1 : 1 ≤ k) : ∀ n : Nat, (m.pow n).S ((k + 1) * n + k)
  | 0 => one_sm.mono (by omega)
  | n + 1 => (h.mul (pow_S h k1 n)).mono (by rw [Nat.mul_succ]; omega)
def wV (r : List Pc) (e : Int × Int) (n : Nat) : Int × Int := act ((mat r).pow n) e
theorem wV_0 (r : List Pc) (e : Int × Int) : wV r e 0 = e := act_one e
theorem wV_S (r : List Pc) (e : Int × Int) (n : Nat) : wV r e (n + 1) = act (mat r) (wV r e n) := act_mul _ _ _
theorem wV_sm {r : List Pc} (h : Row r) {e : Int × Int} {j : Nat} (h1 : Sm j e.1) (h2 : Sm j e.2) (n : Nat) : Sm (42 * n + 41 + j + 1) (wV r e n).1 ∧ Sm (42 * n + 41 + j + 1) (wV r e n).2 := by
  have ps := pow_S h.s41 (by decide) n
  exact ⟨(ps.a.mul h1).add (ps.b.mul h2), (ps.c.mul h1).add (ps.d.mul h2)⟩
end K72
set_option maxRecDepth 100000
set_option maxHeartbeats 4000000
namespace K72
open PySem Ev
inductive Pl : D → Prop
  | non : Pl .non
  | bl (b : Bool) : Pl (.bl b)
  | int (i : Int) (h : Bd 4500 i) : Pl (.int i)
  | str (x : Str) (h : SeqAt.shaped (PyData.str x) = true) : Pl (.str x)
  | tup (ds : List D) (l : ds.length ≤ 100) (h : ∀ d ∈ ds, Pl d) : Pl (.tup ds)
  | lst (ds : List D) (l : ds.length ≤ 100) (h : ∀ d ∈ ds, Pl d) : Pl (.lst ds)
  | dct : Pl (.dct [] [])
def kdT : D → Option TyN
  | .non => some .none_
  | .bl _ => some .bool
  | .int _ => some .int
  | .str _ => some .str
  | .tup _ => some .tuple
  | .lst _ => some .list
  | .dct _ _ => some .dict
  | _ => none
def tyB : D → TyN → Bool
  | .non, .none_ => true
  | .bl _, .bool => true
  | .bl _, .int => true
  | .int _, .int => true
  | .str _, .str => true
  | .tup _, .tuple => true
  | .lst _, .list => true
  | .dct _ _, .dict => true
  | _, _ => false
theorem isa_t {known : Nat → Bool} {sub : Nat → Nat → Option Bool} {d : D} {a t : TyN} (h : kdT d = some a) : dIsa known sub d (.ty t) = M.pure (.bl (tyB d t)) := by
  cases d <;> cases h <;> cases t <;> rfl
def isI : D → Bool
  | .int _ => true
  | _ => false
theorem isa_p {known : Nat → Bool} {sub : Nat → Nat → Option Bool} {d : D} (h : Pl d) (t : TyN) : dIsa known sub d (.ty t) = M.pure (.bl (tyB d t)) := by
  cases h <;> exact isa_t rfl
theorem Pl.int? {d : D} (h : Pl d) : (∃ i, d = .int i ∧ Bd 4500 i) ∨ (∃ b, d = .bl b) ∨ (tyB d .int = false ∧ isI d = false) := by
  cases h with
  | int i h => exact .inl ⟨i, rfl, h⟩
  | bl b => exact .inr (.inl ⟨b, rfl⟩)
  | _ => exact .inr (.inr ⟨rfl, rfl⟩)
theorem Pl.tup? {d : D} (h : Pl d) : (∃ ds, d = .tup ds ∧ ds.length ≤ 100 ∧ ∀ x ∈ ds, Pl x) ∨ (tyB d .tuple = false ∧ ∀ ds, d ≠ .tup ds) := by
  cases h with
  | tup ds l h => exact .inl ⟨ds, rfl, l, h⟩
  | _ => exact .inr ⟨rfl, fun _ => nofun⟩
theorem Pl.str? {d : D} (h : Pl d) : (∃ x, d = .str x ∧ SeqAt.shaped (PyData.str x) = true) ∨ (tyB d .str = false ∧ ∀ x, d ≠ .str x) := by
  cases h with
  | str x h => exact .inl ⟨x, rfl, h⟩
  | _ => exact .inr ⟨rfl, fun _ => nofun⟩
theorem isint_p {d : D} (h : Pl d) : sem_is_integer [d] = M.pure (.bl (isI d)) := by
  refine pure_wp fun S => ?_
  rcases h.int? with ⟨i, rfl, _⟩ | ⟨b, rfl⟩ | ⟨h1, h2⟩
  · (unfold sem_is_integer; refine Ev.go_fn rfl ?_; unfold pk_is_integer; simp only [Ev.slots, List.map_cons, List.map_nil, List.length_cons, List.length_nil, List.cons_append, List.nil_append, List.replicate, Nat.reduceSub, Nat.reduceAdd])
    (repeat regstrif_gather)
    (refine go_val (isa_t rfl) ?_; simp only [tyB]; (repeat regstrif_gather))
    (refine go_val (isa_t rfl) ?_; simp only [tyB]; (repeat regstrif_gather))
    exact ⟨rfl, rfl⟩
  · (unfold sem_is_integer; refine Ev.go_fn rfl ?_; unfold pk_is_integer; simp only [Ev.slots, List.map_cons, List.map_nil, List.length_cons, List.length_nil, List.cons_append, List.nil_append, List.replicate, Nat.reduceSub, Nat.reduceAdd])
    (repeat regstrif_gather)
    (refine go_val (isa_t rfl) ?_; simp only [tyB]; (repeat regstrif_gather))
    (refine go_val (isa_t rfl) ?_; simp only [tyB]; (repeat regstrif_gather))
    exact ⟨rfl, rfl⟩
  · (unfold sem_is_integer; refine Ev.go_fn rfl ?_; unfold pk_is_integer; simp only [Ev.slots, List.map_cons, List.map_nil, List.length_cons, List.length_nil, List.cons_append, List.nil_append, List.replicate, Nat.reduceSub, Nat.reduceAdd])
    (repeat regstrif_gather)
    refine go_val (isa_p h _) ?_
    rw [h1, h2]
    (repeat regstrif_gather)
    (first | exact ⟨rfl, rfl⟩ | exact go_pure ⟨rfl, rfl⟩)
def btw (d : D) (a b : Int) : Bool := match d with
  | .int i => decide (a ≤ i) && decide (i ≤ b)
  | _ => false
theorem btw_no {d : D} (h : isI d = false) (a b : Int) : btw d a b = false := by
  cases d <;> first | rfl | cases h
theorem isI_int {d : D} (h : isI d = true) : ∃ i, d = .int i := by
  cases d <;> first | exact ⟨_, rfl⟩ | cases h
theorem chain_le (i a b : Int) (sd : List SV) (l : sd = [.val (.int i), .val (.int a), .val (.int b)]) : chainD (dCmpI fun i j => decide (i ≤ j)) (dCmpI fun i j => decide (i ≤ j)) (getv 1) (getv 0) (getv 2) sd = M.pure (.bl (btw (.int i) a b)) := by
  subst l
  show (if decide (a ≤ i) = true then M.pure (D.bl (decide (i ≤ b))) else M.pure (.bl false)) = M.pure (.bl (decide (a ≤ i) && decide (i ≤ b)))
  cases decide (a ≤ i) <;> rfl
theorem between_p {d : D} (h : Pl d) (a b : Int) : sem_is_between [d, .int a, .int b] = M.pure (.bl (btw d a b)) := by
  refine pure_wp fun S => ?_
  have e := isint_p h
  rcases hI : isI d with _ | _
  · rw [hI] at e
    (unfold sem_is_between; refine Ev.go_fn rfl ?_; unfold pk_is_between; simp only [Ev.slots, List.map_cons, List.map_nil, List.length_cons, List.length_nil, List.cons_append, List.nil_append, List.replicate, Nat.reduceSub, Nat.reduceAdd])
    (repeat regstrif_gather)
    refine go_val e ?_
    (repeat regstrif_gather)
    first | exact ⟨by rw [btw_no hI], rfl⟩ | exact go_pure ⟨by rw [btw_no hI], rfl⟩
  · obtain ⟨i, rfl⟩ := isI_int hI
    (unfold sem_is_between; refine Ev.go_fn rfl ?_; unfold pk_is_between; simp only [Ev.slots, List.map_cons, List.map_nil, List.length_cons, List.length_nil, List.cons_append, List.nil_append, List.replicate, Nat.reduceSub, Nat.reduceAdd])
    (repeat regstrif_gather)
    refine go_val e ?_
    rw [hI]
    (repeat regstrif_gather)
    refine go_val (chain_le i a b _ rfl) ?_
    exact ⟨rfl, rfl⟩
theorem whole_p {d : D} (h : Pl d) (a b : Int) : sem__law_is_whole [d, .int a, .int b] = M.pure (.bl (btw d a b)) := by
  refine pure_wp fun S => ?_
  rcases h.int? with ⟨i, rfl, _⟩ | ⟨x, rfl⟩ | ⟨h1, h2⟩
  · (unfold sem__law_is_whole; refine Ev.go_fn rfl ?_; unfold pk__law_is_whole; simp only [Ev.slots, List.map_cons, List.map_nil, List.length_cons, List.length_nil, List.cons_append, List.nil_append, List.replicate, Nat.reduceSub, Nat.reduceAdd])
    (repeat regstrif_gather)
    (refine go_val (isa_t rfl) ?_; simp only [tyB]; (repeat regstrif_gather))
    (refine go_val (isa_t rfl) ?_; simp only [tyB]; (repeat regstrif_gather))
    refine go_val (chain_le i a b _ rfl) ?_
    exact ⟨rfl, rfl⟩
  · (unfold sem__law_is_whole; refine Ev.go_fn rfl ?_; unfold pk__law_is_whole; simp only [Ev.slots, List.map_cons, List.map_nil, List.length_cons, List.length_nil, List.cons_append, List.nil_append, List.replicate, Nat.reduceSub, Nat.reduceAdd])
    (repeat regstrif_gather)
    (refine go_val (isa_t rfl) ?_; simp only [tyB]; (repeat regstrif_gather))
    (refine go_val (isa_t rfl) ?_; simp only [tyB]; (repeat regstrif_gather))
    (first | exact ⟨rfl, rfl⟩ | exact go_pure ⟨rfl, rfl⟩)
  · (unfold sem__law_is_whole; refine Ev.go_fn rfl ?_; unfold pk__law_is_whole; simp only [Ev.slots, List.map_cons, List.map_nil, List.length_cons, List.length_nil, List.cons_append, List.nil_append, List.replicate, Nat.reduceSub, Nat.reduceAdd])
    (repeat regstrif_gather)
    refine go_val (isa_p h _) ?_
    rw [h1]
    (repeat regstrif_gather)
    first | exact ⟨by rw [btw_no h2], rfl⟩ | exact go_pure ⟨by rw [btw_no h2], rfl⟩
end K72
set_option maxRecDepth 100000
set_option maxHeartbeats 4000000
namespace K72
open PySem Ev
def wordB (w : Str) : Bool := decide (w = "rail") || decide (w = "rung")
def pieceB : D → Bool
  | .tup [.str w, d] => wordB w && btw d 1 12
  | _ => false
theorem pieceB_not {d : D} (h : ∀ ds, d ≠ .tup ds) : pieceB d = false := by
  cases d <;> first | rfl | exact absurd rfl (h _)
theorem pieceB_two {a b : D} (h : ∀ x, a ≠ .str x) : pieceB (.tup [a, b]) = false := by
  cases a <;> first | rfl | exact absurd rfl (h _)
theorem pieceB_one (a : D) : pieceB (.tup [a]) = false := by
  cases a <;> rfl
theorem pieceB_more (a b c : D) (l : List D) : pieceB (.tup (a :: b :: c :: l)) = false := by
  cases a <;> rfl
theorem pieceB_str (w : Str) (b : D) : pieceB (.tup [.str w, b]) = (wordB w && btw b 1 12) := rfl
theorem chain_len (ds : List D) (x : SV) : chainD (dCmpI fun i j => decide (i ≤ j)) (dCmpI fun i j => decide (i ≤ j)) (fun _ => M.pure (D.int 1)) (fun sd => ((getv 0 sd).bind fun d => (M.pure []).bind fun ds => M.pure (d :: ds)).bind (on1 dLen)) (fun _ => M.pure (D.int 8)) [SV.val (D.tup ds), x] = M.pure (.bl (decide (1 ≤ ds.length) && decide (ds.length ≤ 8))) := by
  show (if decide ((1 : Int) ≤ (ds.length : Int)) = true then M.pure (D.bl (decide ((ds.length : Int) ≤ 8))) else M.pure (.bl false)) = _
  by_cases c : 1 ≤ ds.length
  · rw [if_pos (decide_eq_true (by omega)), decide_eq_true c, Bool.true_and]
    congr 2
    exact decide_eq_decide.mpr (by omega)
  · rw [if_neg (by rw [decide_eq_true_eq]; omega), decide_eq_false c]
    rfl
theorem in_words (w : Str) : dIn false (.str w) (.tup [.str "rail", .str "rung"]) = M.pure (.bl (wordB w)) := by
  show M.pure (D.bl ([("rail" : Str), "rung"].contains w)) = _
  unfold wordB
  rw [List.contains_cons, List.contains_cons, List.contains_nil, Bool.or_false]
  congr 2
theorem is_piece_p {d : D} (h : Pl d) : sem_is_piece [d] = M.pure (.bl (pieceB d)) := by
  refine pure_wp fun S => ?_
  rcases h.tup? with ⟨ds, rfl, _, hp⟩ | ⟨h1, h2⟩
  · rcases ds with _ | ⟨a, _ | ⟨b, _ | ⟨c, l⟩⟩⟩
    · (unfold sem_is_piece; refine Ev.go_fn rfl ?_; unfold pk_is_piece; simp only [Ev.slots, List.map_cons, List.map_nil, List.length_cons, List.length_nil, List.cons_append, List.nil_append, List.replicate, Nat.reduceSub, Nat.reduceAdd])
      (repeat regstrif_gather)
      (refine go_val (isa_t rfl) ?_; simp only [tyB]; (repeat regstrif_gather))
      exact ⟨rfl, rfl⟩
    · (unfold sem_is_piece; refine Ev.go_fn rfl ?_; unfold pk_is_piece; simp only [Ev.slots, List.map_cons, List.map_nil, List.length_cons, List.length_nil, List.cons_append, List.nil_append, List.replicate, Nat.reduceSub, Nat.reduceAdd])
      (repeat regstrif_gather)
      (refine go_val (isa_t rfl) ?_; simp only [tyB]; (repeat regstrif_gather))
      exact ⟨by rw [pieceB_one], rfl⟩
    · have ha := hp a (by simp)
      have hb := hp b (by simp)
      rcases ha.str? with ⟨w, rfl, _⟩ | ⟨h1, h2⟩
      · have iw := in_words w
        have ib := between_p hb 1 12
        (unfold sem_is_piece; refine Ev.go_fn rfl ?_; unfold pk_is_piece; simp only [Ev.slots, List.map_cons, List.map_nil, List.length_cons, List.length_nil, List.cons_append, List.nil_append, List.replicate, Nat.reduceSub, Nat.reduceAdd])
        (repeat regstrif_gather)
        (refine go_val (isa_t rfl) ?_; simp only [tyB]; (repeat regstrif_gather))
        (refine go_val (isa_t rfl) ?_; simp only [tyB]; (repeat regstrif_gather))
        refine go_val iw ?_
        (repeat regstrif_gather)
        cases hw : wordB w with
        | false =>
          (repeat regstrif_gather)
          rw [pieceB_str, hw]
          (first | exact ⟨rfl, rfl⟩ | exact go_pure ⟨rfl, rfl⟩)
        | true =>
          (repeat regstrif_gather)
          refine go_val ib ?_
          exact ⟨by rw [pieceB_str, hw, Bool.true_and], rfl⟩
      · (unfold sem_is_piece; refine Ev.go_fn rfl ?_; unfold pk_is_piece; simp only [Ev.slots, List.map_cons, List.map_nil, List.length_cons, List.length_nil, List.cons_append, List.nil_append, List.replicate, Nat.reduceSub, Nat.reduceAdd])
        (repeat regstrif_gather)
        (refine go_val (isa_t rfl) ?_; simp only [tyB]; (repeat regstrif_gather))
        refine go_val (isa_p ha _) ?_
        rw [h1]
        (repeat regstrif_gather)
        exact ⟨by rw [pieceB_two h2], rfl⟩
    · (unfold sem_is_piece; refine Ev.go_fn rfl ?_; unfold pk_is_piece; simp only [Ev.slots, List.map_cons, List.map_nil, List.length_cons, List.length_nil, List.cons_append, List.nil_append, List.replicate, Nat.reduceSub, Nat.reduceAdd])
      (repeat regstrif_gather)
      (refine go_val (isa_t rfl) ?_; simp only [tyB]; (repeat regstrif_gather))
      refine ite_d (fun z => ?_) (fun z => ?_)
      · simp only [List.length_cons] at z
        omega
      · (repeat regstrif_gather)
        exact ⟨by rw [pieceB_more], rfl⟩
  · (unfold sem_is_piece; refine Ev.go_fn rfl ?_; unfold pk_is_piece; simp only [Ev.slots, List.map_cons, List.map_nil, List.length_cons, List.length_nil, List.cons_append, List.nil_append, List.replicate, Nat.reduceSub, Nat.reduceAdd])
    (repeat regstrif_gather)
    refine go_val (isa_p h _) ?_
    rw [h1]
    (repeat regstrif_gather)
    exact ⟨by rw [pieceB_not h2], rfl⟩
def rowB : D → Bool
  | .tup ds => decide (1 ≤ ds.length) && decide (ds.length ≤ 8) && ds.all pieceB
  | _ => false
theorem piece_of {d : D} (h : pieceB d = true) : ∃ p : Pc, p.ok ∧ d = p.D := by
  unfold pieceB at h
  split at h
  · rename_i w e
    obtain ⟨h1, h2⟩ := Bool.and_eq_true_iff.mp h
    obtain ⟨i, rfl⟩ := isI_int (d := e) (by
      cases hi : isI e with
      | true => rfl
      | false => rw [btw_no hi] at h2; cases h2)
    obtain ⟨a, b⟩ := Bool.and_eq_true_iff.mp (show (decide (1 ≤ i) && decide (i ≤ 12)) = true from h2)
    have a := of_decide_eq_true a
    have b := of_decide_eq_true b
    unfold wordB at h1
    rcases Bool.or_eq_true_iff.mp h1 with z | z
    · have z := of_decide_eq_true z
      subst z
      exact ⟨⟨true, i⟩, ⟨a, b⟩, rfl⟩
    · have z := of_decide_eq_true z
      subst z
      exact ⟨⟨false, i⟩, ⟨a, b⟩, rfl⟩
  · cases h
theorem pieces_of : ∀ {ds : List D}, ds.all pieceB = true → ∃ r : List Pc, (∀ p ∈ r, p.ok) ∧ ds = r.map Pc.D
  | [], _ => ⟨[], nofun, rfl⟩
  | d :: ds, h => by
    rw [List.all_cons] at h
    obtain ⟨h1, h2⟩ := Bool.and_eq_true_iff.mp h
    obtain ⟨p, hp, rfl⟩ := piece_of h1
    obtain ⟨r, hr, rfl⟩ := pieces_of h2
    exact ⟨p :: r, fun q hq => (List.mem_cons.mp hq).elim (fun z => z ▸ hp) (hr q), rfl⟩
theorem row_of {d : D} (h : rowB d = true) : ∃ r : List Pc, Row r ∧ r ≠ [] ∧ d = rowT r := by
  unfold rowB at h
  split at h
  · rename_i ds
    obtain ⟨h1, h2⟩ := Bool.and_eq_true_iff.mp h
    obtain ⟨h3, h4⟩ := Bool.and_eq_true_iff.mp h1
    obtain ⟨r, hr, rfl⟩ := pieces_of h2
    have h3 := of_decide_eq_true h3
    have h4 := of_decide_eq_true h4
    rw [List.length_map] at h3 h4
    refine ⟨r, ⟨hr, h4⟩, ?_, rfl⟩
    rintro rfl
    simp at h3
  · cases h
theorem rowB_not {d : D} (h : ∀ ds, d ≠ .tup ds) : rowB d = false := by
  cases d <;> first | rfl | exact absurd rfl (h _)
theorem bls_map (f : D → Bool) : ∀ ds : List D, bls (ds.map fun d => .bl (f d)) = some (ds.map f)
  | [] => rfl
  | d :: ds => by
    rw [List.map_cons, List.map_cons]
    unfold bls
    rw [bls_map f ds]
    rfl
theorem all_map (f : D → Bool) (ds : List D) : dAll (.lst (ds.map fun d => .bl (f d))) = M.pure (.bl (ds.all f)) := by
  unfold dAll
  simp only [bls_map]
  congr 2
  rw [List.all_map]
  rfl
theorem any_map (f : D → Bool) (ds : List D) : dAny (.lst (ds.map fun d => .bl (f d))) = M.pure (.bl (ds.any f)) := by
  unfold dAny
  simp only [bls_map]
  congr 2
  rw [List.any_map]
  rfl
theorem go_map {f : D → D} {t : TgP} {fe : List SV → M D} {tt : List SV → M Bool} {sdw : List SV} {S : List Ob} {P : List D → List Ob → Prop} (ds : List D) (step : ∀ x ∈ ds, ∃ sd1, t x sdw = some sd1 ∧ tt sd1 = M.pure true ∧ fe sd1 = M.pure (f x)) (l : ds.length ≤ lim) (h : P (ds.map f) S) : Wp (compS t tt fe sdw ds []) S P := by
  have e := go_filter (α := D) (f := id) (g := f) (p := fun _ => true) (t := t) (tt := tt) (fe := fe) (sdw := sdw) (S := S) (P := P) ds (fun x hx => by
    obtain ⟨sd1, a, b, c⟩ := step x hx
    exact ⟨sd1, a, b, fun _ => c⟩) l (by rw [List.filter_eq_self.mpr fun _ _ => rfl]; exact h)
  rw [List.map_id] at e
  exact e
theorem told_p {d : D} (h : Pl d) : (rowB d = false ∧ sem_pattern_told [d] = M.pure .non) ∨ (∃ r : List Pc, Row r ∧ r ≠ [] ∧ d = rowT r ∧ rowB d = true ∧ sem_pattern_told [d] = M.pure (patD r)) := by
  rcases h.tup? with ⟨ds, rfl, l, hp⟩ | ⟨h1, h2⟩
  · rcases hr : rowB (.tup ds) with _ | _
    · refine .inl ⟨rfl, pure_wp fun S => ?_⟩
      (unfold sem_pattern_told; refine Ev.go_fn rfl ?_; unfold pk_pattern_told; simp only [Ev.slots, List.map_cons, List.map_nil, List.length_cons, List.length_nil, List.cons_append, List.nil_append, List.replicate, Nat.reduceSub, Nat.reduceAdd])
      (repeat regstrif_gather)
      (refine go_val (isa_t rfl) ?_; simp only [tyB]; (repeat regstrif_gather))
      refine go_val (chain_len ds _) ?_
      cases hl : decide (1 ≤ ds.length) && decide (ds.length ≤ 8) with
      | false =>
        (repeat regstrif_gather)
        exact ⟨rfl, rfl⟩
      | true =>
        (repeat regstrif_gather)
        refine go_map (f := fun d => .bl (pieceB d)) ds (fun x hx => ⟨_, rfl, rfl, ?_⟩) (by unfold lim; omega) ?_
        · exact is_piece_p (hp x hx)
        (repeat regstrif_gather)
        refine go_val (all_map pieceB ds) ?_
        have ha : ds.all pieceB = false := by
          unfold rowB at hr
          simp only [hl, Bool.true_and] at hr
          exact hr
        rw [ha]
        (repeat regstrif_gather)
        exact ⟨rfl, rfl⟩
    · obtain ⟨r, hR, ne, e⟩ := row_of hr
      refine .inr ⟨r, hR, ne, e, rfl, pure_wp fun S => ?_⟩
      obtain ⟨hl, ha⟩ := Bool.and_eq_true_iff.mp (show (decide (1 ≤ ds.length) && decide (ds.length ≤ 8) && ds.all pieceB) = true from hr)
      (unfold sem_pattern_told; refine Ev.go_fn rfl ?_; unfold pk_pattern_told; simp only [Ev.slots, List.map_cons, List.map_nil, List.length_cons, List.length_nil, List.cons_append, List.nil_append, List.replicate, Nat.reduceSub, Nat.reduceAdd])
      (repeat regstrif_gather)
      (refine go_val (isa_t rfl) ?_; simp only [tyB]; (repeat regstrif_gather))
      refine go_val (chain_len ds _) ?_
      rw [hl]
      (repeat regstrif_gather)
      refine go_map (f := fun d => .bl (pieceB d)) ds (fun x hx => ⟨_, rfl, rfl, ?_⟩) (by unfold lim; omega) ?_
      · exact is_piece_p (hp x hx)
      (repeat regstrif_gather)
      refine go_val (all_map pieceB ds) ?_
      rw [ha]
      (repeat regstrif_gather)
      rw [e]
      exact go_val (pattern_of_ok r hR.1 hR.2) ⟨rfl, rfl⟩
  · refine .inl ⟨rowB_not h2, pure_wp fun S => ?_⟩
    (unfold sem_pattern_told; refine Ev.go_fn rfl ?_; unfold pk_pattern_told; simp only [Ev.slots, List.map_cons, List.map_nil, List.length_cons, List.length_nil, List.cons_append, List.nil_append, List.replicate, Nat.reduceSub, Nat.reduceAdd])
    (repeat regstrif_gather)
    refine go_val (isa_p h _) ?_
    rw [h1]
    (repeat regstrif_gather)
    exact ⟨rfl, rfl⟩
def numB : D → Bool
  | .int i => decide (0 ≤ i)
  | .tup [.int a, .int b] => (decide (0 ≤ a) && decide (1 ≤ b)) || (decide (a = 1) && decide (b = 0))
  | _ => false
def numV : D → Int × Int
  | .int i => (i, 1)
  | .tup [.int a, .int b] => (a, b)
  | _ => (0, 1)
def resB : D → Bool
  | .int i => decide (0 ≤ i) && decide (i ≤ 1000000000000)
  | .tup [.int a, .int b] => ((decide (0 ≤ a) && decide (1 ≤ b)) || (decide (a = 1) && decide (b = 0))) && (decide (a ≤ 1000000000000) && decide (b ≤ 1000000000000))
  | _ => false
inductive Sh : D → Prop
  | int (i : Int) (h : Bd 4500 i) : Sh (.int i)
  | two (a b : Int) (ha : Bd 4500 a) (hb : Bd 4500 b) : Sh (.tup [.int a, .int b])
theorem Pl.sh {d : D} (h : Pl d) : Sh d ∨ (numB d = false ∧ resB d = false ∧ ((isI d = false ∧ ∀ ds, d ≠ .tup ds) ∨ ∃ ds, d = .tup ds ∧ (∀ x ∈ ds, Pl x) ∧ (ds.length ≠ 2 ∨ ∃ a b, ds = [a, b] ∧ (isI a && isI b) = false))) := by
  rcases h.tup? with ⟨ds, rfl, _, hp⟩ | ⟨h1, h2⟩
  · rcases ds with _ | ⟨a, _ | ⟨b, _ | ⟨c, l⟩⟩⟩
    · exact .inr ⟨rfl, rfl, .inr ⟨_, rfl, hp, .inl (by decide)⟩⟩
    · exact .inr ⟨by cases a <;> rfl, by cases a <;> rfl, .inr ⟨_, rfl, hp, .inl (by simp)⟩⟩
    · have ha := hp a (by simp)
      have hb := hp b (by simp)
      cases hi : isI a && isI b with
      | true =>
        obtain ⟨h1, h2⟩ := Bool.and_eq_true_iff.mp hi
        obtain ⟨i, rfl⟩ := isI_int h1
        obtain ⟨j, rfl⟩ := isI_int h2
        cases ha with
        | int _ ba => cases hb with
          | int _ bb => exact .inl (.two i j ba bb)
      | false =>
        refine .inr ⟨?_, ?_, .inr ⟨_, rfl, hp, .inr ⟨a, b, rfl, hi⟩⟩⟩
        · cases a <;> cases b <;> first | rfl | cases hi
        · cases a <;> cases b <;> first | rfl | cases hi
    · exact .inr ⟨by cases a <;> cases b <;> rfl, by cases a <;> cases b <;> rfl, .inr ⟨_, rfl, hp, .inl (by simp)⟩⟩
  · cases hi : isI d with
    | true =>
      obtain ⟨i, rfl⟩ := isI_int hi
      cases h with
      | int _ b => exact .inl (.int i b)
    | false =>
      refine .inr ⟨?_, ?_, .inl ⟨rfl, h2⟩⟩
      · cases d <;> first | exact absurd rfl (h2 _) | rfl | cases hi
      · cases d <;> first | exact absurd rfl (h2 _) | rfl | cases hi
def fracB : D → Bool
  | .int i => decide (0 ≤ i)
  | .tup [.int a, .int b] => decide (0 ≤ a) && decide (1 ≤ b)
  | _ => false
inductive Odd : D → Prop
  | one (d : D) (h : Pl d) (hi : isI d = false) (ht : tyB d .tuple = false) (hu : ∀ ds, d ≠ .tup ds) : Odd d
  | len (ds : List D) (h : ds.length ≠ 2) (hp : ∀ x ∈ ds, Pl x) : Odd (.tup ds)
  | fst (a b : D) (ha : Pl a) (hb : Pl b) (h : isI a = false) : Odd (.tup [a, b])
  | snd (i : Int) (b : D) (hb : Pl b) (h : isI b = false) : Odd (.tup [.int i, b])
theorem Pl.sh2 {d : D} (h : Pl d) : Sh d ∨ (Odd d ∧ fracB d = false ∧ numB d = false ∧ resB d = false) := by
  rcases h.sh with hs | ⟨n1, n2, ⟨h1, h2⟩ | ⟨ds, rfl, hp, hl | ⟨a, b, rfl, h1⟩⟩⟩
  · exact .inl hs
  · refine .inr ⟨.one d h h1 ?_ h2, ?_, n1, n2⟩
    · rcases h.tup? with ⟨ds, rfl, _⟩ | ⟨z, _⟩
      · exact absurd rfl (h2 _)
      · exact z
    · cases d <;> first | exact absurd rfl (h2 _) | rfl | cases h1
  · refine .inr ⟨.len ds hl hp, ?_, n1, n2⟩
    rcases ds with _ | ⟨a, _ | ⟨b, _ | ⟨c, l⟩⟩⟩
    · rfl
    · cases a <;> rfl
    · exact absurd rfl hl
    · cases a <;> cases b <;> rfl
  · have ha := hp a (by simp)
    have hb := hp b (by simp)
    cases hi : isI a with
    | false =>
      refine .inr ⟨.fst a b ha hb hi, ?_, n1, n2⟩
      cases a <;> first | rfl | cases hi
    | true =>
      obtain ⟨i, rfl⟩ := isI_int hi
      have h2 : isI b = false := by simpa [isI] using h1
      refine .inr ⟨.snd i b hb h2, ?_, n1, n2⟩
      cases b <;> first | rfl | cases h2
theorem is_fraction_p {d : D} (h : Pl d) : sem_is_fraction [d] = M.pure (.bl (fracB d)) := by
  refine pure_wp fun S => ?_
  rcases h.sh2 with hs | ⟨ho, hf, _, _⟩
  · cases hs with
    | int i b =>
      (unfold sem_is_fraction; refine Ev.go_fn rfl ?_; unfold pk_is_fraction; simp only [Ev.slots, List.map_cons, List.map_nil, List.length_cons, List.length_nil, List.cons_append, List.nil_append, List.replicate, Nat.reduceSub, Nat.reduceAdd])
      (repeat regstrif_gather)
      (refine go_val (isa_t rfl) ?_; simp only [tyB]; (repeat regstrif_gather))
      refine go_val (is_integer_ok i) ?_
      (repeat regstrif_gather)
      exact ⟨rfl, rfl⟩
    | two a b ba bb =>
      (unfold sem_is_fraction; refine Ev.go_fn rfl ?_; unfold pk_is_fraction; simp only [Ev.slots, List.map_cons, List.map_nil, List.length_cons, List.length_nil, List.cons_append, List.nil_append, List.replicate, Nat.reduceSub, Nat.reduceAdd])
      (repeat regstrif_gather)
      (refine go_val (isa_t rfl) ?_; simp only [tyB]; (repeat regstrif_gather))
      refine go_val (is_integer_ok a) ?_
      (repeat regstrif_gather)
      refine go_val (is_integer_ok b) ?_
      (repeat regstrif_gather)
      refine ite_d (fun z => ?_) (fun z => ?_)
      · (repeat regstrif_gather)
        refine ⟨?_, rfl⟩
        show D.bl _ = D.bl (decide (0 ≤ a) && decide (1 ≤ b))
        rw [decide_eq_true z, Bool.true_and]
      · have z2 : fracB (.tup [.int a, .int b]) = false := by show (decide (0 ≤ a) && decide (1 ≤ b)) = false; rw [decide_eq_false z]; rfl
        rw [z2]
        (first | exact ⟨rfl, rfl⟩ | exact go_pure ⟨rfl, rfl⟩)
  · rw [hf]
    cases ho with
    | one _ hd hi ht hu =>
      have e := isint_p h
      rw [hi] at e
      (unfold sem_is_fraction; refine Ev.go_fn rfl ?_; unfold pk_is_fraction; simp only [Ev.slots, List.map_cons, List.map_nil, List.length_cons, List.length_nil, List.cons_append, List.nil_append, List.replicate, Nat.reduceSub, Nat.reduceAdd])
      (repeat regstrif_gather)
      refine go_val (isa_p h _) ?_
      rw [ht]
      (repeat regstrif_gather)
      refine go_val e ?_
      (repeat regstrif_gather)
      (first | exact ⟨rfl, rfl⟩ | exact go_pure ⟨rfl, rfl⟩)
    | len ds hl hp =>
      (unfold sem_is_fraction; refine Ev.go_fn rfl ?_; unfold pk_is_fraction; simp only [Ev.slots, List.map_cons, List.map_nil, List.length_cons, List.length_nil, List.cons_append, List.nil_append, List.replicate, Nat.reduceSub, Nat.reduceAdd])
      (repeat regstrif_gather)
      (refine go_val (isa_t rfl) ?_; simp only [tyB]; (repeat regstrif_gather))
      (first | exact ⟨rfl, rfl⟩ | exact go_pure ⟨rfl, rfl⟩)
    | fst a b ha hb hi =>
      have e := isint_p ha
      rw [hi] at e
      (unfold sem_is_fraction; refine Ev.go_fn rfl ?_; unfold pk_is_fraction; simp only [Ev.slots, List.map_cons, List.map_nil, List.length_cons, List.length_nil, List.cons_append, List.nil_append, List.replicate, Nat.reduceSub, Nat.reduceAdd])
      (repeat regstrif_gather)
      (refine go_val (isa_t rfl) ?_; simp only [tyB]; (repeat regstrif_gather))
      refine go_val e ?_
      (repeat regstrif_gather)
      (first | exact ⟨rfl, rfl⟩ | exact go_pure ⟨rfl, rfl⟩)
    | snd i b hb hi =>
      have e := isint_p hb
      rw [hi] at e
      (unfold sem_is_fraction; refine Ev.go_fn rfl ?_; unfold pk_is_fraction; simp only [Ev.slots, List.map_cons, List.map_nil, List.length_cons, List.length_nil, List.cons_append, List.nil_append, List.replicate, Nat.reduceSub, Nat.reduceAdd])
      (repeat regstrif_gather)
      (refine go_val (isa_t rfl) ?_; simp only [tyB]; (repeat regstrif_gather))
      refine go_val (is_integer_ok i) ?_
      (repeat regstrif_gather)
      refine go_val e ?_
      (repeat regstrif_gather)
      (first | exact ⟨rfl, rfl⟩ | exact go_pure ⟨rfl, rfl⟩)
theorem eq_opn (a b : Int) : dEq false (.tup [.int a, .int b]) (.tup [.int 1, .int 0]) = M.pure (.bl (decide (a = 1) && decide (b = 0))) := by
  have p1 : Pln 1 (.tup [.int a, .int b]) (.tuple [.int a, .int b]) := pln_tup (pll_cons pln_int (pll_cons pln_int pll_nil))
  have p2 : Pln 1 (.tup [.int 1, .int 0]) (.tuple [.int 1, .int 0]) := pln_tup (pll_cons pln_int (pll_cons pln_int pll_nil))
  have e := eq_pln (P := a = 1 ∧ b = 0) false p1 p2 (by decide) (by decide) (by simp) rfl
  rw [e]
  simp [Bool.decide_and]
theorem is_number_p {d : D} (h : Pl d) : sem_is_number [d] = M.pure (.bl (numB d)) := by
  refine pure_wp fun S => ?_
  have f := is_fraction_p h
  rcases h.sh2 with hs | ⟨ho, hf, hn, _⟩
  · cases hf : fracB d with
    | true =>
      rw [hf] at f
      have e : numB d = true := by
        cases hs with
        | int i b => exact hf
        | two a b ba bb =>
          show ((decide (0 ≤ a) && decide (1 ≤ b)) || _) = true
          rw [show (decide (0 ≤ a) && decide (1 ≤ b)) = true from hf, Bool.true_or]
      rw [e]
      (unfold sem_is_number; refine Ev.go_fn rfl ?_; unfold pk_is_number; simp only [Ev.slots, List.map_cons, List.map_nil, List.length_cons, List.length_nil, List.cons_append, List.nil_append, List.replicate, Nat.reduceSub, Nat.reduceAdd])
      (repeat regstrif_gather)
      refine go_val f ?_
      (repeat regstrif_gather)
      (first | exact ⟨rfl, rfl⟩ | exact go_pure ⟨rfl, rfl⟩)
    | false =>
      rw [hf] at f
      cases hs with
      | int i b =>
        have e : numB (.int i) = false := hf
        rw [e]
        (unfold sem_is_number; refine Ev.go_fn rfl ?_; unfold pk_is_number; simp only [Ev.slots, List.map_cons, List.map_nil, List.length_cons, List.length_nil, List.cons_append, List.nil_append, List.replicate, Nat.reduceSub, Nat.reduceAdd])
        (repeat regstrif_gather)
        refine go_val f ?_
        (repeat regstrif_gather)
        (refine go_val (isa_t rfl) ?_; simp only [tyB]; (repeat regstrif_gather))
        (first | exact ⟨rfl, rfl⟩ | exact go_pure ⟨rfl, rfl⟩)
      | two a b ba bb =>
        have e : numB (.tup [.int a, .int b]) = (decide (a = 1) && decide (b = 0)) := by
          show ((decide (0 ≤ a) && decide (1 ≤ b)) || _) = _
          rw [show (decide (0 ≤ a) && decide (1 ≤ b)) = false from hf, Bool.false_or]
        rw [e]
        (unfold sem_is_number; refine Ev.go_fn rfl ?_; unfold pk_is_number; simp only [Ev.slots, List.map_cons, List.map_nil, List.length_cons, List.length_nil, List.cons_append, List.nil_append, List.replicate, Nat.reduceSub, Nat.reduceAdd])
        (repeat regstrif_gather)
        refine go_val f ?_
        (repeat regstrif_gather)
        (refine go_val (isa_t rfl) ?_; simp only [tyB]; (repeat regstrif_gather))
        refine go_val (is_integer_ok a) ?_
        (repeat regstrif_gather)
        refine go_val (is_integer_ok b) ?_
        (repeat regstrif_gather)
        refine go_val (eq_opn a b) ?_
        (first | exact ⟨rfl, rfl⟩ | exact go_pure ⟨rfl, rfl⟩)
  · rw [hn]
    rw [hf] at f
    cases ho with
    | one _ hd hi ht hu =>
      (unfold sem_is_number; refine Ev.go_fn rfl ?_; unfold pk_is_number; simp only [Ev.slots, List.map_cons, List.map_nil, List.length_cons, List.length_nil, List.cons_append, List.nil_append, List.replicate, Nat.reduceSub, Nat.reduceAdd])
      (repeat regstrif_gather)
      refine go_val f ?_
      (repeat regstrif_gather)
      refine go_val (isa_p h _) ?_
      rw [ht]
      (repeat regstrif_gather)
      (first | exact ⟨rfl, rfl⟩ | exact go_pure ⟨rfl, rfl⟩)
    | len ds hl hp =>
      (unfold sem_is_number; refine Ev.go_fn rfl ?_; unfold pk_is_number; simp only [Ev.slots, List.map_cons, List.map_nil, List.length_cons, List.length_nil, List.cons_append, List.nil_append, List.replicate, Nat.reduceSub, Nat.reduceAdd])
      (repeat regstrif_gather)
      refine go_val f ?_
      (repeat regstrif_gather)
      (refine go_val (isa_t rfl) ?_; simp only [tyB]; (repeat regstrif_gather))
      (first | exact ⟨rfl, rfl⟩ | exact go_pure ⟨rfl, rfl⟩)
    | fst a b ha hb hi =>
      have e := isint_p ha
      rw [hi] at e
      (unfold sem_is_number; refine Ev.go_fn rfl ?_; unfold pk_is_number; simp only [Ev.slots, List.map_cons, List.map_nil, List.length_cons, List.length_nil, List.cons_append, List.nil_append, List.replicate, Nat.reduceSub, Nat.reduceAdd])
      (repeat regstrif_gather)
      refine go_val f ?_
      (repeat regstrif_gather)
      (refine go_val (isa_t rfl) ?_; simp only [tyB]; (repeat regstrif_gather))
      refine go_val e ?_
      (repeat regstrif_gather)
      (first | exact ⟨rfl, rfl⟩ | exact go_pure ⟨rfl, rfl⟩)
    | snd i b hb hi =>
      have e := isint_p hb
      rw [hi] at e
      (unfold sem_is_number; refine Ev.go_fn rfl ?_; unfold pk_is_number; simp only [Ev.slots, List.map_cons, List.map_nil, List.length_cons, List.length_nil, List.cons_append, List.nil_append, List.replicate, Nat.reduceSub, Nat.reduceAdd])
      (repeat regstrif_gather)
      refine go_val f ?_
      (repeat regstrif_gather)
      (refine go_val (isa_t rfl) ?_; simp only [tyB]; (repeat regstrif_gather))
      refine go_val (is_integer_ok i) ?_
      (repeat regstrif_gather)
      refine go_val e ?_
      (repeat regstrif_gather)
      (first | exact ⟨rfl, rfl⟩ | exact go_pure ⟨rfl, rfl⟩)
theorem is_resistance_p {d : D} (h : Pl d) : sem_is_resistance [d] = M.pure (.bl (resB d)) := by
  refine pure_wp fun S => ?_
  have f := is_number_p h
  rcases h.sh2 with hs | ⟨ho, hf, hn, hr⟩
  · cases hf : numB d with
    | false =>
      rw [hf] at f
      have e : resB d = false := by
        cases hs with
        | int i b =>
          show (decide (0 ≤ i) && _) = false
          rw [show decide (0 ≤ i) = false from hf, Bool.false_and]
        | two a b ba bb =>
          show (((decide (0 ≤ a) && decide (1 ≤ b)) || (decide (a = 1) && decide (b = 0))) && _) = false
          rw [show ((decide (0 ≤ a) && decide (1 ≤ b)) || (decide (a = 1) && decide (b = 0))) = false from hf, Bool.false_and]
      rw [e]
      (unfold sem_is_resistance; refine Ev.go_fn rfl ?_; unfold pk_is_resistance; simp only [Ev.slots, List.map_cons, List.map_nil, List.length_cons, List.length_nil, List.cons_append, List.nil_append, List.replicate, Nat.reduceSub, Nat.reduceAdd])
      (repeat regstrif_gather)
      refine go_val f ?_
      (repeat regstrif_gather)
      (first | exact ⟨rfl, rfl⟩ | exact go_pure ⟨rfl, rfl⟩)
    | true =>
      rw [hf] at f
      cases hs with
      | int i b =>
        have e : resB (.int i) = decide (i ≤ 1000000000000) := by
          show (decide (0 ≤ i) && _) = _
          rw [show decide (0 ≤ i) = true from hf, Bool.true_and]
        rw [e]
        (unfold sem_is_resistance; refine Ev.go_fn rfl ?_; unfold pk_is_resistance; simp only [Ev.slots, List.map_cons, List.map_nil, List.length_cons, List.length_nil, List.cons_append, List.nil_append, List.replicate, Nat.reduceSub, Nat.reduceAdd])
        (repeat regstrif_gather)
        refine go_val f ?_
        (repeat regstrif_gather)
        (refine go_val (isa_t rfl) ?_; simp only [tyB]; (repeat regstrif_gather))
        (first | exact ⟨rfl, rfl⟩ | exact go_pure ⟨rfl, rfl⟩)
      | two a b ba bb =>
        have e : resB (.tup [.int a, .int b]) = (decide (a ≤ 1000000000000) && decide (b ≤ 1000000000000)) := by
          show (((decide (0 ≤ a) && decide (1 ≤ b)) || (decide (a = 1) && decide (b = 0))) && _) = _
          rw [show ((decide (0 ≤ a) && decide (1 ≤ b)) || (decide (a = 1) && decide (b = 0))) = true from hf, Bool.true_and]
        rw [e]
        (unfold sem_is_resistance; refine Ev.go_fn rfl ?_; unfold pk_is_resistance; simp only [Ev.slots, List.map_cons, List.map_nil, List.length_cons, List.length_nil, List.cons_append, List.nil_append, List.replicate, Nat.reduceSub, Nat.reduceAdd])
        (repeat regstrif_gather)
        refine go_val f ?_
        (repeat regstrif_gather)
        (refine go_val (isa_t rfl) ?_; simp only [tyB]; (repeat regstrif_gather))
        refine ite_d (fun z => ?_) (fun z => ?_)
        · (repeat regstrif_gather)
          exact ⟨by rw [decide_eq_true z, Bool.true_and], rfl⟩
        · rw [decide_eq_false z, Bool.false_and]
          (first | exact ⟨rfl, rfl⟩ | exact go_pure ⟨rfl, rfl⟩)
  · rw [hr]
    rw [hn] at f
    (unfold sem_is_resistance; refine Ev.go_fn rfl ?_; unfold pk_is_resistance; simp only [Ev.slots, List.map_cons, List.map_nil, List.length_cons, List.length_nil, List.cons_append, List.nil_append, List.replicate, Nat.reduceSub, Nat.reduceAdd])
    (repeat regstrif_gather)
    refine go_val f ?_
    (repeat regstrif_gather)
    (first | exact ⟨rfl, rfl⟩ | exact go_pure ⟨rfl, rfl⟩)
theorem num_sm {d : D} (h : Sh d) (hn : numB d = true) : Sm 4500 (numV d).1 ∧ Sm 4500 (numV d).2 ∧ 0 < (numV d).1 + (numV d).2 := by
  cases h with
  | int i b =>
    have i0 := of_decide_eq_true (show decide (0 ≤ i) = true from hn)
    have := b.nat
    exact ⟨⟨i0, by show i < 2 ^ 4500; omega⟩, ⟨by show (0 : Int) ≤ 1; decide, by show (1 : Int) < 2 ^ 4500; decide +kernel⟩, by show 0 < i + 1; omega⟩
  | two a b ba bb =>
    have h1 := ba.nat
    have h2 := bb.nat
    have key : 0 ≤ a ∧ 0 ≤ b ∧ 0 < a + b := by
      rcases Bool.or_eq_true_iff.mp (show ((decide (0 ≤ a) && decide (1 ≤ b)) || (decide (a = 1) && decide (b = 0))) = true from hn) with z | z
      · obtain ⟨z1, z2⟩ := Bool.and_eq_true_iff.mp z
        have z1 := of_decide_eq_true z1
        have z2 := of_decide_eq_true z2
        omega
      · obtain ⟨z1, z2⟩ := Bool.and_eq_true_iff.mp z
        have z1 := of_decide_eq_true z1
        have z2 := of_decide_eq_true z2
        omega
    obtain ⟨a0, b0, p⟩ := key
    exact ⟨⟨a0, by show a < 2 ^ 4500; omega⟩, ⟨b0, by show b < 2 ^ 4500; omega⟩, p⟩
theorem lowP_one (i : Int) : lowP (i, 1) = (i, 1) := by
  unfold lowP lowT lowB
  simp
theorem Pl.shn {d : D} (h : Pl d) (hn : numB d = true) : Sh d := by
  rcases h.sh2 with hs | ⟨_, _, z, _⟩
  · exact hs
  · rw [z] at hn
    cases hn
theorem pair_of_p {d : D} (h : Pl d) (hn : numB d = true) : sem_pair_of [d] = M.pure (pairD (lowP (numV d))) := by
  have hs := h.shn hn
  obtain ⟨s1, s2, p⟩ := num_sm hs hn
  cases hs with
  | int i b =>
    rw [pair_of_int]
    show _ = M.pure (pairD (lowP (i, 1)))
    rw [lowP_one]
    rfl
  | two a b ba bb =>
    have e := lowest_big (k := 4500) a b s1 s2 p (by decide)
    refine pure_wp fun S => ?_
    (unfold sem_pair_of; refine Ev.go_fn rfl ?_; unfold pk_pair_of; simp only [Ev.slots, List.map_cons, List.map_nil, List.length_cons, List.length_nil, List.cons_append, List.nil_append, List.replicate, Nat.reduceSub, Nat.reduceAdd])
    (repeat regstrif_gather)
    (refine go_val (isa_t rfl) ?_; simp only [tyB]; (repeat regstrif_gather))
    exact go_val e ⟨rfl, rfl⟩
theorem frac_p {d : D} (h : Pl d) (hn : numB d = true) : sem__law_frac [d] = M.pure (pairD (lowP (numV d))) := by
  have hs := h.shn hn
  obtain ⟨s1, s2, p⟩ := num_sm hs hn
  cases hs with
  | int i b =>
    show _ = M.pure (pairD (lowP (i, 1)))
    rw [lowP_one]
    refine pure_wp fun S => ?_
    (unfold sem__law_frac; refine Ev.go_fn rfl ?_; unfold pk__law_frac; simp only [Ev.slots, List.map_cons, List.map_nil, List.length_cons, List.length_nil, List.cons_append, List.nil_append, List.replicate, Nat.reduceSub, Nat.reduceAdd])
    (repeat regstrif_gather)
    (refine go_val (isa_t rfl) ?_; simp only [tyB]; (repeat regstrif_gather))
    exact ⟨rfl, rfl⟩
  | two a b ba bb =>
    have e := law_lowest_ok (k := 4500) a b s1 s2 p (by decide)
    refine pure_wp fun S => ?_
    (unfold sem__law_frac; refine Ev.go_fn rfl ?_; unfold pk__law_frac; simp only [Ev.slots, List.map_cons, List.map_nil, List.length_cons, List.length_nil, List.cons_append, List.nil_append, List.replicate, Nat.reduceSub, Nat.reduceAdd])
    (repeat regstrif_gather)
    (refine go_val (isa_t rfl) ?_; simp only [tyB]; (repeat regstrif_gather))
    exact go_val e ⟨rfl, rfl⟩
theorem chain_of {fa fb fc : List SV → M D} {sd : List SV} {x y z : Int} (ha : fa sd = M.pure (.int x)) (hb : fb sd = M.pure (.int y)) (hc : fc sd = M.pure (.int z)) : chainD (dCmpI fun i j => decide (i ≤ j)) (dCmpI fun i j => decide (i ≤ j)) fa fb fc sd = M.pure (.bl (decide (x ≤ y) && decide (y ≤ z))) := by
  unfold chainD
  rw [ha, hb, hc]
  show (if decide (x ≤ y) = true then M.pure (D.bl (decide (y ≤ z))) else M.pure (.bl false)) = _
  cases decide (x ≤ y) <;> rfl
def nintB (d : D) : Bool := !tyB d .int || tyB d .bool
theorem nint_isI {d : D} (h : Pl d) : nintB d = !isI d := by
  cases h <;> rfl
theorem mem2 {a b z : D} (ha : Pl a) (hb : Pl b) (h : z ∈ [a, b]) : Pl z := by
  rcases List.mem_cons.mp h with rfl | h
  · exact ha
  · rcases List.mem_cons.mp h with rfl | h
    · exact hb
    · exact absurd h List.not_mem_nil
theorem any_two {a b : D} (ha : Pl a) (hb : Pl b) : [a, b].any nintB = !(isI a && isI b) := by
  rw [List.any_cons, List.any_cons, List.any_nil, nint_isI ha, nint_isI hb, Bool.or_false, Bool.not_and]
theorem res_eq (a b : Int) : resB (.tup [.int a, .int b]) = (((decide (0 ≤ a) && decide (a ≤ 1000000000000)) && (decide (1 ≤ b) && decide (b ≤ 1000000000000))) || (decide (a = 1) && decide (b = 0))) := by
  show (((decide (0 ≤ a) && decide (1 ≤ b)) || (decide (a = 1) && decide (b = 0))) && (decide (a ≤ 1000000000000) && decide (b ≤ 1000000000000))) = _
  rw [Bool.eq_iff_iff]
  simp only [Bool.and_eq_true, Bool.or_eq_true, decide_eq_true_eq]
  omega
theorem res_int (i : Int) : resB (.int i) = (((decide (0 ≤ i) && decide (i ≤ 1000000000000)) && (decide ((1 : Int) ≤ 1) && decide ((1 : Int) ≤ 1000000000000))) || (decide (i = 1) && decide ((1 : Int) = 0))) := by
  show (decide (0 ≤ i) && decide (i ≤ 1000000000000)) = _
  rw [Bool.eq_iff_iff]
  simp only [Bool.and_eq_true, Bool.or_eq_true, decide_eq_true_eq]
  omega
theorem num_int (i : Int) : numB (.int i) = ((decide (0 ≤ i) && decide ((0 : Int) < 1)) || (decide (i = 1) && decide ((1 : Int) = 0))) := by
  show decide (0 ≤ i) = _
  rw [Bool.eq_iff_iff]
  simp only [Bool.and_eq_true, Bool.or_eq_true, decide_eq_true_eq]
  omega
theorem num_two (a b : Int) : numB (.tup [.int a, .int b]) = ((decide (0 ≤ a) && decide (0 < b)) || (decide (a = 1) && decide (b = 0))) := by
  show ((decide (0 ≤ a) && decide (1 ≤ b)) || (decide (a = 1) && decide (b = 0))) = _
  rw [Bool.eq_iff_iff]
  simp only [Bool.and_eq_true, Bool.or_eq_true, decide_eq_true_eq]
  omega
theorem law_is_load_p {d : D} (h : Pl d) : sem__law_is_load [d] = M.pure (.bl (resB d)) := by
  refine pure_wp fun S => ?_
  have p12 : dPow (.int 10) (.int 12) = M.pure (.int 1000000000000) := funext fun S => by kernel_rfl
  have one : Pl (.int 1) := .int 1 (.mk (by decide +kernel))
  rcases h.sh2 with hs | ⟨ho, _, hn, hr⟩
  · cases hs with
    | int i b =>
      (unfold sem__law_is_load; refine Ev.go_fn rfl ?_; unfold pk__law_is_load; simp only [Ev.slots, List.map_cons, List.map_nil, List.length_cons, List.length_nil, List.cons_append, List.nil_append, List.replicate, Nat.reduceSub, Nat.reduceAdd])
      (repeat regstrif_gather)
      (refine go_val (isa_t rfl) ?_; simp only [tyB]; (repeat regstrif_gather))
      refine go_map (f := fun d => .bl (nintB d)) [D.int i, D.int 1] (fun z hz => ⟨_, rfl, rfl, ?_⟩) (by unfold lim; simp) ?_
      · refine pure_wp fun S => ?_
        have hz2 := mem2 h one hz
        unfold nintB
        (repeat regstrif_gather)
        refine go_val (isa_p hz2 _) ?_
        cases hq : tyB z .int with
        | false =>
          (repeat regstrif_gather)
          (first | exact ⟨rfl, rfl⟩ | exact go_pure ⟨rfl, rfl⟩)
        | true =>
          (repeat regstrif_gather)
          refine go_val (isa_p hz2 _) ?_
          (first | exact ⟨rfl, rfl⟩ | exact go_pure ⟨rfl, rfl⟩)
      (repeat regstrif_gather)
      refine go_val (any_map nintB _) ?_
      rw [any_two h one, show (!(isI (.int i) && isI (.int 1))) = false from rfl]
      (repeat regstrif_gather)
      rw [res_int]
      refine go_val (chain_of (x := 0) (y := i) (z := 1000000000000) rfl rfl p12) ?_
      cases hA : decide (0 ≤ i) && decide (i ≤ 1000000000000) with
      | false =>
        (repeat regstrif_gather)
        refine go_val (eq_opn i 1) ?_
        rw [Bool.false_and, Bool.false_or]
        (first | exact ⟨rfl, rfl⟩ | exact go_pure ⟨rfl, rfl⟩)
      | true =>
        (repeat regstrif_gather)
        refine go_val (chain_of (x := 1) (y := 1) (z := 1000000000000) rfl rfl p12) ?_
        rw [show (decide ((1 : Int) ≤ 1) && decide ((1 : Int) ≤ 1000000000000)) = true from rfl]
        (repeat regstrif_gather)
        rw [Bool.and_self, Bool.true_or]
        (first | exact ⟨rfl, rfl⟩ | exact go_pure ⟨rfl, rfl⟩)
    | two a b ba bb =>
      have ha := Pl.int a ba
      have hb := Pl.int b bb
      (unfold sem__law_is_load; refine Ev.go_fn rfl ?_; unfold pk__law_is_load; simp only [Ev.slots, List.map_cons, List.map_nil, List.length_cons, List.length_nil, List.cons_append, List.nil_append, List.replicate, Nat.reduceSub, Nat.reduceAdd])
      (repeat regstrif_gather)
      (refine go_val (isa_t rfl) ?_; simp only [tyB]; (repeat regstrif_gather))
      refine go_map (f := fun d => .bl (nintB d)) [D.int a, D.int b] (fun z hz => ⟨_, rfl, rfl, ?_⟩) (by unfold lim; simp) ?_
      · refine pure_wp fun S => ?_
        have hz2 := mem2 ha hb hz
        unfold nintB
        (repeat regstrif_gather)
        refine go_val (isa_p hz2 _) ?_
        cases hq : tyB z .int with
        | false =>
          (repeat regstrif_gather)
          (first | exact ⟨rfl, rfl⟩ | exact go_pure ⟨rfl, rfl⟩)
        | true =>
          (repeat regstrif_gather)
          refine go_val (isa_p hz2 _) ?_
          (first | exact ⟨rfl, rfl⟩ | exact go_pure ⟨rfl, rfl⟩)
      (repeat regstrif_gather)
      refine go_val (any_map nintB _) ?_
      rw [any_two ha hb, show (!(isI (.int a) && isI (.int b))) = false from rfl]
      (repeat regstrif_gather)
      rw [res_eq]
      refine go_val (chain_of (x := 0) (y := a) (z := 1000000000000) rfl rfl p12) ?_
      cases hA : decide (0 ≤ a) && decide (a ≤ 1000000000000) with
      | false =>
        (repeat regstrif_gather)
        refine go_val (eq_opn a b) ?_
        rw [Bool.false_and, Bool.false_or]
        (first | exact ⟨rfl, rfl⟩ | exact go_pure ⟨rfl, rfl⟩)
      | true =>
        (repeat regstrif_gather)
        refine go_val (chain_of (x := 1) (y := b) (z := 1000000000000) rfl rfl p12) ?_
        cases hB : decide (1 ≤ b) && decide (b ≤ 1000000000000) with
        | false =>
          (repeat regstrif_gather)
          refine go_val (eq_opn a b) ?_
          rw [Bool.and_false, Bool.false_or]
          (first | exact ⟨rfl, rfl⟩ | exact go_pure ⟨rfl, rfl⟩)
        | true =>
          (repeat regstrif_gather)
          rw [Bool.and_self, Bool.true_or]
          (first | exact ⟨rfl, rfl⟩ | exact go_pure ⟨rfl, rfl⟩)
  · rw [hr]
    cases ho with
    | one _ hd hi ht hu =>
      (unfold sem__law_is_load; refine Ev.go_fn rfl ?_; unfold pk__law_is_load; simp only [Ev.slots, List.map_cons, List.map_nil, List.length_cons, List.length_nil, List.cons_append, List.nil_append, List.replicate, Nat.reduceSub, Nat.reduceAdd])
      (repeat regstrif_gather)
      refine go_val (isa_p h _) ?_
      rw [ht]
      (repeat regstrif_gather)
      refine go_map (f := fun d => .bl (nintB d)) [d, D.int 1] (fun z hz => ⟨_, rfl, rfl, ?_⟩) (by unfold lim; simp) ?_
      · refine pure_wp fun S => ?_
        have hz2 := mem2 h one hz
        unfold nintB
        (repeat regstrif_gather)
        refine go_val (isa_p hz2 _) ?_
        cases hq : tyB z .int with
        | false =>
          (repeat regstrif_gather)
          (first | exact ⟨rfl, rfl⟩ | exact go_pure ⟨rfl, rfl⟩)
        | true =>
          (repeat regstrif_gather)
          refine go_val (isa_p hz2 _) ?_
          (first | exact ⟨rfl, rfl⟩ | exact go_pure ⟨rfl, rfl⟩)
      (repeat regstrif_gather)
      refine go_val (any_map nintB _) ?_
      rw [any_two h one, hi, Bool.false_and, Bool.not_false]
      (repeat regstrif_gather)
      (first | exact ⟨rfl, rfl⟩ | exact go_pure ⟨rfl, rfl⟩)
    | len ds hl hp =>
      (unfold sem__law_is_load; refine Ev.go_fn rfl ?_; unfold pk__law_is_load; simp only [Ev.slots, List.map_cons, List.map_nil, List.length_cons, List.length_nil, List.cons_append, List.nil_append, List.replicate, Nat.reduceSub, Nat.reduceAdd])
      (repeat regstrif_gather)
      (refine go_val (isa_t rfl) ?_; simp only [tyB]; (repeat regstrif_gather))
      (first | exact ⟨rfl, rfl⟩ | exact go_pure ⟨rfl, rfl⟩)
    | fst a b ha hb hi =>
      (unfold sem__law_is_load; refine Ev.go_fn rfl ?_; unfold pk__law_is_load; simp only [Ev.slots, List.map_cons, List.map_nil, List.length_cons, List.length_nil, List.cons_append, List.nil_append, List.replicate, Nat.reduceSub, Nat.reduceAdd])
      (repeat regstrif_gather)
      (refine go_val (isa_t rfl) ?_; simp only [tyB]; (repeat regstrif_gather))
      refine go_map (f := fun d => .bl (nintB d)) [a, b] (fun z hz => ⟨_, rfl, rfl, ?_⟩) (by unfold lim; simp) ?_
      · refine pure_wp fun S => ?_
        have hz2 := mem2 ha hb hz
        unfold nintB
        (repeat regstrif_gather)
        refine go_val (isa_p hz2 _) ?_
        cases hq : tyB z .int with
        | false =>
          (repeat regstrif_gather)
          (first | exact ⟨rfl, rfl⟩ | exact go_pure ⟨rfl, rfl⟩)
        | true =>
          (repeat regstrif_gather)
          refine go_val (isa_p hz2 _) ?_
          (first | exact ⟨rfl, rfl⟩ | exact go_pure ⟨rfl, rfl⟩)
      (repeat regstrif_gather)
      refine go_val (any_map nintB _) ?_
      rw [any_two ha hb, hi, Bool.false_and, Bool.not_false]
      (repeat regstrif_gather)
      (first | exact ⟨rfl, rfl⟩ | exact go_pure ⟨rfl, rfl⟩)
    | snd i b hb hi =>
      have ha : Pl (.int i) := by
        cases h with
        | tup _ _ hp => exact hp _ (by simp)
      (unfold sem__law_is_load; refine Ev.go_fn rfl ?_; unfold pk__law_is_load; simp only [Ev.slots, List.map_cons, List.map_nil, List.length_cons, List.length_nil, List.cons_append, List.nil_append, List.replicate, Nat.reduceSub, Nat.reduceAdd])
      (repeat regstrif_gather)
      (refine go_val (isa_t rfl) ?_; simp only [tyB]; (repeat regstrif_gather))
      refine go_map (f := fun d => .bl (nintB d)) [D.int i, b] (fun z hz => ⟨_, rfl, rfl, ?_⟩) (by unfold lim; simp) ?_
      · refine pure_wp fun S => ?_
        have hz2 := mem2 ha hb hz
        unfold nintB
        (repeat regstrif_gather)
        refine go_val (isa_p hz2 _) ?_
        cases hq : tyB z .int with
        | false =>
          (repeat regstrif_gather)
          (first | exact ⟨rfl, rfl⟩ | exact go_pure ⟨rfl, rfl⟩)
        | true =>
          (repeat regstrif_gather)
          refine go_val (isa_p hz2 _) ?_
          (first | exact ⟨rfl, rfl⟩ | exact go_pure ⟨rfl, rfl⟩)
      (repeat regstrif_gather)
      refine go_val (any_map nintB _) ?_
      rw [any_two ha hb, hi, Bool.and_false, Bool.not_false]
      (repeat regstrif_gather)
      (first | exact ⟨rfl, rfl⟩ | exact go_pure ⟨rfl, rfl⟩)
theorem law_is_number_p {d : D} (h : Pl d) : sem__law_is_number [d] = M.pure (.bl (numB d)) := by
  refine pure_wp fun S => ?_
  have p12 : dPow (.int 10) (.int 12) = M.pure (.int 1000000000000) := funext fun S => by kernel_rfl
  have one : Pl (.int 1) := .int 1 (.mk (by decide +kernel))
  rcases h.sh2 with hs | ⟨ho, _, hn, hr⟩
  · cases hs with
    | int i b =>
      (unfold sem__law_is_number; refine Ev.go_fn rfl ?_; unfold pk__law_is_number; simp only [Ev.slots, List.map_cons, List.map_nil, List.length_cons, List.length_nil, List.cons_append, List.nil_append, List.replicate, Nat.reduceSub, Nat.reduceAdd])
      (repeat regstrif_gather)
      (refine go_val (isa_t rfl) ?_; simp only [tyB]; (repeat regstrif_gather))
      refine go_map (f := fun d => .bl (nintB d)) [D.int i, D.int 1] (fun z hz => ⟨_, rfl, rfl, ?_⟩) (by unfold lim; simp) ?_
      · refine pure_wp fun S => ?_
        have hz2 := mem2 h one hz
        unfold nintB
        (repeat regstrif_gather)
        refine go_val (isa_p hz2 _) ?_
        cases hq : tyB z .int with
        | false =>
          (repeat regstrif_gather)
          (first | exact ⟨rfl, rfl⟩ | exact go_pure ⟨rfl, rfl⟩)
        | true =>
          (repeat regstrif_gather)
          refine go_val (isa_p hz2 _) ?_
          (first | exact ⟨rfl, rfl⟩ | exact go_pure ⟨rfl, rfl⟩)
      (repeat regstrif_gather)
      refine go_val (any_map nintB _) ?_
      rw [any_two h one, show (!(isI (.int i) && isI (.int 1))) = false from rfl]
      (repeat regstrif_gather)
      rw [num_int]
      refine ite_d (fun z => ?_) (fun z => ?_)
      · (repeat regstrif_gather)
        exact ⟨by rw [decide_eq_true z]; rfl, rfl⟩
      · (repeat regstrif_gather)
        refine go_val (eq_opn i 1) ?_
        rw [decide_eq_false z, Bool.false_and, Bool.false_or]
        (first | exact ⟨rfl, rfl⟩ | exact go_pure ⟨rfl, rfl⟩)
    | two a b ba bb =>
      have ha := Pl.int a ba
      have hb := Pl.int b bb
      (unfold sem__law_is_number; refine Ev.go_fn rfl ?_; unfold pk__law_is_number; simp only [Ev.slots, List.map_cons, List.map_nil, List.length_cons, List.length_nil, List.cons_append, List.nil_append, List.replicate, Nat.reduceSub, Nat.reduceAdd])
      (repeat regstrif_gather)
      (refine go_val (isa_t rfl) ?_; simp only [tyB]; (repeat regstrif_gather))
      refine go_map (f := fun d => .bl (nintB d)) [D.int a, D.int b] (fun z hz => ⟨_, rfl, rfl, ?_⟩) (by unfold lim; simp) ?_
      · refine pure_wp fun S => ?_
        have hz2 := mem2 ha hb hz
        unfold nintB
        (repeat regstrif_gather)
        refine go_val (isa_p hz2 _) ?_
        cases hq : tyB z .int with
        | false =>
          (repeat regstrif_gather)
          (first | exact ⟨rfl, rfl⟩ | exact go_pure ⟨rfl, rfl⟩)
        | true =>
          (repeat regstrif_gather)
          refine go_val (isa_p hz2 _) ?_
          (first | exact ⟨rfl, rfl⟩ | exact go_pure ⟨rfl, rfl⟩)
      (repeat regstrif_gather)
      refine go_val (any_map nintB _) ?_
      rw [any_two ha hb, show (!(isI (.int a) && isI (.int b))) = false from rfl]
      (repeat regstrif_gather)
      rw [num_two]
      refine ite_d (fun z => ?_) (fun z => ?_)
      · (repeat regstrif_gather)
        cases hB : decide (0 < b) with
        | false =>
          (repeat regstrif_gather)
          refine go_val (eq_opn a b) ?_
          rw [Bool.and_false, Bool.false_or]
          (first | exact ⟨rfl, rfl⟩ | exact go_pure ⟨rfl, rfl⟩)
        | true =>
          (repeat regstrif_gather)
          rw [decide_eq_true z, Bool.and_self, Bool.true_or]
          (first | exact ⟨rfl, rfl⟩ | exact go_pure ⟨rfl, rfl⟩)
      · (repeat regstrif_gather)
        refine go_val (eq_opn a b) ?_
        rw [decide_eq_false z, Bool.false_and, Bool.false_or]
        (first | exact ⟨rfl, rfl⟩ | exact go_pure ⟨rfl, rfl⟩)
  · rw [hn]
    cases ho with
    | one _ hd hi ht hu =>
      (unfold sem__law_is_number; refine Ev.go_fn rfl ?_; unfold pk__law_is_number; simp only [Ev.slots, List.map_cons, List.map_nil, List.length_cons, List.length_nil, List.cons_append, List.nil_append, List.replicate, Nat.reduceSub, Nat.reduceAdd])
      (repeat regstrif_gather)
      refine go_val (isa_p h _) ?_
      rw [ht]
      (repeat regstrif_gather)
      refine go_map (f := fun d => .bl (nintB d)) [d, D.int 1] (fun z hz => ⟨_, rfl, rfl, ?_⟩) (by unfold lim; simp) ?_
      · refine pure_wp fun S => ?_
        have hz2 := mem2 h one hz
        unfold nintB
        (repeat regstrif_gather)
        refine go_val (isa_p hz2 _) ?_
        cases hq : tyB z .int with
        | false =>
          (repeat regstrif_gather)
          (first | exact ⟨rfl, rfl⟩ | exact go_pure ⟨rfl, rfl⟩)
        | true =>
          (repeat regstrif_gather)
          refine go_val (isa_p hz2 _) ?_
          (first | exact ⟨rfl, rfl⟩ | exact go_pure ⟨rfl, rfl⟩)
      (repeat regstrif_gather)
      refine go_val (any_map nintB _) ?_
      rw [any_two h one, hi, Bool.false_and, Bool.not_false]
      (repeat regstrif_gather)
      (first | exact ⟨rfl, rfl⟩ | exact go_pure ⟨rfl, rfl⟩)
    | len ds hl hp =>
      (unfold sem__law_is_number; refine Ev.go_fn rfl ?_; unfold pk__law_is_number; simp only [Ev.slots, List.map_cons, List.map_nil, List.length_cons, List.length_nil, List.cons_append, List.nil_append, List.replicate, Nat.reduceSub, Nat.reduceAdd])
      (repeat regstrif_gather)
      (refine go_val (isa_t rfl) ?_; simp only [tyB]; (repeat regstrif_gather))
      (first | exact ⟨rfl, rfl⟩ | exact go_pure ⟨rfl, rfl⟩)
    | fst a b ha hb hi =>
      (unfold sem__law_is_number; refine Ev.go_fn rfl ?_; unfold pk__law_is_number; simp only [Ev.slots, List.map_cons, List.map_nil, List.length_cons, List.length_nil, List.cons_append, List.nil_append, List.replicate, Nat.reduceSub, Nat.reduceAdd])
      (repeat regstrif_gather)
      (refine go_val (isa_t rfl) ?_; simp only [tyB]; (repeat regstrif_gather))
      refine go_map (f := fun d => .bl (nintB d)) [a, b] (fun z hz => ⟨_, rfl, rfl, ?_⟩) (by unfold lim; simp) ?_
      · refine pure_wp fun S => ?_
        have hz2 := mem2 ha hb hz
        unfold nintB
        (repeat regstrif_gather)
        refine go_val (isa_p hz2 _) ?_
        cases hq : tyB z .int with
        | false =>
          (repeat regstrif_gather)
          (first | exact ⟨rfl, rfl⟩ | exact go_pure ⟨rfl, rfl⟩)
        | true =>
          (repeat regstrif_gather)
          refine go_val (isa_p hz2 _) ?_
          (first | exact ⟨rfl, rfl⟩ | exact go_pure ⟨rfl, rfl⟩)
      (repeat regstrif_gather)
      refine go_val (any_map nintB _) ?_
      rw [any_two ha hb, hi, Bool.false_and, Bool.not_false]
      (repeat regstrif_gather)
      (first | exact ⟨rfl, rfl⟩ | exact go_pure ⟨rfl, rfl⟩)
    | snd i b hb hi =>
      have ha : Pl (.int i) := by
        cases h with
        | tup _ _ hp => exact hp _ (by simp)
      (unfold sem__law_is_number; refine Ev.go_fn rfl ?_; unfold pk__law_is_number; simp only [Ev.slots, List.map_cons, List.map_nil, List.length_cons, List.length_nil, List.cons_append, List.nil_append, List.replicate, Nat.reduceSub, Nat.reduceAdd])
      (repeat regstrif_gather)
      (refine go_val (isa_t rfl) ?_; simp only [tyB]; (repeat regstrif_gather))
      refine go_map (f := fun d => .bl (nintB d)) [D.int i, b] (fun z hz => ⟨_, rfl, rfl, ?_⟩) (by unfold lim; simp) ?_
      · refine pure_wp fun S => ?_
        have hz2 := mem2 ha hb hz
        unfold nintB
        (repeat regstrif_gather)
        refine go_val (isa_p hz2 _) ?_
        cases hq : tyB z .int with
        | false =>
          (repeat regstrif_gather)
          (first | exact ⟨rfl, rfl⟩ | exact go_pure ⟨rfl, rfl⟩)
        | true =>
          (repeat regstrif_gather)
          refine go_val (isa_p hz2 _) ?_
          (first | exact ⟨rfl, rfl⟩ | exact go_pure ⟨rfl, rfl⟩)
      (repeat regstrif_gather)
      refine go_val (any_map nintB _) ?_
      rw [any_two ha hb, hi, Bool.and_false, Bool.not_false]
      (repeat regstrif_gather)
      (first | exact ⟨rfl, rfl⟩ | exact go_pure ⟨rfl, rfl⟩)
end K72
set_option maxRecDepth 100000
set_option maxHeartbeats 4000000
namespace K72
open PySem Ev
theorem notin_words (w : Str) (h : SeqAt.shaped (PyData.str w) = true) : dIn true (.str w) (.lst [.str "rail", .str "rung"]) = M.pure (.bl (!wordB w)) := by
  show (if SeqAt.shaped (PyData.str w) = true ∧ SeqAt.shaped (.list [PyData.str "rail", PyData.str "rung"]) = true then M.pure (D.bl (!([PyData.str "rail", PyData.str "rung"].any fun z => PyData.eqv z (.str w)))) else M.stuck) = _
  rw [if_pos ⟨h, by decide +kernel⟩, List.any_cons, List.any_cons, List.any_nil, Bool.or_false]
  have e : ∀ y : Str, PyData.eqv (.str y) (.str w) = decide (w = y) := fun y => by
    have : PyData.eqv (.str y) (.str w) = (y == w) := by first | rfl | simp [PyData.eqv]
    rw [this, Bool.eq_iff_iff, decide_eq_true_eq, beq_iff_eq, eq_comm]
  rw [e, e]
  rfl
theorem law_is_row_p {d : D} (h : Pl d) : sem__law_is_row [d] = M.pure (.bl (rowB d)) := by
  refine pure_wp fun S => ?_
  rcases h.tup? with ⟨ds, rfl, _, hp⟩ | ⟨h1, h2⟩
  · (unfold sem__law_is_row; refine Ev.go_fn rfl ?_; unfold pk__law_is_row; simp only [Ev.slots, List.map_cons, List.map_nil, List.length_cons, List.length_nil, List.cons_append, List.nil_append, List.replicate, Nat.reduceSub, Nat.reduceAdd])
    (repeat regstrif_gather)
    (refine go_val (isa_t rfl) ?_; simp only [tyB]; (repeat regstrif_gather))
    refine go_val (chain_len ds _) ?_
    cases hl : decide (1 ≤ ds.length) && decide (ds.length ≤ 8) with
    | false =>
      (repeat regstrif_gather)
      refine ⟨?_, rfl⟩
      show D.bl false = D.bl (decide (1 ≤ ds.length) && decide (ds.length ≤ 8) && ds.all pieceB)
      rw [hl, Bool.false_and]
    | true =>
      have er : rowB (.tup ds) = ds.all pieceB := by
        show (decide (1 ≤ ds.length) && decide (ds.length ≤ 8) && ds.all pieceB) = _
        rw [hl, Bool.true_and]
      rw [er]
      (repeat regstrif_gather)
      refine gs_loop (J := fun es sd S' => S' = S ∧ (∀ x ∈ es, Pl x) ∧ ds.all pieceB = es.all pieceB ∧ ∃ y, sd = [.val (.tup ds), y]) ?_ ?_ _ _ _ ⟨rfl, hp, rfl, .no, rfl⟩
      · rintro x es sd S' ⟨rfl, hq, ea, y, rfl⟩
        refine ⟨_, _, rfl, ?_⟩
        have hx := hq x List.mem_cons_self
        have hes := fun z hz => hq z (List.mem_cons_of_mem _ hz)
        rw [List.all_cons] at ea
        rcases hx.tup? with ⟨xs, rfl, _, hxs⟩ | ⟨h1, h2⟩
        · rcases xs with _ | ⟨a, _ | ⟨b, _ | ⟨c, l⟩⟩⟩
          · (repeat regstrif_gather)
            (refine go_val (isa_t rfl) ?_; simp only [tyB]; (repeat regstrif_gather))
            exact ⟨by rw [ea]; rfl, rfl⟩
          · (repeat regstrif_gather)
            (refine go_val (isa_t rfl) ?_; simp only [tyB]; (repeat regstrif_gather))
            exact ⟨by rw [ea, pieceB_one]; rfl, rfl⟩
          · have ha := hxs a (by simp)
            have hb := hxs b (by simp)
            rcases ha.str? with ⟨w, rfl, hw⟩ | ⟨h1, h2⟩
            · have iw := notin_words w hw
              have ib := whole_p hb 1 12
              rw [pieceB_str] at ea
              (repeat regstrif_gather)
              (refine go_val (isa_t rfl) ?_; simp only [tyB]; (repeat regstrif_gather))
              (refine go_val (isa_t rfl) ?_; simp only [tyB]; (repeat regstrif_gather))
              refine go_val iw ?_
              cases hw : wordB w with
              | false =>
                (repeat regstrif_gather)
                exact ⟨by rw [ea, hw]; rfl, rfl⟩
              | true =>
                (repeat regstrif_gather)
                refine go_val ib ?_
                cases hi : btw b 1 12 with
                | false =>
                  (repeat regstrif_gather)
                  exact ⟨by rw [ea, hw, hi]; rfl, rfl⟩
                | true =>
                  (repeat regstrif_gather)
                  exact ⟨rfl, hes, by rw [ea, hw, hi]; rfl, _, rfl⟩
            · (repeat regstrif_gather)
              (refine go_val (isa_t rfl) ?_; simp only [tyB]; (repeat regstrif_gather))
              refine go_val (isa_p ha _) ?_
              rw [h1]
              (repeat regstrif_gather)
              exact ⟨by rw [ea, pieceB_two h2]; rfl, rfl⟩
          · (repeat regstrif_gather)
            (refine go_val (isa_t rfl) ?_; simp only [tyB]; (repeat regstrif_gather))
            refine ite_d (fun z => ?_) (fun z => ?_)
            · simp only [List.length_cons] at z
              omega
            · (repeat regstrif_gather)
              exact ⟨by rw [ea, pieceB_more]; rfl, rfl⟩
        · (repeat regstrif_gather)
          refine go_val (isa_p hx _) ?_
          rw [h1]
          (repeat regstrif_gather)
          exact ⟨by rw [ea, pieceB_not h2]; rfl, rfl⟩
      · rintro sd S' ⟨rfl, _, ea, y, rfl⟩
        (repeat regstrif_gather)
        exact ⟨by rw [ea]; rfl, rfl⟩
  · (unfold sem__law_is_row; refine Ev.go_fn rfl ?_; unfold pk__law_is_row; simp only [Ev.slots, List.map_cons, List.map_nil, List.length_cons, List.length_nil, List.cons_append, List.nil_append, List.replicate, Nat.reduceSub, Nat.reduceAdd])
    (repeat regstrif_gather)
    refine go_val (isa_p h _) ?_
    rw [h1]
    (repeat regstrif_gather)
    exact ⟨by rw [rowB_not h2], rfl⟩
end K72
set_option maxRecDepth 100000
set_option maxHeartbeats 4000000
namespace K72
open PySem Ev
theorem res_num {d : D} (h : resB d = true) : numB d = true := by
  unfold resB at h
  split at h
  · exact (Bool.and_eq_true_iff.mp h).1
  · exact (Bool.and_eq_true_iff.mp h).1
  · cases h
theorem res_end {d : D} (h : resB d = true) : EndV (lowP (numV d)) ∧ sem_check_resistance [d] = M.pure .non := by
  unfold resB at h
  split at h
  · rename_i i
    obtain ⟨h1, h2⟩ := Bool.and_eq_true_iff.mp h
    have h1 := of_decide_eq_true h1
    have h2 := of_decide_eq_true h2
    exact ⟨end_low h1 (by omega) (by decide) (by decide), check_int i h1 (by omega)⟩
  · rename_i a b
    obtain ⟨h0, h3⟩ := Bool.and_eq_true_iff.mp h
    obtain ⟨h3, h4⟩ := Bool.and_eq_true_iff.mp h3
    have h3 := of_decide_eq_true h3
    have h4 := of_decide_eq_true h4
    rcases Bool.or_eq_true_iff.mp h0 with z | z
    · obtain ⟨z1, z2⟩ := Bool.and_eq_true_iff.mp z
      have z1 := of_decide_eq_true z1
      have z2 := of_decide_eq_true z2
      exact ⟨end_low z1 (by omega) (by omega) (by omega), check_tup a b ⟨z1, by omega, by omega, by omega, fun q => by omega⟩⟩
    · obtain ⟨z1, z2⟩ := Bool.and_eq_true_iff.mp z
      have z1 := of_decide_eq_true z1
      have z2 := of_decide_eq_true z2
      subst z1 z2
      exact ⟨by rw [show numV (.tup [.int 1, .int 0]) = (1, 0) from rfl, end_10.low]; exact end_10, check_tup 1 0 ⟨by decide, by decide, by decide, by decide, fun _ => rfl⟩⟩
  · cases h
theorem lad_no {x1 x2 : D} (h1 : Pl x1) (h2 : Pl x2) (h : (rowB x1 && resB x2) = false) : sem_ladder_told [x1, x2] = M.pure .non := by
  refine pure_wp fun S => ?_
  have e2 := is_resistance_p h2
  rcases told_p h1 with ⟨_, e1⟩ | ⟨r, hr, hn, e, hb, e1⟩
  · (unfold sem_ladder_told; refine Ev.go_fn rfl ?_; unfold pk_ladder_told; simp only [Ev.slots, List.map_cons, List.map_nil, List.length_cons, List.length_nil, List.cons_append, List.nil_append, List.replicate, Nat.reduceSub, Nat.reduceAdd])
    (repeat regstrif_gather)
    refine go_val e1 ?_
    (repeat regstrif_gather)
    (first | exact ⟨rfl, rfl⟩ | exact go_pure ⟨rfl, rfl⟩)
  · rw [hb, Bool.true_and] at h
    rw [h] at e2
    (unfold sem_ladder_told; refine Ev.go_fn rfl ?_; unfold pk_ladder_told; simp only [Ev.slots, List.map_cons, List.map_nil, List.length_cons, List.length_nil, List.cons_append, List.nil_append, List.replicate, Nat.reduceSub, Nat.reduceAdd])
    (repeat regstrif_gather)
    refine go_val e1 ?_
    (repeat regstrif_gather)
    refine go_val (r := .bl false) rfl ?_
    (repeat regstrif_gather)
    refine go_val e2 ?_
    (repeat regstrif_gather)
    (first | exact ⟨rfl, rfl⟩ | exact go_pure ⟨rfl, rfl⟩)
theorem lad_yes {x1 x2 : D} (h1 : Pl x1) (h2 : Pl x2) (hr : rowB x1 = true) (hs : resB x2 = true) : ∃ r, Row r ∧ r ≠ [] ∧ x1 = rowT r ∧ sem_ladder_told [x1, x2] = M.pure (ladD r (lowP (numV x2))) := by
  have e2 := is_resistance_p h2
  rw [hs] at e2
  rcases told_p h1 with ⟨hb, e1⟩ | ⟨r, hR, hn, e, hb, e1⟩
  · rw [hr] at hb
    cases hb
  · refine ⟨r, hR, hn, e, pure_wp fun S => ?_⟩
    have e3 := ladder_ok r (lowP (numV x2)) x2 (res_end hs).2 (pair_of_p h2 (res_num hs))
    (unfold sem_ladder_told; refine Ev.go_fn rfl ?_; unfold pk_ladder_told; simp only [Ev.slots, List.map_cons, List.map_nil, List.length_cons, List.length_nil, List.cons_append, List.nil_append, List.replicate, Nat.reduceSub, Nat.reduceAdd])
    (repeat regstrif_gather)
    refine go_val e1 ?_
    (repeat regstrif_gather)
    refine go_val (r := .bl false) rfl ?_
    (repeat regstrif_gather)
    refine go_val e2 ?_
    (repeat regstrif_gather)
    exact go_val e3 ⟨rfl, rfl⟩
def nilT : D → Bool
  | .tup [] => true
  | _ => false
theorem tup_nil {p : D} (h : nilT p = true) : p = .tup [] := by
  unfold nilT at h
  split at h
  · rfl
  · cases h
end K72
set_option maxRecDepth 100000
set_option maxHeartbeats 4000000
namespace K72
open PySem Ev
theorem in_j {z : Str} {b : Bool} (h : (js_JUDGES.lookup z).isSome = b) : dInK true (tab [(4000, js_JUDGES)]) (.str z) (.cls 4000) = M.pure (.bl (!b)) := by
  subst h
  show M.pure (D.bl (true != (js_JUDGES.lookup z).isSome)) = _
  rw [Bool.true_bne]
theorem ix_j {z : Str} {e : D} (h : js_JUDGES.lookup z = some (some e)) : dIxK (tab [(4000, js_JUDGES)]) (.cls 4000) (.str z) = M.pure e := by
  show (match js_JUDGES.lookup z with | some (some e) => M.pure e | _ => M.stuck) = _
  rw [h]
theorem ix_hd (a : D) (ds : List D) : dIx (.tup (a :: ds)) (.int 0) = M.pure a := ix_tup (by
  have : L2.ixN (a :: ds).length 0 = some 0 := by unfold L2.ixN; rw [if_pos (by decide), if_pos (by simp only [List.length_cons]; omega)]; rfl
  unfold L2.atI
  rw [this]
  rfl)
section
variable {d a p : D} {z : Str} {ds : List D}
theorem acc_not (h : Pl d) (hn : ∀ ds, d ≠ .tup ds) : sem_accepts [d, p] = M.pure (.bl false) := by
  refine pure_wp fun S => ?_
  rcases h.tup? with ⟨ds, rfl, _⟩ | ⟨h1, _⟩
  · exact absurd rfl (hn _)
  · (unfold sem_accepts; refine Ev.go_fn rfl ?_; unfold pk_accepts; simp only [Ev.slots, List.map_cons, List.map_nil, List.length_cons, List.length_nil, List.cons_append, List.nil_append, List.replicate, Nat.reduceSub, Nat.reduceAdd])
    (repeat regstrif_gather)
    refine go_val (isa_p h _) ?_
    rw [h1]
    (repeat regstrif_gather)
    (first | exact ⟨rfl, rfl⟩ | exact go_pure ⟨rfl, rfl⟩)
theorem acc_nil : sem_accepts [.tup [], p] = M.pure (.bl false) := by
  refine pure_wp fun S => ?_
  (unfold sem_accepts; refine Ev.go_fn rfl ?_; unfold pk_accepts; simp only [Ev.slots, List.map_cons, List.map_nil, List.length_cons, List.length_nil, List.cons_append, List.nil_append, List.replicate, Nat.reduceSub, Nat.reduceAdd])
  (repeat regstrif_gather)
  (refine go_val (isa_t rfl) ?_; simp only [tyB]; (repeat regstrif_gather))
  (first | exact ⟨rfl, rfl⟩ | exact go_pure ⟨rfl, rfl⟩)
theorem acc_head (h : Pl a) (hn : ∀ z, a ≠ .str z) : sem_accepts [.tup (a :: ds), p] = M.pure (.bl false) := by
  refine pure_wp fun S => ?_
  rcases h.str? with ⟨z, rfl, _⟩ | ⟨h1, _⟩
  · exact absurd rfl (hn _)
  · (unfold sem_accepts; refine Ev.go_fn rfl ?_; unfold pk_accepts; simp only [Ev.slots, List.map_cons, List.map_nil, List.length_cons, List.length_nil, List.cons_append, List.nil_append, List.replicate, Nat.reduceSub, Nat.reduceAdd])
    (repeat regstrif_gather)
    (refine go_val (isa_t rfl) ?_; simp only [tyB]; (repeat regstrif_gather))
    refine ite_d (fun z => ?_) (fun z => ?_)
    · simp only [List.length_cons] at z
      omega
    · (repeat regstrif_gather)
      refine go_val (ix_hd _ _) ?_
      (repeat regstrif_gather)
      refine go_val (isa_p h _) ?_
      rw [h1]
      (repeat regstrif_gather)
      (first | exact ⟨rfl, rfl⟩ | exact go_pure ⟨rfl, rfl⟩)
theorem acc_out (h : js_JUDGES.lookup z = none) : sem_accepts [.tup (.str z :: ds), p] = M.pure (.bl false) := by
  refine pure_wp fun S => ?_
  have e := in_j (z := z) (b := false) (by rw [h]; rfl)
  (unfold sem_accepts; refine Ev.go_fn rfl ?_; unfold pk_accepts; simp only [Ev.slots, List.map_cons, List.map_nil, List.length_cons, List.length_nil, List.cons_append, List.nil_append, List.replicate, Nat.reduceSub, Nat.reduceAdd])
  (repeat regstrif_gather)
  (refine go_val (isa_t rfl) ?_; simp only [tyB]; (repeat regstrif_gather))
  refine ite_d (fun z => ?_) (fun z => ?_)
  · simp only [List.length_cons] at z
    omega
  · (repeat regstrif_gather)
    refine go_val (ix_hd _ _) ?_
    (repeat regstrif_gather)
    (refine go_val (isa_t rfl) ?_; simp only [tyB]; (repeat regstrif_gather))
    refine go_val (ix_hd _ _) ?_
    (repeat regstrif_gather)
    refine go_val e ?_
    (repeat regstrif_gather)
    (first | exact ⟨rfl, rfl⟩ | exact go_pure ⟨rfl, rfl⟩)
theorem acc_len {n : Int} {c : Nat} (h : js_JUDGES.lookup z = some (some (.tup [.int n, .cls c]))) (hn : (ds.length : Int) + 1 ≠ n) : sem_accepts [.tup (.str z :: ds), p] = M.pure (.bl false) := by
  refine pure_wp fun S => ?_
  have e := in_j (z := z) (b := true) (by rw [h]; rfl)
  have e2 := ix_j h
  (unfold sem_accepts; refine Ev.go_fn rfl ?_; unfold pk_accepts; simp only [Ev.slots, List.map_cons, List.map_nil, List.length_cons, List.length_nil, List.cons_append, List.nil_append, List.replicate, Nat.reduceSub, Nat.reduceAdd])
  (repeat regstrif_gather)
  (refine go_val (isa_t rfl) ?_; simp only [tyB]; (repeat regstrif_gather))
  refine ite_d (fun z => ?_) (fun z => ?_)
  · simp only [List.length_cons] at z
    omega
  · (repeat regstrif_gather)
    refine go_val (ix_hd _ _) ?_
    (repeat regstrif_gather)
    (refine go_val (isa_t rfl) ?_; simp only [tyB]; (repeat regstrif_gather))
    refine go_val (ix_hd _ _) ?_
    (repeat regstrif_gather)
    refine go_val e ?_
    (repeat regstrif_gather)
    refine go_val (ix_hd _ _) ?_
    (repeat regstrif_gather)
    refine go_val e2 ?_
    refine tg_tup rfl (tl_cons (tg_set (tl_cons (tg_set (tl_nil ?_)))))
    simp only [List.set_cons_zero, List.set_cons_succ]
    (repeat regstrif_gather)
    (first | exact ⟨rfl, rfl⟩ | exact go_pure ⟨rfl, rfl⟩)
end
inductive NoC : D → Prop
  | oth (d : D) (h : Pl d) (n : ∀ ds, d ≠ .tup ds) : NoC d
  | nil : NoC (.tup [])
  | head (a : D) (ds : List D) (h : Pl (.tup (a :: ds))) (n : ∀ z, a ≠ .str z) : NoC (.tup (a :: ds))
  | out (z : Str) (ds : List D) (h : Pl (.tup (.str z :: ds))) (n : js_JUDGES.lookup z = none) : NoC (.tup (.str z :: ds))
theorem NoC.pl {d : D} (h : NoC d) : Pl d := by
  cases h with
  | oth _ h _ => exact h
  | nil => exact .tup [] (by simp) nofun
  | head _ _ h _ => exact h
  | out _ _ h _ => exact h
end K72
set_option maxRecDepth 100000
set_option maxHeartbeats 4000000
namespace K72
open PySem Ev
theorem anyrow_wp {S : List Ob} {n c : Nat} {m : Int} {P : D → List Ob → Prop} (h : Tape S n c) (hc : c ≤ 900000) (m0 : 0 < m) (m8 : m ≤ 8) (q : ∀ r S', Row r → r ≠ [] → r.length ≤ m → Tape S' n (c + 17) → P (rowT r) S') : Wp (sem__law_anyrow [.ref n, .int m]) S P := by
  (unfold sem__law_anyrow; refine Ev.go_fn rfl ?_; unfold pk__law_anyrow; simp only [Ev.slots, List.map_cons, List.map_nil, List.length_cons, List.length_nil, List.cons_append, List.nil_append, List.replicate, Nat.reduceSub, Nat.reduceAdd])
  (repeat regstrif_gather)
  refine pick_wp h (by omega) m0 (by omega) fun k S1 k0 k1 h1 => ?_
  (repeat regstrif_gather)
  refine go_comp (J := fun ds acc S' => ∃ c', Tape S' n c' ∧ c' + 2 * ds.length ≤ c + 17 ∧ ∃ r : List Pc, acc = r.map Pc.D ∧ (∀ p ∈ r, p.ok) ∧ r.length + ds.length = (1 + k).toNat) ?_ ?_ _ _ _ ⟨c + 1, h1, by simp only [rng_len]; omega, [], rfl, fun p hp => (by cases hp), by simp [rngD]⟩
  · rintro d ds acc S' ⟨c', h3, hc', r, rfl, ho, hl⟩
    rw [List.length_cons] at hl hc'
    refine ⟨_, rfl, by rw [List.length_map]; unfold lim; omega, ?_⟩
    (repeat regstrif_gather)
    refine pick_wp h3 (by omega) (by decide) (by decide) fun w S3 w0 w1 h3 => ?_
    have hw : ∃ rl : Bool, dIx (.lst [.str "rail", .str "rung"]) (.int w) = M.pure (.str (if rl then "rail" else "rung")) := by
      rcases (show w = 0 ∨ w = 1 by omega) with rfl | rfl
      · exact ⟨true, rfl⟩
      · exact ⟨false, rfl⟩
    obtain ⟨rl, hw⟩ := hw
    (repeat regstrif_gather)
    refine go_val hw ?_
    (repeat regstrif_gather)
    refine pick_wp h3 (by omega) (by decide) (by decide) fun o S4 o0 o1 h4 => ?_
    (repeat regstrif_gather)
    refine ⟨c' + 1 + 1, h4, by omega, r ++ [⟨rl, 1 + o⟩], ?_, ?_, ?_⟩
    · rw [List.map_append]
      rfl
    · intro p hp
      rcases List.mem_append.mp hp with q | q
      · exact ho p q
      · rw [List.mem_singleton.mp q]
        exact ⟨by show 1 ≤ 1 + o; omega, by show 1 + o ≤ 12; omega⟩
    · rw [List.length_append, List.length_singleton]
      omega
  · rintro acc S' ⟨c', h3, hc', r, rfl, ho, hl⟩
    (repeat regstrif_gather)
    simp only [List.length_nil] at hl hc'
    refine go_val (r := rowT r) rfl ?_
    refine q r S' ⟨ho, by omega⟩ (fun z => by rw [z] at hl; simp at hl; omega) (by omega) (h3.mono (by omega))
theorem sh_int {i : Int} (h : i.natAbs < 2 ^ 64) : Sh (.int i) := .int i (.mk (Nat.lt_of_lt_of_le h (by decide +kernel)))
theorem sh_two {a b : Int} (h : a.natAbs < 2 ^ 64) (h2 : b.natAbs < 2 ^ 64) : Sh (.tup [.int a, .int b]) := .two a b (.mk (Nat.lt_of_lt_of_le h (by decide +kernel))) (.mk (Nat.lt_of_lt_of_le h2 (by decide +kernel)))
theorem Sh.pl {d : D} (h : Sh d) : Pl d := by
  cases h with
  | int i b => exact .int i b
  | two a b ha hb => exact .tup _ (by simp) fun x hx => mem2 (.int a ha) (.int b hb) hx
theorem res_t {a b : Int} (h : 0 ≤ a) (h1 : a ≤ 1000000000000) (h2 : 1 ≤ b) (h3 : b ≤ 1000000000000) : Sh (.tup [.int a, .int b]) ∧ resB (.tup [.int a, .int b]) = true := by
  refine ⟨sh_two (by omega) (by omega), ?_⟩
  rw [res_eq, decide_eq_true h, decide_eq_true h1, decide_eq_true h2, decide_eq_true h3]
  rfl
theorem res_i {a : Int} (h : 0 ≤ a) (h1 : a ≤ 1000000000000) : Sh (.int a) ∧ resB (.int a) = true := by
  refine ⟨sh_int (by omega), ?_⟩
  show (decide (0 ≤ a) && decide (a ≤ 1000000000000)) = true
  rw [decide_eq_true h, decide_eq_true h1]
  rfl
theorem res_o : Sh (.tup [.int 1, .int 0]) ∧ resB (.tup [.int 1, .int 0]) = true := ⟨sh_two (by decide) (by decide), rfl⟩
theorem anyload_wp {S : List Ob} {n c : Nat} {P : D → List Ob → Prop} (h : Tape S n c) (hc : c ≤ 900000) (q : ∀ d S', Sh d → resB d = true → Tape S' n (c + 4) → P d S') : Wp (sem__law_anyload [.ref n]) S P := by
  have p12 : dPow (.int 10) (.int 12) = M.pure (.int 1000000000000) := funext fun S => by kernel_rfl
  (unfold sem__law_anyload; refine Ev.go_fn rfl ?_; unfold pk__law_anyload; simp only [Ev.slots, List.map_cons, List.map_nil, List.length_cons, List.length_nil, List.cons_append, List.nil_append, List.replicate, Nat.reduceSub, Nat.reduceAdd])
  (repeat regstrif_gather)
  refine pick_wp h (by omega) (by decide) (by decide) fun w S1 w0 w1 h1 => ?_
  (repeat regstrif_gather)
  refine ite_d (fun z => ?_) (fun z => ?_)
  · have hw : ∃ d, dIx (.lst [.int 0, .tup [.int 1, .int 0]]) (.int w) = M.pure d ∧ Sh d ∧ resB d = true := by
      rcases (show w = 0 ∨ w = 1 by omega) with rfl | rfl
      · exact ⟨.int 0, rfl, res_i (by decide) (by decide)⟩
      · exact ⟨.tup [.int 1, .int 0], rfl, res_o⟩
    obtain ⟨d, hw, a, b⟩ := hw
    (repeat regstrif_gather)
    refine go_val hw ?_
    exact q d _ a b (h1.mono (by omega))
  · (repeat regstrif_gather)
    refine ite_d (fun z => ?_) (fun z => ?_)
    · (repeat regstrif_gather)
      refine go_val p12 ?_
      (repeat regstrif_gather)
      refine go_val p12 ?_
      (repeat regstrif_gather)
      refine go_val p12 ?_
      (repeat regstrif_gather)
      refine go_val p12 ?_
      (repeat regstrif_gather)
      refine pick_wp h1 (by omega) (by decide) (by decide) fun v S2 v0 v1 h2 => ?_
      have hw : ∃ d, dIx (.lst [.tup [.int 0, .int 7], .int 1000000000000, .tup [.int 1, .int 1000000000000], .tup [.int 1000000000000, .int (1000000000000 - 1)]]) (.int v) = M.pure d ∧ Sh d ∧ resB d = true := by
        rcases (show v = 0 ∨ v = 1 ∨ v = 2 ∨ v = 3 by omega) with rfl | rfl | rfl | rfl
        · exact ⟨_, rfl, res_t (by decide) (by decide) (by decide) (by decide)⟩
        · exact ⟨_, rfl, res_i (by decide) (by decide)⟩
        · exact ⟨_, rfl, res_t (by decide) (by decide) (by decide) (by decide)⟩
        · exact ⟨_, rfl, res_t (by decide) (by decide) (by decide) (by decide)⟩
      obtain ⟨d, hw, a, b⟩ := hw
      (repeat regstrif_gather)
      refine go_val hw ?_
      exact q d _ a b (h2.mono (by omega))
    · (repeat regstrif_gather)
      refine ite_d (fun z => ?_) (fun z => ?_)
      · (repeat regstrif_gather)
        refine pick_wp h1 (by omega) (by decide) (by decide) fun v S2 v0 v1 h2 => ?_
        obtain ⟨a, b⟩ := res_i (a := v) v0 (by omega)
        exact q _ _ a b (h2.mono (by omega))
      · (repeat regstrif_gather)
        refine ite_d (fun z => ?_) (fun z => ?_)
        · (repeat regstrif_gather)
          refine go_val p12 ?_
          (repeat regstrif_gather)
          refine pick_wp h1 (by omega) (by decide) (by decide) fun v S2 v0 v1 h2 => ?_
          (repeat regstrif_gather)
          refine go_val p12 ?_
          (repeat regstrif_gather)
          refine pick_wp h2 (by omega) (by decide) (by decide) fun u S3 u0 u1 h3 => ?_
          (repeat regstrif_gather)
          obtain ⟨a, b⟩ := res_t (a := v) (b := 1 + u) v0 (by omega) (by omega) (by omega)
          exact q _ _ a b (h3.mono (by omega))
        · (repeat regstrif_gather)
          refine pick_wp h1 (by omega) (by decide) (by decide) fun v S2 v0 v1 h2 => ?_
          (repeat regstrif_gather)
          refine pick_wp h2 (by omega) (by decide) (by decide) fun u S3 u0 u1 h3 => ?_
          (repeat regstrif_gather)
          refine pick_wp h3 (by omega) (by decide) (by decide) fun t S4 t0 t1 h4 => ?_
          (repeat regstrif_gather)
          have e1 : 0 ≤ (1 + v) * u := Int.mul_nonneg (by omega) u0
          have e2 : (1 + v) * u ≤ 3 * 60 := Int.mul_le_mul (by omega) (by omega) u0 (by decide)
          have e3 : 1 * 1 ≤ (1 + v) * (1 + t) := Int.mul_le_mul (by omega) (by omega) (by decide) (by omega)
          have e4 : (1 + v) * (1 + t) ≤ 3 * 24 := Int.mul_le_mul (by omega) (by omega) (by omega) (by decide)
          obtain ⟨a, b⟩ := res_t (a := (1 + v) * u) (b := (1 + v) * (1 + t)) e1 (by omega) (by omega) (by omega)
          exact q _ _ a b (h4.mono (by omega))
end K72
set_option maxRecDepth 100000
set_option maxHeartbeats 4000000
namespace K72
open PySem Ev
theorem sm_low {k : Nat} {v : Int × Int} (n : Nn v) (h1 : Sm k v.1) (h2 : Sm k v.2) : Sm k (lowP v).1 ∧ Sm k (lowP v).2 := by
  obtain ⟨g, g0, e1, e2⟩ := lowP_mul n.t n.b n.p
  have nl := n.low
  have key : ∀ x y : Int, 0 ≤ x → g * x = y → x ≤ y := fun x y hx e => by
    have := Int.mul_le_mul_of_nonneg_right (show 1 ≤ g by omega) hx
    rw [Int.one_mul] at this
    omega
  have a1 := key _ _ nl.t e1
  have a2 := key _ _ nl.b e2
  exact ⟨⟨nl.t, Int.lt_of_le_of_lt a1 h1.2⟩, ⟨nl.b, Int.lt_of_le_of_lt a2 h2.2⟩⟩
theorem EndV.nn {v : Int × Int} (h : EndV v) : Nn v := ⟨h.t0, h.b0, h.p⟩
theorem len_row (r : List Pc) : dLen (rowT r) = M.pure (.int r.length) := by
  show M.pure (D.int ((r.map Pc.D).length : Int)) = _
  rw [List.length_map]
end K72
set_option maxRecDepth 100000
set_option maxHeartbeats 4000000
namespace K72
open PySem Ev
def plB : Nat → D → Bool
  | 0, _ => false
  | _ + 1, .non => true
  | _ + 1, .bl _ => true
  | _ + 1, .int i => decide (i.natAbs < 2 ^ 128)
  | _ + 1, .str x => SeqAt.shaped (PyData.str x)
  | n + 1, .tup ds => decide (ds.length ≤ 100) && ds.all (plB n)
  | n + 1, .lst ds => decide (ds.length ≤ 100) && ds.all (plB n)
  | _ + 1, .dct [] [] => true
  | _ + 1, _ => false
theorem plB_ok : ∀ (n : Nat) (d : D), plB n d = true → Pl d
  | 0, _, h => by cases h
  | n + 1, d, h => by
    unfold plB at h
    split at h
    · rename_i q; cases q
    · exact .non
    · exact .bl _
    · rename_i i _
      exact .int _ (.mk (Nat.lt_of_lt_of_le (of_decide_eq_true h) (by decide +kernel)))
    · exact .str _ h
    · rename_i m ds e
      cases e
      obtain ⟨h1, h2⟩ := Bool.and_eq_true_iff.mp h
      exact .tup ds (of_decide_eq_true h1) fun x hx => plB_ok n x (List.all_eq_true.mp h2 x hx)
    · rename_i m ds e
      cases e
      obtain ⟨h1, h2⟩ := Bool.and_eq_true_iff.mp h
      exact .lst ds (of_decide_eq_true h1) fun x hx => plB_ok n x (List.all_eq_true.mp h2 x hx)
    · exact .dct
    · cases h
def rl (i : Int) : D := .tup [.str "rail", .int i]
def rg (i : Int) : D := .tup [.str "rung", .int i]
def two (a b : Int) : D := .tup [.int a, .int b]
def odds : List D := [.non, .bl true, .bl false, .str "", .str "x", .int (-1), .int 13, .int 101, .int 1000000000000000000000000000000, .tup [], .tup [.int 0], .tup [.int 1, .int 0, .int 0], two 2 0, two 0 0, two (-1) 2, two 1 (-2),
  .tup [.bl true, .int 1], .tup [.int 1, .bl false], rl 1, .tup [rl 0], .tup [rl 13], .tup [.tup [.str "rail", .bl true]], .lst [], .dct [] [],
  .lst [rl 1], .tup [.tup [.str "rung"]], .tup [.tup [.str "run", .int 3]], .tup [.lst [.str "rail", .int 1]], .tup [.tup [rl 1]], .tup [rl 1, rl 1, rl 1, rl 1, rl 1, rl 1, rl 1, rl 1, rl 1],
  two 1000000000001 2, two 2 1000000000001, .int 1000000000001, .tup [.lst []], .tup [.tup [], .tup []], .str "value", .str "most", .str "never",
  .int 0, .int 1, .int 7, .int 100, two 1 0, two 6 4, .int 1000000000000, .tup [rl 12], .tup [rg 1, rg 1, rg 1, rg 1, rg 1, rg 1, rg 1, rg 1],
  .tup [rl 2, rg 5]]
def headB : D → Bool
  | .tup (.str z :: _) => (js_JUDGES.lookup z).isNone
  | _ => true
def strB : D → Bool
  | .str z => decide (z ∈ (["value", "", "x", "most", "never"] : List Str))
  | _ => true
theorem odds_B : odds.all (fun d => plB 9 d && (headB d && strB d)) = true := by kernel_rfl
theorem odds_pl {d : D} (h : d ∈ odds) : Pl d := plB_ok _ _ (Bool.and_eq_true_iff.mp (List.all_eq_true.mp odds_B d h)).1
theorem odds_str {z : Str} (h : D.str z ∈ odds) : z ∈ (["value", "", "x", "most", "never"] : List Str) :=
  of_decide_eq_true (Bool.and_eq_true_iff.mp (Bool.and_eq_true_iff.mp (List.all_eq_true.mp odds_B _ h)).2).2
theorem ix_mem (l : List D) {i : Int} (h0 : 0 ≤ i) (h1 : i < l.length) : ∃ d ∈ l, dIx (.lst l) (.int i) = M.pure d := by
  have hx : L2.ixN l.length i = some i.toNat := by unfold L2.ixN; rw [if_pos h0, if_pos h1]
  have hlt : i.toNat < l.length := by omega
  refine ⟨l[i.toNat], List.getElem_mem _, ?_⟩
  have e : L2.atI l i = some l[i.toNat] := by
    unfold L2.atI
    rw [hx]
    show l[i.toNat]? = _
    exact List.getElem?_eq_getElem hlt
  refine pure_wp fun S => p_ixL e ⟨rfl, rfl⟩
theorem anyodd_wp {S : List Ob} {n c : Nat} {P : D → List Ob → Prop} (h : Tape S n c) (hc : c ≤ 900000) (q : ∀ d S', d ∈ odds → Tape S' n (c + 1) → P d S') : Wp (sem__law_anyodd [.ref n]) S P := by
  (unfold sem__law_anyodd; refine Ev.go_fn rfl ?_; unfold pk__law_anyodd; simp only [Ev.slots, List.map_cons, List.map_nil, List.length_cons, List.length_nil, List.cons_append, List.nil_append, List.replicate, Nat.reduceSub, Nat.reduceAdd])
  refine gs_seq (gs_asg (go_val (r := .lst (odds.take 16)) (by funext S; kernel_rfl) ?_))
  refine gs_seq (gs_asg (go_val (r := .lst (odds.take 24)) (by funext S; kernel_rfl) ?_))
  refine gs_seq (gs_asg (go_val (r := .lst (odds.take 30)) (by funext S; kernel_rfl) ?_))
  refine gs_seq (gs_asg (go_val (r := .lst (odds.take 38)) (by funext S; kernel_rfl) ?_))
  refine gs_seq (gs_asg (go_val (r := .lst (odds.take 47)) (by funext S; kernel_rfl) ?_))
  refine gs_seq (gs_asg (go_val (r := .lst odds) (by funext S; kernel_rfl) ?_))
  (repeat regstrif_gather)
  refine pick_wp h (by omega) (by decide) (by decide) fun k S1 k0 k1 h1 => ?_
  obtain ⟨d, hm, e⟩ := ix_mem odds (i := k) k0 (by show k < 48; omega)
  (repeat regstrif_gather)
  refine go_val e ?_
  exact q d _ hm h1
end K72
set_option maxRecDepth 100000
set_option maxHeartbeats 4000000
namespace K72
open PySem Ev
theorem p_addT {as bs : List D} {S : List Ob} {PD : D → List Ob → Prop} (l : as.length + bs.length ≤ lim) (h : PD (.tup (as ++ bs)) S) : Wp (dAdd (.tup as) (.tup bs)) S PD := by
  show Wp (if as.length + bs.length ≤ lim then M.pure (D.tup (as ++ bs)) else M.stuck) S PD
  rw [if_pos l]
  exact go_pure h
theorem set_eq {ds : List D} {x : D} {i : Nat} (h : i < ds.length) : ds.take i ++ [x] ++ ds.drop (i + 1) = ds.set i x := by
  rw [List.set_eq_take_append_cons_drop, if_pos h, List.append_assoc]
  rfl
theorem ix_memT (l : List D) {i : Nat} (h1 : i < l.length) : dIx (.tup l) (.int (i : Int)) = M.pure l[i] := by
  have hx : L2.ixN l.length (i : Int) = some i := by unfold L2.ixN; rw [if_pos (by omega), if_pos (by omega)]; rfl
  have e : L2.atI l i = some l[i] := by
    unfold L2.atI
    rw [hx]
    show l[i]? = _
    exact List.getElem?_eq_getElem h1
  refine pure_wp fun S => p_ixT e ⟨rfl, rfl⟩
structure Turn (y : D) : Prop where
  pl : Pl y
  ns : ∀ z, y ≠ .str z
theorem turn_list {xs : List D} (h : Pl (.tup xs)) : Turn (.lst xs) := by
  cases h with
  | tup _ l h => exact ⟨.lst xs l h, fun z => nofun⟩
theorem turn_in {ys xs : List D} (h : Pl (.tup (.tup ys :: xs))) : Turn (.tup (.lst ys :: xs)) := by
  cases h with
  | tup _ l h =>
    refine ⟨.tup _ l fun x hx => ?_, fun z => nofun⟩
    rcases List.mem_cons.mp hx with rfl | hx
    · exact (turn_list (h _ List.mem_cons_self)).pl
    · exact h x (List.mem_cons_of_mem _ hx)
theorem bent_gen {S : List Ob} {n c : Nat} {ds : List D} {P : D → List Ob → Prop} (l0 : 1 ≤ ds.length) (l1 : ds.length ≤ 20) (hp : ∀ x ∈ ds, Pl x) (h : Tape S n c) (hc : c ≤ 800000)
    (q1 : ∀ i o S', i < ds.length → o ∈ odds → Tape S' n (c + 4) → P (.tup (ds.set i o)) S')
    (q2 : ∀ S', Tape S' n (c + 4) → P (.tup (cutD ds none (some (-1)))) S')
    (q3 : ∀ o S', o ∈ odds → Tape S' n (c + 4) → P (.tup (ds ++ [o])) S')
    (q4 : ∀ S', Tape S' n (c + 4) → P (.lst ds) S')
    (q5 : ∀ o S', o ∈ odds → Tape S' n (c + 4) → P o S')
    (q6 : ∀ i y xs S', ds[i]? = some (.tup xs) → Turn y → Tape S' n (c + 4) → P (.tup (ds.set i y)) S') : Wp (sem__law_bent [.ref n, .tup ds]) S P := by
  (unfold sem__law_bent; refine Ev.go_fn rfl ?_; unfold pk__law_bent; simp only [Ev.slots, List.map_cons, List.map_nil, List.length_cons, List.length_nil, List.cons_append, List.nil_append, List.replicate, Nat.reduceSub, Nat.reduceAdd])
  refine gs_seq (gs_par3 ?_)
  (repeat regstrif_gather)
  refine pick_wp h (by omega) (by decide) (by decide) fun w S1 w0 w1 h1 => ?_
  (repeat regstrif_gather)
  refine pick_wp h1 (by omega) (by omega) (by omega) fun pl S2 p0 p1 h2' => ?_
  (repeat regstrif_gather)
  refine anyodd_wp h2' (by omega) fun o S3 ho h3 => ?_
  (repeat regstrif_gather)
  refine ⟨_, _, _, rfl, ?_⟩
  have h3 := h3.mono (c' := c + 4) (by omega)
  obtain ⟨i, rfl⟩ : ∃ i : Nat, pl = i := ⟨pl.toNat, by omega⟩
  have hi : i < ds.length := by omega
  have e5 := ix_memT ds hi
  have hthing := hp _ (List.getElem_mem hi)
  have g6 : ∀ y xs, ds[i] = .tup xs → Turn y → P (.tup (ds.set i y)) S3 := fun y xs e t => q6 i y xs S3 (by rw [List.getElem?_eq_getElem hi, e]) t h3
  have fs : ∀ x, P (.tup (ds.set i x)) S3 → P (.tup (ds.take (i : Int).toNat ++ [x] ++ ds.drop ((i : Int) + 1).toNat)) S3 := fun x h => by
    rw [show ((i : Int)).toNat = i by omega, show ((i : Int) + 1).toNat = i + 1 by omega, set_eq hi]
    exact h
  generalize ds[i] = t at *
  (repeat regstrif_gather)
  refine ite_d (fun z => ?_) (fun z => ?_)
  · (repeat regstrif_gather)
    exact fs _ (q1 i o S3 hi ho h3)
  · (repeat regstrif_gather)
    refine ite_d (fun z => ?_) (fun z => ?_)
    · (repeat regstrif_gather)
      refine go_val (r := .tup (cutD ds none (some (-1)))) rfl ?_
      exact q2 _ h3
    · (repeat regstrif_gather)
      refine ite_d (fun z => ?_) (fun z => ?_)
      · (repeat regstrif_gather)
        exact q3 o _ ho h3
      · (repeat regstrif_gather)
        refine go_val e5 ?_
        (repeat regstrif_gather)
        refine ite_d (fun z => ?_) (fun z => ?_)
        · (repeat regstrif_gather)
          rcases hthing.tup? with ⟨xs, rfl, hl, hxs⟩ | ⟨k1, _⟩
          · (refine go_val (isa_t rfl) ?_; simp only [tyB]; (repeat regstrif_gather))
            refine ite_d (fun z => ?_) (fun z => ?_)
            · rcases xs with _ | ⟨y, xs⟩
              · (repeat regstrif_gather)
                (refine go_val (isa_t rfl) ?_; simp only [tyB]; (repeat regstrif_gather))
                refine go_val (r := .lst []) rfl ?_
                (repeat regstrif_gather)
                exact fs _ (g6 _ _ rfl (turn_list hthing))
              · (repeat regstrif_gather)
                refine p_addT (by simp only [List.length_cons, List.length_nil] at *; unfold lim; omega) ?_
                (repeat regstrif_gather)
                refine go_val (show dIx (.tup (y :: xs ++ [.int 0])) (.int 0) = M.pure y from ix_hd y (xs ++ [D.int 0])) ?_
                (repeat regstrif_gather)
                have hy := hxs y List.mem_cons_self
                rcases hy.tup? with ⟨ys, rfl, _⟩ | ⟨k1, _⟩
                · (refine go_val (isa_t rfl) ?_; simp only [tyB]; (repeat regstrif_gather))
                  refine go_val (ix_hd _ _) ?_
                  (repeat regstrif_gather)
                  refine go_val (r := .lst ys) rfl ?_
                  (repeat regstrif_gather)
                  refine p_addT (by simp only [List.length_cons, List.length_nil, List.length_drop] at *; unfold lim; omega) ?_
                  (repeat regstrif_gather)
                  exact fs _ (g6 _ _ rfl (turn_in hthing))
                · refine go_val (isa_p hy _) ?_
                  rw [k1]
                  (repeat regstrif_gather)
                  refine go_val (r := .lst (y :: xs)) rfl ?_
                  (repeat regstrif_gather)
                  exact fs _ (g6 _ _ rfl (turn_list hthing))
            · (repeat regstrif_gather)
              refine go_val (r := .lst xs) rfl ?_
              (repeat regstrif_gather)
              exact fs _ (g6 _ _ rfl (turn_list hthing))
          · refine go_val (isa_p hthing _) ?_
            rw [k1]
            (repeat regstrif_gather)
            exact q5 o _ ho h3
        · (repeat regstrif_gather)
          refine ite_d (fun z => ?_) (fun z => ?_)
          · (repeat regstrif_gather)
            refine go_val (r := .lst ds) rfl ?_
            exact q4 _ h3
          · (repeat regstrif_gather)
            exact q5 o _ ho h3
end K72
set_option maxRecDepth 100000
set_option maxHeartbeats 4000000
namespace K72
open PySem Ev
theorem pc_pl {p : Pc} (h : p.ok) : Pl p.D := by
  refine .tup _ (by simp) fun x hx => mem2 (.str _ ?_) (.int _ (bd_sm (Pc.sm h) |>.mono (by decide))) hx
  unfold Pc.w
  split <;> decide +kernel
theorem row_pl {r : List Pc} (h : Row r) : Pl (rowT r) := by
  refine .tup _ (by rw [List.length_map]; have := h.2; omega) fun x hx => ?_
  obtain ⟨p, hp, rfl⟩ := List.mem_map.mp hx
  exact pc_pl (h.1 p hp)
theorem mem4 {x0 x1 x2 x3 z : D} (h0 : Pl x0) (h1 : Pl x1) (h2 : Pl x2) (h3 : Pl x3) (h : z ∈ [x0, x1, x2, x3]) : Pl z := by
  simp only [List.mem_cons, List.not_mem_nil, or_false] at h
  rcases h with rfl | rfl | rfl | rfl <;> assumption
theorem mem6 {x0 x1 x2 x3 x4 x5 z : D} (h0 : Pl x0) (h1 : Pl x1) (h2 : Pl x2) (h3 : Pl x3) (h4 : Pl x4) (h5 : Pl x5) (h : z ∈ [x0, x1, x2, x3, x4, x5]) : Pl z := by
  simp only [List.mem_cons, List.not_mem_nil, or_false] at h
  rcases h with rfl | rfl | rfl | rfl | rfl | rfl <;> assumption
theorem int_pl (i : Int) (h : i.natAbs < 2 ^ 64) : Pl (.int i) := (sh_int h).pl
end K72
set_option maxRecDepth 100000
set_option maxHeartbeats 4000000
namespace K72
open PySem Ev
theorem slice4 (ns : List Int) : dSl (.scr (ns.map D.int)) none (some 4) = M.pure (.lst ((ns.take 4).map D.int)) := by
  show M.pure (D.lst (cutD (ns.map D.int) none (some 4))) = _
  rw [cut_take (by decide), List.map_take]
  rfl
theorem cell_ok (ns : List Int) (i : Int) (h0 : 0 ≤ i) (h1 : i < 100) (hb : ∀ z ∈ ns, Builtin.Int.intBits z ≤ 1048576) : ∃ z : Int, sem__law_cell [.scr (ns.map D.int), .int i] = M.pure (.int z) := by
  have hB : ∀ z ∈ ns, Bd 1048576 z := fun z hz => bd_bits (hb z hz)
  suffices h : ∃ z : Int, ∀ S, Wp (sem__law_cell [.scr (ns.map D.int), .int i]) S fun d S' => d = .int z ∧ S' = S by
    obtain ⟨z, h⟩ := h
    exact ⟨z, pure_wp h⟩
  by_cases c : i < (ns.length : Int)
  · obtain ⟨m, rfl⟩ : ∃ m : Nat, i = m := ⟨i.toNat, by omega⟩
    have hm : m < ns.length := by omega
    refine ⟨ns[m], fun S => ?_⟩
    (unfold sem__law_cell; refine Ev.go_fn rfl ?_; unfold pk__law_cell; simp only [Ev.slots, List.map_cons, List.map_nil, List.length_cons, List.length_nil, List.cons_append, List.nil_append, List.replicate, Nat.reduceSub, Nat.reduceAdd])
    (repeat regstrif_gather)
    simp only [List.length_map]
    refine ite_dt c ?_
    (repeat regstrif_gather)
    refine go_val (r := .int ns[m]) (ix_scr (L2.atI_nat (by rw [List.getElem?_map, List.getElem?_eq_getElem hm]; rfl))) ?_
    (repeat regstrif_gather)
    exact ⟨rfl, rfl⟩
  · refine ⟨(ns.take 4).foldl (fun f z => (f * 30011 + z) % 2147483629) (40009 * i * i + 30013 * i + 71), fun S => ?_⟩
    (unfold sem__law_cell; refine Ev.go_fn rfl ?_; unfold pk__law_cell; simp only [Ev.slots, List.map_cons, List.map_nil, List.length_cons, List.length_nil, List.cons_append, List.nil_append, List.replicate, Nat.reduceSub, Nat.reduceAdd])
    (repeat regstrif_gather)
    simp only [List.length_map]
    refine ite_df c ?_
    (repeat regstrif_gather)
    refine go_val (slice4 ns) ?_
    (repeat regstrif_gather)
    generalize ht : (ns.take 4).foldl (fun f z => (f * 30011 + z) % 2147483629) (40009 * i * i + 30013 * i + 71) = t
    refine gs_loop (J := fun ds sd S' => S' = S ∧ ∃ (ys : List Int) (f : Int) (u : SV), ds = ys.map D.int ∧ ys.foldl (fun f z => (f * 30011 + z) % 2147483629) f = t ∧ -18446744073709551616 < f ∧ f < 18446744073709551616 ∧ sd = [.val (.scr (ns.map D.int)), .val (.int i), .val (.int f), u]) ?_ ?_ _ _ _ ⟨rfl, ns.take 4, _, .no, rfl, ht, ?_, ?_, rfl⟩
    · rintro d ds sd S3 ⟨rfl, ys, f, u, e, hf, f0, f1, rfl⟩
      rcases ys with _ | ⟨y, ys⟩
      · cases e
      cases e
      refine ⟨_, _, rfl, ?_⟩
      have bf : Bd 64 f := Bd.of64 f0 f1
      (repeat regstrif_gather)
      have a := Int.emod_nonneg (f * 30011 + y) (show (2147483629 : Int) ≠ 0 by decide)
      have b := Int.emod_lt_of_pos (f * 30011 + y) (show (0 : Int) < 2147483629 by decide)
      exact ⟨rfl, ys, (f * 30011 + y) % 2147483629, _, rfl, hf, by omega, by omega, rfl⟩
    · rintro sd S3 ⟨rfl, ys, f, u, e, hf, f0, f1, rfl⟩
      rcases ys with _ | ⟨y, ys⟩
      · (repeat regstrif_gather)
        exact ⟨by rw [← hf]; rfl, rfl⟩
      · cases e
    all_goals
      have m1 : 0 ≤ i * i := Int.mul_nonneg h0 h0
      have m2 : i * i ≤ 100 * 100 := Int.mul_le_mul (by omega) (by omega) h0 (by decide)
      have m3 : 40009 * i * i = 40009 * (i * i) := Int.mul_assoc _ _ _
      omega
theorem src_ok (z : Int) (S : List Ob) : Wp (sem__law_src [.int z]) S fun d S' => d = .ref S.length ∧ Tape S' S.length 0 := by
  have p18 : dPow (.int 10) (.int 18) = M.pure (.int 1000000000000000000) := by funext S; kernel_rfl
  have a := Int.emod_nonneg z (show (2147483629 : Int) ≠ 0 by decide)
  have b := Int.emod_lt_of_pos z (show (0 : Int) < 2147483629 by decide)
  have fin : ∀ w : Int, 0 ≤ w → D.ref S.length = D.ref S.length ∧ Tape (S ++ [.lst [.int w, .int (z % 2147483629), .int 0]]) S.length 0 := fun w hw => ⟨rfl, _, _, _, List.getElem?_concat_length, hw, a, b, by decide, by decide⟩
  (unfold sem__law_src; refine Ev.go_fn rfl ?_; unfold pk__law_src; simp only [Ev.slots, List.map_cons, List.map_nil, List.length_cons, List.length_nil, List.cons_append, List.nil_append, List.replicate, Nat.reduceSub, Nat.reduceAdd])
  (repeat regstrif_gather)
  refine ite_d (fun c => ?_) (fun c => ?_)
  · (repeat regstrif_gather)
    exact fin _ (by omega)
  · (repeat regstrif_gather)
    refine go_val p18 ?_
    (repeat regstrif_gather)
    refine ite_d (fun c => ?_) (fun c => ?_)
    · (repeat regstrif_gather)
      exact fin _ (by omega)
    · (repeat regstrif_gather)
      exact fin _ (by decide)
end K72
set_option maxRecDepth 100000
set_option maxHeartbeats 4000000
namespace K72
open PySem Ev
theorem law_sign_ok {k : Nat} (v w : Int × Int) (h1 : Sm k v.1) (h2 : Sm k v.2) (h3 : Sm k w.1) (h4 : Sm k w.2) (hk : k ≤ 10000) : sem__law_sign [pairD v, pairD w] = M.pure (.int (cmpP v w)) := by
  refine pure_wp fun S => ?_
  have b1 : Bd 10000 v.1 := bd_sm (h1.mono hk)
  have b2 : Bd 10000 v.2 := bd_sm (h2.mono hk)
  have b3 : Bd 10000 w.1 := bd_sm (h3.mono hk)
  have b4 : Bd 10000 w.2 := bd_sm (h4.mono hk)
  (unfold sem__law_sign; refine Ev.go_fn rfl ?_; unfold pk__law_sign; simp only [Ev.slots, List.map_cons, List.map_nil, List.length_cons, List.length_nil, List.cons_append, List.nil_append, List.replicate, Nat.reduceSub, Nat.reduceAdd])
  unfold pairD cmpP sgn
  (repeat regstrif_gather)
  refine ite_d (fun c => ?_) (fun c => ?_)
  · (repeat regstrif_gather)
    rw [if_pos (by omega)]
    exact ⟨rfl, rfl⟩
  · (repeat regstrif_gather)
    refine ite_d (fun d => ?_) (fun d => ?_)
    · (repeat regstrif_gather)
      rw [if_neg (by omega), if_pos (by omega)]
      exact ⟨rfl, rfl⟩
    · (repeat regstrif_gather)
      rw [if_neg (by omega), if_neg (by omega)]
      exact ⟨rfl, rfl⟩
theorem num_bd {p : D} (h : Pl p) (hn : numB p = true) : Nn (numV p) ∧ Sm 4500 (lowP (numV p)).1 ∧ Sm 4500 (lowP (numV p)).2 ∧ Nn (lowP (numV p)) := by
  obtain ⟨a, b, c⟩ := num_sm (h.shn hn) hn
  have nn : Nn (numV p) := ⟨a.1, b.1, c⟩
  obtain ⟨d, e⟩ := sm_low nn a b
  exact ⟨nn, d, e, nn.low⟩
theorem act_sm {r : List Pc} (h : Row r) {v : Int × Int} {k : Nat} (h1 : Sm k v.1) (h2 : Sm k v.2) : Sm (41 + k + 1) (act (mat r) v).1 ∧ Sm (41 + k + 1) (act (mat r) v).2 := by
  have s := h.s41
  exact ⟨(s.a.mul h1).add (s.b.mul h2), (s.c.mul h1).add (s.d.mul h2)⟩
theorem led_big {r : List Pc} (h : Row r) (v : Int × Int) (h1 : Sm 4500 v.1) (h2 : Sm 4500 v.2) : sem_led [(mat r).D, pairD v] = M.pure (pairD (act (mat r) v)) :=
  led_ok (k := 4500) _ v.1 v.2 (h.s41.mono (by decide)) h1 h2 (by decide)
section
variable {x0 x1 x2 x3 p : D} {w : Int}
theorem sb_no (h1 : Pl x1) (h2 : Pl x2) (h3 : Pl x3) (hp : Pl p) (h : (rowB x1 && resB x2 && resB x3 && numB p) = false) : sem_shows_bound [.tup [x0, x1, x2, x3], p, .int w] = M.pure (.bl false) := by
  refine pure_wp fun S => ?_
  have e3 := is_resistance_p h3
  have e4 := is_number_p hp
  cases hl : rowB x1 && resB x2 with
  | false =>
    have el := lad_no h1 h2 hl
    (unfold sem_shows_bound; refine Ev.go_fn rfl ?_; unfold pk_shows_bound; simp only [Ev.slots, List.map_cons, List.map_nil, List.length_cons, List.length_nil, List.cons_append, List.nil_append, List.replicate, Nat.reduceSub, Nat.reduceAdd])
    (repeat regstrif_gather)
    refine go_val el ?_
    (repeat regstrif_gather)
    (first | exact ⟨rfl, rfl⟩ | exact go_pure ⟨rfl, rfl⟩)
  | true =>
    obtain ⟨hr, hs⟩ := Bool.and_eq_true_iff.mp hl
    obtain ⟨r, hR, hn, e, el⟩ := lad_yes h1 h2 hr hs
    rw [hl, Bool.true_and] at h
    (unfold sem_shows_bound; refine Ev.go_fn rfl ?_; unfold pk_shows_bound; simp only [Ev.slots, List.map_cons, List.map_nil, List.length_cons, List.length_nil, List.cons_append, List.nil_append, List.replicate, Nat.reduceSub, Nat.reduceAdd])
    (repeat regstrif_gather)
    refine go_val el ?_
    (repeat regstrif_gather)
    refine go_val (r := .bl false) rfl ?_
    (repeat regstrif_gather)
    refine go_val e3 ?_
    cases hb : resB x3 with
    | false =>
      (repeat regstrif_gather)
      (first | exact ⟨rfl, rfl⟩ | exact go_pure ⟨rfl, rfl⟩)
    | true =>
      rw [hb, Bool.true_and] at h
      (repeat regstrif_gather)
      refine go_val e4 ?_
      rw [h]
      (repeat regstrif_gather)
      (first | exact ⟨rfl, rfl⟩ | exact go_pure ⟨rfl, rfl⟩)
end
end K72
set_option maxRecDepth 100000
set_option maxHeartbeats 4000000
namespace K72
open PySem Ev
def evens : List (Int × Int × Int) := [(1, 2, 2), (1, 6, 3), (1, 12, 4), (2, 4, 4), (2, 12, 6), (3, 6, 6), (4, 3, 6), (4, 8, 8), (5, 10, 10), (6, 12, 12), (8, 6, 12), (9, 4, 12)]
def evD : List D := evens.map fun x => .tup [.int x.1, .int x.2.1, .int x.2.2]
theorem evens_ok : ∀ x ∈ evens, 1 ≤ x.1 ∧ x.1 ≤ 12 ∧ 1 ≤ x.2.1 ∧ x.2.1 ≤ 12 ∧ x.1 ≤ x.2.2 ∧ x.2.2 ≤ 12 := by decide
theorem even_ix {k : Int} (k0 : 0 ≤ k) (k1 : k < 12) : ∃ a b e : Int, dIx (.lst evD) (.int k) = M.pure (.tup [.int a, .int b, .int e]) ∧ 1 ≤ a ∧ a ≤ 12 ∧ 1 ≤ b ∧ b ≤ 12 ∧ a ≤ e ∧ e ≤ 12 := by
  obtain ⟨d, hm, e⟩ := ix_mem evD (i := k) k0 (by show k < 12; omega)
  obtain ⟨x, hx, rfl⟩ := List.mem_map.mp hm
  obtain ⟨h1, h2, h3, h4, h5, h6⟩ := evens_ok x hx
  exact ⟨_, _, _, e, h1, h2, h3, h4, h5, h6⟩
def EndD (d : D) : Prop := d = .non ∨ ∃ i : Int, d = .int i ∧ 0 ≤ i ∧ i ≤ 12
theorem even_wp {S : List Ob} {n c : Nat} {P : D → List Ob → Prop} (h : Tape S n c) (hc : c ≤ 900000) (q : ∀ r d S', Row r → r ≠ [] → r.length ≤ 2 → EndD d → Tape S' n (c + 2) → P (.tup [rowT r, d]) S') : Wp (sem__law_even [.ref n]) S P := by
  have two_ok : ∀ {a b : Int} {x y : Bool}, 1 ≤ a → a ≤ 12 → 1 ≤ b → b ≤ 12 → Row [⟨x, a⟩, ⟨y, b⟩] := fun {a b x y} h1 h2 h3 h4 => ⟨fun p hp => by
    simp only [List.mem_cons, List.not_mem_nil, or_false] at hp
    rcases hp with rfl | rfl
    · exact ⟨h1, h2⟩
    · exact ⟨h3, h4⟩, by simp⟩
  (unfold sem__law_even; refine Ev.go_fn rfl ?_; unfold pk__law_even; simp only [Ev.slots, List.map_cons, List.map_nil, List.length_cons, List.length_nil, List.cons_append, List.nil_append, List.replicate, Nat.reduceSub, Nat.reduceAdd])
  refine gs_seq (gs_tg (go_bind (go_val (r := .lst evD) (by funext S; kernel_rfl) ?_)))
  (repeat regstrif_gather)
  refine pick_wp h (by omega) (by decide) (by decide) fun k S1 k0 k1 h1 => ?_
  obtain ⟨a, b, e, hx, a0, a1, b0, b1, e0, e1⟩ := even_ix k0 k1
  (repeat regstrif_gather)
  refine go_val hx ?_
  (repeat regstrif_gather)
  refine pick_wp h1 (by omega) (by decide) (by decide) fun k S2 k0 k1 h2 => ?_
  (repeat regstrif_gather)
  refine ite_d (fun z => ?_) (fun z => ?_)
  · (repeat regstrif_gather)
    exact q [⟨true, a⟩, ⟨false, b⟩] _ _ (two_ok a0 a1 b0 b1) (by simp) (by simp) (.inr ⟨e, rfl, by omega, e1⟩) h2
  · (repeat regstrif_gather)
    exact q [⟨false, b⟩, ⟨true, a⟩] _ _ (two_ok b0 b1 a0 a1) (by simp) (by simp) (.inr ⟨e - a, rfl, by omega, by omega⟩) h2
theorem some_row_wp {S : List Ob} {n c : Nat} {m : Int} {P : D → List Ob → Prop} (h : Tape S n c) (hc : c ≤ 850000) (m0 : 0 < m) (m8 : m ≤ 8) (q : ∀ r d S', Row r → r ≠ [] → r.length ≤ 2 + m → EndD d → Tape S' n (c + 18) → P (.tup [rowT r, d]) S') : Wp (sem__law_some_row [.ref n, .int m]) S P := by
  (unfold sem__law_some_row; refine Ev.go_fn rfl ?_; unfold pk__law_some_row; simp only [Ev.slots, List.map_cons, List.map_nil, List.length_cons, List.length_nil, List.cons_append, List.nil_append, List.replicate, Nat.reduceSub, Nat.reduceAdd])
  (repeat regstrif_gather)
  refine pick_wp h (by omega) (by decide) (by decide) fun k S1 k0 k1 h1 => ?_
  (repeat regstrif_gather)
  refine ite_d (fun z => ?_) (fun z => ?_)
  · (repeat regstrif_gather)
    refine even_wp h1 (by omega) fun r d S2 hr hn hl hd h2 => ?_
    exact q r d _ hr hn (by omega) hd (h2.mono (by omega))
  · (repeat regstrif_gather)
    refine anyrow_wp h1 (by omega) m0 m8 fun r S2 hr hn hl h2 => ?_
    (repeat regstrif_gather)
    exact q r _ _ hr hn (by omega) (.inl rfl) (h2.mono (by omega))
structure NP (k : Nat) (v : Int × Int) : Prop where
  t : Sm k v.1
  b : Sm k v.2
  n : numB (pairD v) = true
theorem NP.mono {j k : Nat} {v : Int × Int} (h : NP j v) (l : j ≤ k) : NP k v := ⟨h.t.mono l, h.b.mono l, h.n⟩
theorem numB_pos {a b : Int} (h : 0 ≤ a) (l : 0 < b) : numB (pairD (a, b)) = true := by
  show ((decide (0 ≤ a) && decide (1 ≤ b)) || (decide (a = 1) && decide (b = 0))) = true
  rw [decide_eq_true h, decide_eq_true (show 1 ≤ b from l)]
  rfl
theorem low_num {v : Int × Int} (n : Nn v) : numB (pairD (lowP v)) = true := by
  have nl := n.low
  have id := lowP_idem n.t n.b n.p
  rw [show (v.1, v.2) = v from rfl] at id
  generalize lowP v = w at *
  obtain ⟨a, b⟩ := w
  have h1 : 0 ≤ a := nl.t
  have h2 : 0 ≤ b := nl.b
  have h3 : 0 < a + b := nl.p
  rcases Int.lt_or_eq_of_le h2 with l | l
  · exact numB_pos h1 l
  · subst l
    have e : a / (Int.gcd a 0 : Int) = a := congrArg Prod.fst id
    rw [Int.gcd_zero, show ((a.natAbs : Nat) : Int) = a by omega, Int.ediv_self (by omega)] at e
    subst e
    rfl
theorem NP.pl {k : Nat} {v : Int × Int} (h : NP k v) (l : k ≤ 4500) : Pl (pairD v) := .tup _ (by simp) fun x hx => mem2 (.int _ (bd_sm (h.t.mono l))) (.int _ (bd_sm (h.b.mono l))) hx
end K72
set_option maxRecDepth 100000
set_option maxHeartbeats 4000000
namespace K72
open PySem Ev
theorem sl_take (r : List Pc) (i : Nat) : dSl (rowT r) none (some (i : Int)) = M.pure (rowT (r.take i)) := by
  show M.pure (D.tup (cutD (r.map Pc.D) none (some (i : Int)))) = _
  rw [cut_take (by omega), ← List.map_take]
  rfl
theorem sl_drop (r : List Pc) (i : Nat) : dSl (rowT r) (some ((i : Int) + 1)) none = M.pure (rowT (r.drop (i + 1))) := by
  show M.pure (D.tup (cutD (r.map Pc.D) (some ((i : Int) + 1)) none)) = _
  rw [cut_drop (by omega), ← List.map_drop]
  rfl
theorem add_row (a b : List Pc) (h : a.length + b.length ≤ 100) : dAdd (rowT a) (rowT b) = M.pure (rowT (a ++ b)) := by
  show (if (a.map Pc.D).length + (b.map Pc.D).length ≤ lim then M.pure (D.tup (a.map Pc.D ++ b.map Pc.D)) else M.stuck) = _
  rw [List.length_map, List.length_map, if_pos (by unfold lim; omega), ← List.map_append]
  rfl
theorem ix_row {r : List Pc} {i : Nat} (h : i < r.length) : dIx (rowT r) (.int (i : Int)) = M.pure r[i].D := by
  have e := ix_memT (r.map Pc.D) (i := i) (by rw [List.length_map]; exact h)
  rw [List.getElem_map] at e
  exact e
theorem row_mid {r : List Pc} (h : Row r) (i : Nat) {m : List Pc} (hm : ∀ p ∈ m, p.ok) (l : r.length + m.length ≤ 9) (hi : i < r.length) : Row (r.take i ++ m ++ r.drop (i + 1)) := by
  refine ⟨fun p hp => ?_, by rw [List.length_append, List.length_append, List.length_take, List.length_drop]; omega⟩
  rcases List.mem_append.mp hp with q | q
  · rcases List.mem_append.mp q with q | q
    · exact h.1 p (List.mem_of_mem_take q)
    · exact hm p q
  · exact h.1 p (List.mem_of_mem_drop q)
theorem Row.app {a b : List Pc} (ha : Row a) (hb : Row b) (l : a.length + b.length ≤ 8) : Row (a ++ b) :=
  ⟨fun p hp => (List.mem_append.mp hp).elim (ha.1 p) (hb.1 p), by rw [List.length_append]; exact l⟩
theorem near_wp {S : List Ob} {n c : Nat} {r : List Pc} {P : D → List Ob → Prop} (hr : Row r) (hn : r ≠ []) (h7 : r.length ≤ 7) (h : Tape S n c) (hc : c ≤ 800000) (q : ∀ r' S', Row r' → r' ≠ [] → Tape S' n (c + 40) → P (rowT r') S') : Wp (sem__law_near [.ref n, rowT r]) S P := by
  have l1 : 0 < r.length := by cases r with | nil => exact absurd rfl hn | cons a b => simp
  (unfold sem__law_near; refine Ev.go_fn rfl ?_; unfold pk__law_near; simp only [Ev.slots, List.map_cons, List.map_nil, List.length_cons, List.length_nil, List.cons_append, List.nil_append, List.replicate, Nat.reduceSub, Nat.reduceAdd])
  (repeat regstrif_gather)
  refine pick_wp h (by omega) (by decide) (by decide) fun w S1 w0 w1 h1 => ?_
  (repeat regstrif_gather)
  refine go_val (len_row r) ?_
  (repeat regstrif_gather)
  refine pick_wp h1 (by omega) (by omega) (by omega) fun pl S2 p0 p1 h2 => ?_
  obtain ⟨i, rfl⟩ : ∃ i : Nat, pl = i := ⟨pl.toNat, by omega⟩
  have hi : i < r.length := by omega
  (repeat regstrif_gather)
  refine pick_wp h2 (by omega) (by decide) (by decide) fun u S3 u0 u1 h3 => ?_
  (repeat regstrif_gather)
  refine anyrow_wp h3 (by omega) (by decide) (by decide) fun m S4 hm hmn hml h4 => ?_
  (repeat regstrif_gather)
  have hml : m.length ≤ 1 := by omega
  have rev := revX_row r
  have same : P (rowT r) S4 := q r _ hr hn (h4.mono (by omega))
  have fin : ∀ ms : List Pc, (∀ p ∈ ms, p.ok) → ms.length ≤ 2 → ms ≠ [] → P (rowT (r.take i ++ ms ++ r.drop (i + 1))) S4 := fun ms h1 h2 h3 => q _ _ (row_mid hr i h1 (by omega) hi) (by
    intro e
    have := congrArg List.length e
    rw [List.length_append, List.length_append] at this
    cases ms with
    | nil => exact h3 rfl
    | cons a b => simp at this) (h4.mono (by omega))
  refine ite_d (fun z => ?_) (fun z => ?_)
  · (repeat regstrif_gather)
    refine go_val rev ?_
    exact q r.reverse _ ⟨fun p hp => hr.1 p (List.mem_reverse.mp hp), by rw [List.length_reverse]; exact hr.2⟩ (by simpa using hn) (h4.mono (by omega))
  · (repeat regstrif_gather)
    refine ite_d (fun z => ?_) (fun z => ?_)
    · (repeat regstrif_gather)
      refine go_val (sl_take r i) ?_
      (repeat regstrif_gather)
      refine go_val (ix_row hi) ?_
      (repeat regstrif_gather)
      have e0 : dIx r[i].D (.int 0) = M.pure (.str r[i].w) := rfl
      refine go_val e0 ?_
      (repeat regstrif_gather)
      refine go_val (add_row (r.take i) [⟨r[i].rail, 1 + u⟩] (by simp; omega)) ?_
      (repeat regstrif_gather)
      refine go_val (sl_drop r i) ?_
      (repeat regstrif_gather)
      refine go_val (add_row (r.take i ++ [⟨r[i].rail, 1 + u⟩]) (r.drop (i + 1)) (by simp; omega)) ?_
      exact fin [⟨r[i].rail, 1 + u⟩] (fun p hp => by rw [List.mem_singleton.mp hp]; exact ⟨by show 1 ≤ 1 + u; omega, by show 1 + u ≤ 12; omega⟩) (by simp) (by simp)
    · (repeat regstrif_gather)
      refine ite_d (fun z => ?_) (fun z => ?_)
      · (repeat regstrif_gather)
        refine ite_d (fun z => ?_) (fun z => ?_)
        · (repeat regstrif_gather)
          refine go_val (add_row m r (by omega)) ?_
          exact q _ _ (hm.app hr (by omega)) (by simp [hn]) (h4.mono (by omega))
        · (repeat regstrif_gather)
          refine go_val (add_row r m (by omega)) ?_
          exact q _ _ (hr.app hm (by omega)) (by simp [hn]) (h4.mono (by omega))
      · (repeat regstrif_gather)
        refine ite_d (fun z => ?_) (fun z => ?_)
        · (repeat regstrif_gather)
          refine anyrow_wp h4 (by omega) (by decide) (by decide) fun m2 S5 hm2 hn2 _ h5 => ?_
          exact q _ _ hm2 hn2 (h5.mono (by omega))
        · (repeat regstrif_gather)
          refine go_val (ix_row hi) ?_
          have ok := hr.1 r[i] (List.getElem_mem hi)
          show Tg _ (.tup [.str r[i].w, .int r[i].o]) _ _ _
          refine tg_tup rfl (tl_cons (tg_set (tl_cons (tg_set (tl_nil ?_)))))
          simp only [List.set_cons_zero, List.set_cons_succ]
          (repeat regstrif_gather)
          refine ite_d (fun z => ?_) (fun z => ?_)
          · (repeat regstrif_gather)
            refine ite_d (fun z => ?_) (fun z => ?_)
            · (repeat regstrif_gather)
              refine go_val (sl_take r i) ?_
              (repeat regstrif_gather)
              refine go_val (add_row (r.take i) [⟨true, 1⟩, ⟨true, r[i].o - 1⟩] (by simp; omega)) ?_
              (repeat regstrif_gather)
              refine go_val (sl_drop r i) ?_
              (repeat regstrif_gather)
              refine go_val (add_row (r.take i ++ [⟨true, 1⟩, ⟨true, r[i].o - 1⟩]) (r.drop (i + 1)) (by simp; omega)) ?_
              refine fin [⟨true, 1⟩, ⟨true, r[i].o - 1⟩] (fun p hp => ?_) (by simp) (by simp)
              have := ok.1
              have := ok.2
              simp only [List.mem_cons, List.not_mem_nil, or_false] at hp
              rcases hp with rfl | rfl
              · exact ⟨by decide, by decide⟩
              · exact ⟨by show 1 ≤ r[i].o - 1; omega, by show r[i].o - 1 ≤ 12; omega⟩
            · (repeat regstrif_gather)
              exact same
          · (repeat regstrif_gather)
            exact same
end K72
set_option maxRecDepth 100000
set_option maxHeartbeats 4000000
namespace K72
open PySem Ev
theorem NP.nn {k : Nat} {v : Int × Int} (h : NP k v) (l : k ≤ 4500) : Nn v := (num_bd (h.pl l) h.n).1
theorem law_after_big {j : Nat} {r : List Pc} (h : Row r) {v : Int × Int} (h1 : Sm j v.1) (h2 : Sm j v.2) (nv : Nn v) (n : Nat) (hj : 42 * n + j ≤ 8900) : sem__law_after [rowT r, pairD v, .int n] = M.pure (pairD (valP r v n)) := by
  refine pure_wp fun S => ?_
  (unfold sem__law_after; refine Ev.go_fn rfl ?_; unfold pk__law_after; simp only [Ev.slots, List.map_cons, List.map_nil, List.length_cons, List.length_nil, List.cons_append, List.nil_append, List.replicate, Nat.reduceSub, Nat.reduceAdd])
  (repeat regstrif_gather)
  refine gs_loop (J := fun ds sd S' => S' = S ∧ ds.length ≤ n ∧ ∃ y : SV, sd = [.val (rowT r), .val (pairD v), .val (.int n), .val (pairD (wV r v (n - ds.length))), y]) ?_ ?_ _ _ _ ⟨rfl, by simp [rngD], .no, by simp [rngD, wV_0]⟩
  · rintro d ds sd S' ⟨rfl, hl, y, rfl⟩
    rw [List.length_cons] at hl ⊢
    refine ⟨_, _, rfl, ?_⟩
    obtain ⟨t1, t2⟩ := wV_sm h h1 h2 (n - (ds.length + 1))
    have e : n - ds.length = (n - (ds.length + 1)) + 1 := by omega
    (repeat regstrif_gather)
    refine go_val (law_led_ok (k := 42 * (n - (ds.length + 1)) + 41 + j + 1) h t1 t2 (by omega)) ?_
    (repeat regstrif_gather)
    refine ⟨rfl, by omega, .val d, ?_⟩
    rw [e, wV_S]
  · rintro sd S' ⟨rfl, _, y, rfl⟩
    obtain ⟨t1, t2⟩ := wV_sm h h1 h2 n
    have na := Nn.act (Mx.P.pow (mat_P h.1) n) nv
    (repeat regstrif_gather)
    refine go_val (ix0 _) ?_
    (repeat regstrif_gather)
    refine go_val (ix1 _) ?_
    (repeat regstrif_gather)
    exact go_val (law_lowest_ok (k := 42 * n + 41 + j + 1) _ _ t1 t2 na.p (by omega)) ⟨rfl, rfl⟩
theorem after_np {k : Nat} {r : List Pc} (hr : Row r) {v : Int × Int} (hv : NP k v) (n : Nat) (hk : 42 * n + k ≤ 4450) : sem__law_after [rowT r, pairD v, .int n] = M.pure (pairD (valP r v n)) ∧ NP (42 * n + 41 + k + 1) (valP r v n) := by
  have nv := hv.nn (by omega)
  obtain ⟨t1, t2⟩ := wV_sm hr hv.t hv.b n
  have na := Nn.act (Mx.P.pow (mat_P hr.1) n) nv
  obtain ⟨a, b⟩ := sm_low na t1 t2
  exact ⟨law_after_big hr hv.t hv.b nv n (by omega), a, b, low_num na⟩
theorem two_row {a b : Int} {x y : Bool} (h1 : 1 ≤ a) (h2 : a ≤ 12) (h3 : 1 ≤ b) (h4 : b ≤ 12) : Row [⟨x, a⟩, ⟨y, b⟩] := ⟨fun p hp => by
    simp only [List.mem_cons, List.not_mem_nil, or_false] at hp
    rcases hp with rfl | rfl
    · exact ⟨h1, h2⟩
    · exact ⟨h3, h4⟩, by simp⟩
end K72
set_option maxRecDepth 100000
set_option maxHeartbeats 4000000
namespace K72
open PySem Ev
theorem law_isqrt_ok {n s : Int} (h : IsRt n s) (b : n < 2 ^ 300) : sem__law_isqrt [.int n] = M.pure (.int s) := by
  refine pure_wp fun S => ?_
  have s0 := h.nn
  have n0 : 0 ≤ n := Int.le_trans (Int.mul_nonneg s0 s0) h.le
  (unfold sem__law_isqrt; refine Ev.go_fn rfl ?_; unfold pk__law_isqrt; simp only [Ev.slots, List.map_cons, List.map_nil, List.length_cons, List.length_nil, List.cons_append, List.nil_append, List.replicate, Nat.reduceSub, Nat.reduceAdd])
  (repeat regstrif_gather)
  refine gs_iter (J := fun f sd S' => S' = S ∧ ∃ i : Nat, sd = [.val (.int n), .val (.int 0), .val (.int (2 ^ i))] ∧ i + f = 160 ∧ i ≤ 160) ?_ 160 _ _ (by decide) ⟨rfl, 0, rfl, by decide, by decide⟩
  rintro f sd S' ⟨rfl, i, rfl, hi, il⟩
  have bi : Bd (i + 1) ((2 : Int) ^ i) := .mk (by
    rw [Int.natAbs_pow]
    exact Nat.pow_lt_pow_right (by decide) (by omega))
  have p0 : (0 : Int) < 2 ^ i := Int.pow_pos (by decide)
  have sq : (2 : Int) ^ i * 2 ^ i = 2 ^ (2 * i) := by rw [Nat.two_mul, Int.pow_add]
  (repeat regstrif_gather)
  refine ite_d (fun c => ?_) (fun c => ?_)
  · have i150 : i < 150 := by
      rcases Nat.lt_or_ge i 150 with z | z
      · exact z
      · have : (2 : Int) ^ 300 ≤ 2 ^ (2 * i) := by exact_mod_cast Nat.pow_le_pow_right (by decide) (by omega)
        omega
    (repeat regstrif_gather)
    have e : (2 : Int) * 2 ^ i = 2 ^ (i + 1) := by rw [Int.pow_succ, Int.mul_comm]
    rw [e]
    exact ⟨f - 1, by omega, rfl, i + 1, rfl, by omega, by omega⟩
  · (repeat regstrif_gather)
    have big : (2 : Int) ^ i < 2 ^ 170 := by exact_mod_cast Nat.pow_lt_pow_right (by decide) (show i < 170 by omega)
    have bk : ∀ x : Int, 0 ≤ x → x * x ≤ n → Bd 170 x := by
      obtain ⟨K, hK, K0, KK⟩ : ∃ K : Int, K = 2 ^ 170 ∧ 0 < K ∧ 2 ^ 300 < K * K := ⟨2 ^ 170, rfl, by decide +kernel, by decide +kernel⟩
      intro x h1 h2
      have lt : x < K := by
        rcases Int.lt_or_le x K with z | z
        · exact z
        · have m := Int.mul_le_mul z z (Int.le_of_lt K0) h1
          exact absurd (Int.lt_of_lt_of_le (Int.lt_trans b KK) (Int.le_trans m h2)) (Int.lt_irrefl _)
      rw [hK] at lt
      exact .mk (by omega)
    have c := Int.not_le.mp c
    clear b big bi
    refine gs_iter (J := fun f sd S2 => S2 = S' ∧ ∃ root part : Int, sd = [.val (.int n), .val (.int root), .val (.int part)] ∧ 0 ≤ root ∧ root * root ≤ n ∧ ((∃ j : Nat, part = 2 ^ j ∧ j + 1 = f ∧ j ≤ 160 ∧ n < (root + 2 * part) * (root + 2 * part)) ∨ (part = 0 ∧ n < (root + 1) * (root + 1)))) ?_ (i + 1) _ _ (by unfold bigW; omega) ⟨rfl, 0, 2 ^ i, rfl, by decide, by omega, .inl ⟨i, rfl, rfl, il, ?_⟩⟩
    · rintro f sd S2 ⟨rfl, root, part, rfl, r0, r1, q⟩
      rcases q with ⟨j, rfl, hj, jl, q⟩ | ⟨rfl, q⟩
      · have pj : (0 : Int) < 2 ^ j := Int.pow_pos (by decide)
        have bj : Bd 170 ((2 : Int) ^ j) := .mk (by
          rw [Int.natAbs_pow]
          exact Nat.pow_lt_pow_right (by decide) (by omega))
        have br := bk root r0 r1
        have half : (j = 0 ∧ (2 : Int) ^ j / 2 = 0 ∧ (2 : Int) ^ j = 1) ∨ ∃ k, j = k + 1 ∧ (2 : Int) ^ j / 2 = 2 ^ k ∧ (2 : Int) ^ j = 2 * 2 ^ k := by
          rcases j with _ | k
          · exact .inl ⟨rfl, by decide, by decide⟩
          · have e : (2 : Int) ^ (k + 1) = 2 * 2 ^ k := by rw [Int.pow_succ, Int.mul_comm]
            exact .inr ⟨k, rfl, by omega, e⟩
        generalize (2 : Int) ^ j = P at *
        (repeat regstrif_gather)
        refine ite_d (fun c => ?_) (fun c => ?_)
        · (repeat regstrif_gather)
          rcases half with ⟨rfl, e, e1⟩ | ⟨k, rfl, e, e1⟩
          · rw [e]
            refine ⟨0, by omega, rfl, _, _, rfl, by omega, c, .inr ⟨rfl, ?_⟩⟩
            rw [e1] at q ⊢
            rw [show root + 1 + 1 = root + 2 * 1 by omega]
            exact q
          · rw [e]
            refine ⟨k + 1, by omega, rfl, _, _, rfl, by omega, c, .inl ⟨k, rfl, rfl, by omega, ?_⟩⟩
            rw [← e1, show root + P + P = root + 2 * P by omega]
            exact q
        · have c := Int.not_le.mp c
          (repeat regstrif_gather)
          rcases half with ⟨rfl, e, e1⟩ | ⟨k, rfl, e, e1⟩
          · rw [e]
            refine ⟨0, by omega, rfl, _, _, rfl, r0, r1, .inr ⟨rfl, ?_⟩⟩
            rw [e1] at c
            exact c
          · rw [e]
            refine ⟨k + 1, by omega, rfl, _, _, rfl, r0, r1, .inl ⟨k, rfl, rfl, by omega, ?_⟩⟩
            rw [← e1]
            exact c
      · (repeat regstrif_gather)
        have e : root = s := IsRt.uniq ⟨r0, r1, q⟩ h
        subst e
        exact ⟨rfl, rfl⟩
    · rw [Int.zero_add]
      have : (2 : Int) ^ i * 2 ^ i ≤ 2 * 2 ^ i * (2 * 2 ^ i) := Int.mul_le_mul (by omega) (by omega) (by omega) (by omega)
      omega
theorem act_10 (m : Mx) : act m (1, 0) = (m.a, m.c) := by
  show (m.a * 1 + m.b * 0, m.c * 1 + m.d * 0) = _
  rw [Int.mul_one, Int.mul_zero, Int.add_zero, Int.mul_one, Int.mul_zero, Int.add_zero]
theorem act_01 (m : Mx) : act m (0, 1) = (m.b, m.d) := by
  show (m.a * 0 + m.b * 1, m.c * 0 + m.d * 1) = _
  rw [Int.mul_one, Int.mul_zero, Int.zero_add, Int.mul_one, Int.mul_zero, Int.zero_add]
theorem led_10 {r : List Pc} (h : Row r) : sem__law_led [rowT r, .tup [.int 1, .int 0]] = M.pure (.tup [.int (mat r).a, .int (mat r).c]) := by
  have e := law_led_ok (k := 1) h (v := (1, 0)) ⟨by decide, by decide⟩ ⟨by decide, by decide⟩ (by decide)
  rw [act_10] at e
  exact e
theorem led_01 {r : List Pc} (h : Row r) : sem__law_led [rowT r, .tup [.int 0, .int 1]] = M.pure (.tup [.int (mat r).b, .int (mat r).d]) := by
  have e := law_led_ok (k := 1) h (v := (0, 1)) ⟨by decide, by decide⟩ ⟨by decide, by decide⟩ (by decide)
  rw [act_01] at e
  exact e
def limV (r : List Pc) : List Int := if (mat r).c = 0 then [1, 0] else [(Nm r).1, (Nm r).2.1, (Nm r).2.2]
theorem law_limit_ok {r : List Pc} (hr : Row r) : sem__law_limit [rowT r] = M.pure (.tup ((limV r).map D.int)) := by
  refine pure_wp fun S => ?_
  have e10 := led_10 hr
  have e01 := led_01 hr
  have eq := row_eqn hr
  obtain ⟨⟨⟨a1, a2⟩, ⟨b1, b2⟩, ⟨c1, c2⟩, ⟨d1, d2⟩⟩, s1, s2⟩ := hr.sm41
  unfold limV Nm
  generalize mat r = m at *
  obtain ⟨ma, mb, mc, md⟩ := m
  simp only at *
  (unfold sem__law_limit; refine Ev.go_fn rfl ?_; unfold pk__law_limit; simp only [Ev.slots, List.map_cons, List.map_nil, List.length_cons, List.length_nil, List.cons_append, List.nil_append, List.replicate, Nat.reduceSub, Nat.reduceAdd])
  (repeat regstrif_gather)
  refine go_val e10 ?_
  refine tg_tup rfl (tl_cons (tg_set (tl_cons (tg_set (tl_nil ?_)))))
  simp only [List.set_cons_zero, List.set_cons_succ]
  (repeat regstrif_gather)
  refine go_val e01 ?_
  refine tg_tup rfl (tl_cons (tg_set (tl_cons (tg_set (tl_nil ?_)))))
  simp only [List.set_cons_zero, List.set_cons_succ]
  (repeat regstrif_gather)
  refine ite_d (fun cc => ?_) (fun cc => ?_)
  · (repeat regstrif_gather)
    rw [if_pos cc]
    exact ⟨rfl, rfl⟩
  · rw [if_neg cc]
    (repeat regstrif_gather)
    refine ite_d (fun cb => ?_) (fun cb => ?_)
    · (repeat regstrif_gather)
      rw [if_pos cb]
      exact ⟨rfl, rfl⟩
    · rw [if_neg cb]
      have h := eq cc cb
      obtain ⟨w0, w1⟩ := wth_bd h
      have ro := law_isqrt_ok (rt_is w0) (Int.lt_trans w1 (by decide +kernel))
      have lo : ∀ t u : Int, 0 ≤ t → 0 ≤ u → 0 < t + u → t < 2 ^ 300 → u < 2 ^ 300 → sem__law_lowest [.int t, .int u] = M.pure (pairD (lowP (t, u))) := fun t u h1 h2 h3 b1 b2 => law_lowest_ok (k := 300) t u ⟨h1, b1⟩ ⟨h2, b2⟩ h3 (by decide)
      have ca : 0 < mc := by omega
      have rb := rt_big h ca
      have rl : rt (wth mc (md - ma) mb) < 2 ^ 145 := rt_lt (rt_is w0) w1
      have rp := (rt_is w0).nn
      have hw : wth mc (md - ma) mb = (md - ma) * (md - ma) + 4 * mb * mc := by
        unfold wth
        rw [Int.mul_assoc 4 mc mb, Int.mul_comm mc mb, ← Int.mul_assoc]
      obtain ⟨q, hq⟩ : ∃ q, q = md - ma := ⟨_, rfl⟩
      have qb : -(2 ^ 41) < q ∧ q < 2 ^ 41 := by omega
      have bq : Bd 140 (md - ma) := .mk (by omega)
      have bq2 : Bd 140 q := .mk (by omega)
      have bb : Bd 140 mb := .mk (by omega)
      have bc : Bd 140 mc := .mk (by omega)
      have b4 : Bd 3 (4 : Int) := .mk (by decide)
      have br : Bd 145 (rt (wth mc (md - ma) mb)) := .mk (by omega)
      unfold norm
      rw [if_neg cc]
      (repeat regstrif_gather)
      rw [← hw]
      refine go_val ro ?_
      (repeat regstrif_gather)
      refine ite_d (fun cr => ?_) (fun cr => ?_)
      · rw [if_pos cr]
        (repeat regstrif_gather)
        rw [show rt (wth mc (md - ma) mb) + ma - md = rt (wth mc (md - ma) mb) - (md - ma) by omega]
        refine go_val (lo (rt (wth mc (md - ma) mb) - (md - ma)) (2 * mc) (by omega) (by omega) (by omega) (by omega) (by omega)) ?_
        unfold pairD
        refine tg_tup rfl (tl_cons (tg_set (tl_cons (tg_set (tl_nil ?_)))))
        simp only [List.set_cons_zero, List.set_cons_succ]
        (repeat regstrif_gather)
        exact ⟨rfl, rfl⟩
      · rw [if_neg cr]
        rw [← hq]
        have dg : (Int.gcd mc q.natAbs : Int) ∣ mc := Int.gcd_dvd_left _ _
        have gp : 0 < (Int.gcd mc q.natAbs : Int) := by
          have := Int.gcd_pos_of_ne_zero_left (q.natAbs : Int) cc
          omega
        have gg := Int.le_of_dvd ca dg
        obtain ⟨G, hG⟩ : ∃ G : Int, G = (Int.gcd mc q.natAbs : Int) := ⟨_, rfl⟩
        rw [← hG] at dg gp gg ⊢
        have dh : (Int.gcd G mb : Int) ∣ G := Int.gcd_dvd_left _ _
        have hp : 0 < (Int.gcd G mb : Int) := by
          have := Int.gcd_pos_of_ne_zero_left mb (show G ≠ 0 by omega)
          omega
        have e1 : mc / (lowP (mc, q.natAbs)).1 = G := by
          show mc / (mc / (Int.gcd mc q.natAbs : Int)) = G
          rw [← hG]
          exact div_back ca gp dg
        have e2 : G / (lowP (G, mb)).1 = (Int.gcd G mb : Int) := by
          show G / (G / (Int.gcd G mb : Int)) = _
          exact div_back gp hp dh
        have x1 : 0 < (lowP (mc, q.natAbs)).1 := by
          show 0 < mc / (Int.gcd mc q.natAbs : Int)
          rw [← hG]
          exact Int.ediv_pos_of_pos_of_dvd ca (by omega) dg
        have x2 : 0 < (lowP (G, mb)).1 := by
          show 0 < G / (Int.gcd G mb : Int)
          exact Int.ediv_pos_of_pos_of_dvd gp (by omega) dh
        have y1 : (lowP (mc, q.natAbs)).1 ≤ mc := by
          show mc / (Int.gcd mc q.natAbs : Int) ≤ mc
          rw [← hG]
          exact Int.ediv_le_self _ (by omega)
        have y2 : (lowP (G, mb)).1 ≤ G := by
          show G / (Int.gcd G mb : Int) ≤ G
          exact Int.ediv_le_self _ (by omega)
        have h1 := lo mc q.natAbs (by omega) (by omega) (by omega) (by omega) (by omega)
        have h2 := lo G mb (by omega) (by omega) (by omega) (by omega) (by omega)
        generalize lowP (mc, (q.natAbs : Int)) = L1 at *
        generalize lowP (G, mb) = L2 at *
        have bG : Bd 140 G := .mk (by omega)
        have bL1 : Bd 140 L1.1 := .mk (by omega)
        have bL2 : Bd 140 L2.1 := .mk (by omega)
        have bH : Bd 140 (Int.gcd G mb : Int) := .mk (by have := Int.le_of_dvd gp dh; omega)
        (repeat regstrif_gather)
        rw [← hq]
        refine go_val h1 ?_
        (repeat regstrif_gather)
        refine go_val (ix0 L1) ?_
        (repeat regstrif_gather)
        rw [e1]
        (repeat regstrif_gather)
        refine go_val h2 ?_
        (repeat regstrif_gather)
        refine go_val (ix0 L2) ?_
        (repeat regstrif_gather)
        rw [e2]
        (repeat regstrif_gather)
        subst hq
        exact ⟨rfl, rfl⟩
end K72
set_option maxRecDepth 100000
set_option maxHeartbeats 4000000
namespace K72
open PySem Ev
theorem eqn_prop (v : Int × Int × Int) : sem_Exact_equation [exD v] = M.pure (tri v) := by
  refine pure_wp fun S => ?_
  (unfold sem_Exact_equation; refine Ev.go_fn rfl ?_; unfold pk_Exact_equation; simp only [Ev.slots, List.map_cons, List.map_nil, List.length_cons, List.length_nil, List.cons_append, List.nil_append, List.replicate, Nat.reduceSub, Nat.reduceAdd])
  (repeat regstrif_gather)
  exact go_val (r := tri v) rfl ⟨rfl, rfl⟩
theorem lad_attr {r : List Pc} (h : Row r) (v : Int × Int) : attr (tab [(5, .prop sem_Ladder_limit)]) (ladD r v) = M.pure (limD r) := by
  show noErr (sem_Ladder_limit [ladD r v]) = _
  rw [lad_limit h v]
  rfl
theorem eq_attr (v : Int × Int × Int) : attr (tab [(2, .prop sem_Exact_equation)]) (exD v) = M.pure (tri v) := by
  show noErr (sem_Exact_equation [exD v]) = _
  rw [eqn_prop v]
  rfl
theorem norm_few {a b c : Int} (h : Eqn a b c) (ha : a < 2 ^ 41) (hb0 : -(2 ^ 41) < b) (hb1 : b < 2 ^ 41) (hc : c < 2 ^ 41) : Bd 50 (norm a b c).1 ∧ Bd 50 (norm a b c).2.1 ∧ Bd 50 (norm a b c).2.2 := by
  have h' := h
  obtain ⟨a0, a1, b0, b1, c0, c1, z, p⟩ := h'
  have z0 : Bd 50 (0 : Int) := .mk (by decide)
  by_cases ca : a = 0
  · have b2 := z ca
    unfold norm
    rw [if_pos ca]
    obtain ⟨s1, s2⟩ := low_sm (k := 50) (t := c) (b := b) ⟨by omega, by omega⟩ ⟨by omega, by omega⟩ (by omega)
    exact ⟨z0, bd_sm s2, bd_sm s1⟩
  · have ca' : 0 < a := by omega
    have rb := rt_big h ca'
    obtain ⟨K, hK⟩ : ∃ K : Int, K = 2 ^ 41 := ⟨_, rfl⟩
    have rl : rt (wth a b c) < 3 * K := rt_small (rt_is (wth_bd h).1) (by omega) (by
      have m1 : 0 ≤ (K - b) * (K + b) := Int.mul_nonneg (by omega) (by omega)
      have m2 : a * c ≤ K * K := Int.mul_le_mul (by omega) (by omega) c0 (by omega)
      unfold wth
      have e : (K - b) * (K + b) = K * K - b * b := by grind
      have e2 : 4 * a * c = 4 * (a * c) := by grind
      omega)
    by_cases sq : rt (wth a b c) * rt (wth a b c) = wth a b c
    · rw [norm_sq ca sq]
      obtain ⟨s1, s2⟩ := low_sm (k := 50) (t := rt (wth a b c) - b) (b := 2 * a) ⟨by omega, by omega⟩ ⟨by omega, by omega⟩ (by omega)
      exact ⟨z0, bd_sm s2, bd_sm s1⟩
    · rw [norm_no ca sq]
      have b1 : Bd 50 a := .mk (by omega)
      have b2 : Bd 50 b := .mk (by omega)
      have b3 : Bd 50 c := .mk (by omega)
      exact ⟨Bd.ediv b1, Bd.ediv b2, Bd.ediv b3⟩
theorem limV_few {r : List Pc} (h : Row r) : ∀ i ∈ limV r, Bd 50 i := by
  intro i hi
  unfold limV at hi
  split at hi
  · simp only [List.mem_cons, List.not_mem_nil, or_false] at hi
    rcases hi with rfl | rfl <;> exact .mk (by decide)
  · rename_i hc
    have all : Bd 50 (Nm r).1 ∧ Bd 50 (Nm r).2.1 ∧ Bd 50 (Nm r).2.2 := by
      unfold Nm
      split
      · exact ⟨.mk (by decide), .mk (by decide), .mk (by decide)⟩
      · rename_i hb
        have e := row_eqn h hc hb
        obtain ⟨⟨⟨a1, a2⟩, ⟨b1, b2⟩, ⟨c1, c2⟩, ⟨d1, d2⟩⟩, s1, s2⟩ := h.sm41
        exact norm_few e (by omega) (by omega) (by omega) (by omega)
    simp only [List.mem_cons, List.not_mem_nil, or_false] at hi
    rcases hi with rfl | rfl | rfl
    · exact all.1
    · exact all.2.1
    · exact all.2.2
theorem limV_in {r : List Pc} (h : Row r) {i : Int} (hi : i ∈ limV r) : btw (.int i) (-MOSTI) MOSTI = true := by
  have b := (limV_few h i hi).nat
  show (decide (-MOSTI ≤ i) && decide (i ≤ MOSTI)) = true
  unfold MOSTI
  rw [decide_eq_true (by omega), decide_eq_true (by omega)]
  rfl
theorem eq_ints (is js : List Int) : dEq false (.tup (is.map D.int)) (.tup (js.map D.int)) = M.pure (.bl (decide (is = js))) :=
  eq_pln false (pln_tup (pll_map (g := PyData.int) fun _ _ => pln_int)) (pln_tup (pll_map (g := PyData.int) fun _ _ => pln_int)) (by decide) (by decide) (P := is = js) (by
    rw [PyData.tuple.injEq]
    exact List.map_inj_right fun x y e => by injection e) rfl
theorem ints_of : ∀ {ds : List D}, ds.all isI = true → ∃ is : List Int, ds = is.map D.int
  | [], _ => ⟨[], rfl⟩
  | d :: ds, h => by
    rw [List.all_cons, Bool.and_eq_true_iff] at h
    obtain ⟨i, rfl⟩ := isI_int h.1
    obtain ⟨is, rfl⟩ := ints_of h.2
    exact ⟨i :: is, rfl⟩
theorem btw_isI {ds : List D} {a b : Int} (h : ds.all isI = false) : (ds.all fun d => btw d a b) = false := by
  rcases hb : (ds.all fun d => btw d a b) with _ | _
  · rfl
  · rw [List.all_eq_true] at hb
    have : ds.all isI = true := List.all_eq_true.mpr fun d hd => by
      have := hb d hd
      rcases hi : isI d with _ | _
      · rw [btw_no hi] at this
        cases this
      · rfl
    rw [this] at h
    cases h
structure Pap (p : D) : Prop where
  pl : Pl p
  ne : dNeZ p (.tup []) = M.pure (.bl (!nilT p))
  nn : numB p = false
def tiB : D → Bool
  | .tup ds => ds.all isI
  | _ => false
section
variable {x0 x1 x2 x3 x4 p d : D} {z : Str}
theorem opn_tri (r : List Pc) : (.tup ((limV r).map D.int) : D) = if (mat r).c = 0 then .tup [.int 1, .int 0] else tri (Nm r) := by
  unfold limV
  split <;> rfl
theorem sl_no (h1 : Pl x1) (h2 : Pl x2) (h3 : Pl x3) (hp : Pap p) (h : (rowB x1 && resB x2 && nilT p && tiB x3) = false) : sem_shows_limit [.tup [x0, x1, x2, x3], p] = M.pure (.bl false) := by
  refine pure_wp fun S => ?_
  cases hl : rowB x1 && resB x2 with
  | false =>
    have el := lad_no h1 h2 hl
    (unfold sem_shows_limit; refine Ev.go_fn rfl ?_; unfold pk_shows_limit; simp only [Ev.slots, List.map_cons, List.map_nil, List.length_cons, List.length_nil, List.cons_append, List.nil_append, List.replicate, Nat.reduceSub, Nat.reduceAdd])
    (repeat regstrif_gather)
    refine go_val el ?_
    (repeat regstrif_gather)
    (first | exact ⟨rfl, rfl⟩ | exact go_pure ⟨rfl, rfl⟩)
  | true =>
    obtain ⟨hr, hs⟩ := Bool.and_eq_true_iff.mp hl
    obtain ⟨r, hR, hn, e, el⟩ := lad_yes h1 h2 hr hs
    rw [hl, Bool.true_and] at h
    (unfold sem_shows_limit; refine Ev.go_fn rfl ?_; unfold pk_shows_limit; simp only [Ev.slots, List.map_cons, List.map_nil, List.length_cons, List.length_nil, List.cons_append, List.nil_append, List.replicate, Nat.reduceSub, Nat.reduceAdd])
    (repeat regstrif_gather)
    refine go_val el ?_
    (repeat regstrif_gather)
    refine go_val (r := .bl false) rfl ?_
    (repeat regstrif_gather)
    refine go_val hp.ne ?_
    cases hq : nilT p with
    | false =>
      (repeat regstrif_gather)
      (first | exact ⟨rfl, rfl⟩ | exact go_pure ⟨rfl, rfl⟩)
    | true =>
      rw [hq, Bool.true_and] at h
      (repeat regstrif_gather)
      rcases h3.tup? with ⟨ds, rfl, l, hds⟩ | ⟨t1, t2⟩
      · (refine go_val (isa_t rfl) ?_; simp only [tyB]; (repeat regstrif_gather))
        refine go_map (f := fun d => .bl (isI d)) ds (fun x hx => ⟨_, rfl, rfl, ?_⟩) (by unfold lim; omega) ?_
        · refine pure_wp fun S => ?_
          have px := hds x hx
          rcases px.int? with ⟨i, rfl, _⟩ | ⟨b, rfl⟩ | ⟨k1, k2⟩
          · (repeat regstrif_gather)
            (refine go_val (isa_t rfl) ?_; simp only [tyB]; (repeat regstrif_gather))
            (refine go_val (isa_t rfl) ?_; simp only [tyB]; (repeat regstrif_gather))
            (first | exact ⟨rfl, rfl⟩ | exact go_pure ⟨rfl, rfl⟩)
          · (repeat regstrif_gather)
            (refine go_val (isa_t rfl) ?_; simp only [tyB]; (repeat regstrif_gather))
            (refine go_val (isa_t rfl) ?_; simp only [tyB]; (repeat regstrif_gather))
            (first | exact ⟨rfl, rfl⟩ | exact go_pure ⟨rfl, rfl⟩)
          · (repeat regstrif_gather)
            refine go_val (isa_p px _) ?_
            rw [k1, k2]
            (repeat regstrif_gather)
            (first | exact ⟨rfl, rfl⟩ | exact go_pure ⟨rfl, rfl⟩)
        (repeat regstrif_gather)
        refine go_val (all_map isI ds) ?_
        rw [show ds.all isI = false from h]
        (repeat regstrif_gather)
        (first | exact ⟨rfl, rfl⟩ | exact go_pure ⟨rfl, rfl⟩)
      · refine go_val (isa_p h3 _) ?_
        rw [t1]
        (repeat regstrif_gather)
        (first | exact ⟨rfl, rfl⟩ | exact go_pure ⟨rfl, rfl⟩)
theorem sl_yes {is : List Int} (h1 : Pl x1) (h2 : Pl x2) (h3 : Pl (.tup (is.map D.int))) (hr : rowB x1 = true) (hs : resB x2 = true) : ∃ r, Row r ∧ x1 = rowT r ∧ sem_shows_limit [.tup [x0, x1, x2, .tup (is.map D.int)], .tup []] = M.pure (.bl (decide (is = limV r))) := by
  obtain ⟨r, hR, hn, e, el⟩ := lad_yes h1 h2 hr hs
  refine ⟨r, hR, e, pure_wp fun S => ?_⟩
  have eq := eq_ints is (limV r)
  rw [opn_tri] at eq
  have la := lad_attr hR (lowP (numV x2))
  have hp : dNeZ (.tup []) (.tup []) = M.pure (.bl false) := rfl
  have ai : (is.map D.int).all isI = true := List.all_eq_true.mpr fun x hx => by
    obtain ⟨i, _, rfl⟩ := List.mem_map.mp hx
    rfl
  rw [limD_eq] at la
  have l100 : (is.map D.int).length ≤ 100 := by cases h3 with | tup _ l _ => exact l
  (unfold sem_shows_limit; refine Ev.go_fn rfl ?_; unfold pk_shows_limit; simp only [Ev.slots, List.map_cons, List.map_nil, List.length_cons, List.length_nil, List.cons_append, List.nil_append, List.replicate, Nat.reduceSub, Nat.reduceAdd])
  (repeat regstrif_gather)
  refine go_val el ?_
  (repeat regstrif_gather)
  refine go_val (r := .bl false) rfl ?_
  (repeat regstrif_gather)
  refine go_val hp ?_
  (repeat regstrif_gather)
  (refine go_val (isa_t rfl) ?_; simp only [tyB]; (repeat regstrif_gather))
  refine go_map (f := fun d => .bl (isI d)) (is.map D.int) (fun x hx => ⟨_, rfl, rfl, ?_⟩) (by unfold lim; omega) ?_
  · obtain ⟨i, _, rfl⟩ := List.mem_map.mp hx
    refine pure_wp fun S => ?_
    (repeat regstrif_gather)
    (refine go_val (isa_t rfl) ?_; simp only [tyB]; (repeat regstrif_gather))
    (refine go_val (isa_t rfl) ?_; simp only [tyB]; (repeat regstrif_gather))
    (first | exact ⟨rfl, rfl⟩ | exact go_pure ⟨rfl, rfl⟩)
  (repeat regstrif_gather)
  refine go_val (all_map isI _) ?_
  rw [ai]
  (repeat regstrif_gather)
  refine go_val la ?_
  have ea := eq_attr (Nm r)
  cases hc : decide ((mat r).c = 0) with
  | true =>
    have hc := of_decide_eq_true hc
    rw [if_pos hc] at eq la ⊢
    (repeat regstrif_gather)
    refine go_val (r := .bl false) rfl ?_
    (repeat regstrif_gather)
    exact go_val eq ⟨rfl, rfl⟩
  | false =>
    have hc := of_decide_eq_false hc
    rw [if_neg hc] at eq la ⊢
    (repeat regstrif_gather)
    refine go_val (r := .bl true) rfl ?_
    (repeat regstrif_gather)
    refine go_val la ?_
    refine go_val ea ?_
    (repeat regstrif_gather)
    exact go_val eq ⟨rfl, rfl⟩
end
end K72
set_option maxRecDepth 100000
set_option maxHeartbeats 4000000
namespace K72
open PySem Ev
section
variable {x0 x1 x2 x3 x4 p d : D} {z : Str}
theorem neZ_str {y : Str} (n : z ≠ y) : dNeZ (.str z) (.str y) = M.pure (.bl true) := by
  show M.pure (D.bl (!decide (z = y))) = _
  rw [decide_eq_false n]
  rfl
theorem neZ_more : dNeZ (.str "more") (.str "more") = M.pure (.bl false) := rfl
theorem due_not (h : Pl d) (hn : ∀ ds, d ≠ .tup ds) : sem__law_due [d, p] = M.pure (.bl false) := by
  refine pure_wp fun S => ?_
  rcases h.tup? with ⟨ds, rfl, _⟩ | ⟨h1, _⟩
  · exact absurd rfl (hn _)
  · (unfold sem__law_due; refine Ev.go_fn rfl ?_; unfold pk__law_due; simp only [Ev.slots, List.map_cons, List.map_nil, List.length_cons, List.length_nil, List.cons_append, List.nil_append, List.replicate, Nat.reduceSub, Nat.reduceAdd])
    (repeat regstrif_gather)
    refine go_val (isa_p h _) ?_
    rw [h1]
    (repeat regstrif_gather)
    (first | exact ⟨rfl, rfl⟩ | exact go_pure ⟨rfl, rfl⟩)
theorem due_pap {ds : List D} (hp : Pap p) (hq : nilT p = false) : sem__law_due [.tup ds, p] = M.pure (.bl false) := by
  refine pure_wp fun S => ?_
  (unfold sem__law_due; refine Ev.go_fn rfl ?_; unfold pk__law_due; simp only [Ev.slots, List.map_cons, List.map_nil, List.length_cons, List.length_nil, List.cons_append, List.nil_append, List.replicate, Nat.reduceSub, Nat.reduceAdd])
  (repeat regstrif_gather)
  (refine go_val (isa_t rfl) ?_; simp only [tyB]; (repeat regstrif_gather))
  refine ite_d (fun z => ?_) (fun z => ?_)
  · (repeat regstrif_gather)
    (first | exact ⟨rfl, rfl⟩ | exact go_pure ⟨rfl, rfl⟩)
  · (repeat regstrif_gather)
    rcases hp.pl.tup? with ⟨es, rfl, l, _⟩ | ⟨t1, t2⟩
    · (refine go_val (isa_t rfl) ?_; simp only [tyB]; (repeat regstrif_gather))
      refine ite_d (fun z => ?_) (fun z => ?_)
      · (repeat regstrif_gather)
        (first | exact ⟨rfl, rfl⟩ | exact go_pure ⟨rfl, rfl⟩)
      · cases es with
        | nil => cases hq
        | cons a es =>
          simp only [List.length_cons] at z
          omega
    · refine go_val (isa_p hp.pl _) ?_
      rw [t1]
      (repeat regstrif_gather)
      (first | exact ⟨rfl, rfl⟩ | exact go_pure ⟨rfl, rfl⟩)
theorem due_nil : sem__law_due [.tup [], .tup []] = M.pure (.bl false) := by
  refine pure_wp fun S => ?_
  (unfold sem__law_due; refine Ev.go_fn rfl ?_; unfold pk__law_due; simp only [Ev.slots, List.map_cons, List.map_nil, List.length_cons, List.length_nil, List.cons_append, List.nil_append, List.replicate, Nat.reduceSub, Nat.reduceAdd])
  (repeat regstrif_gather)
  (refine go_val (isa_t rfl) ?_; simp only [tyB]; (repeat regstrif_gather))
  (first | exact ⟨rfl, rfl⟩ | exact go_pure ⟨rfl, rfl⟩)
theorem due_head {ds : List D} (h : Pl x0) (hn : ∀ z, x0 ≠ .str z) : sem__law_due [.tup (x0 :: ds), .tup []] = M.pure (.bl false) := by
  refine pure_wp fun S => ?_
  rcases h.str? with ⟨z, rfl, _⟩ | ⟨h1, _⟩
  · exact absurd rfl (hn _)
  · (unfold sem__law_due; refine Ev.go_fn rfl ?_; unfold pk__law_due; simp only [Ev.slots, List.map_cons, List.map_nil, List.length_cons, List.length_nil, List.cons_append, List.nil_append, List.replicate, Nat.reduceSub, Nat.reduceAdd])
    (repeat regstrif_gather)
    (refine go_val (isa_t rfl) ?_; simp only [tyB]; (repeat regstrif_gather))
    refine ite_d (fun z => ?_) (fun z => ?_)
    · simp only [List.length_cons] at z
      omega
    · (repeat regstrif_gather)
      (refine go_val (isa_t rfl) ?_; simp only [tyB]; (repeat regstrif_gather))
      refine go_val (ix_hd _ _) ?_
      (repeat regstrif_gather)
      refine go_val (isa_p h _) ?_
      rw [h1]
      (repeat regstrif_gather)
      (first | exact ⟨rfl, rfl⟩ | exact go_pure ⟨rfl, rfl⟩)
theorem due_short {ds : List D} (hl : ds.length ≤ 1) : sem__law_due [.tup (.str z :: ds), .tup []] = M.pure (.bl false) := by
  refine pure_wp fun S => ?_
  (unfold sem__law_due; refine Ev.go_fn rfl ?_; unfold pk__law_due; simp only [Ev.slots, List.map_cons, List.map_nil, List.length_cons, List.length_nil, List.cons_append, List.nil_append, List.replicate, Nat.reduceSub, Nat.reduceAdd])
  (repeat regstrif_gather)
  (refine go_val (isa_t rfl) ?_; simp only [tyB]; (repeat regstrif_gather))
  refine ite_d (fun z => ?_) (fun z => ?_)
  · simp only [List.length_cons] at z
    omega
  · (repeat regstrif_gather)
    (refine go_val (isa_t rfl) ?_; simp only [tyB]; (repeat regstrif_gather))
    refine go_val (ix_hd _ _) ?_
    (repeat regstrif_gather)
    (refine go_val (isa_t rfl) ?_; simp only [tyB]; (repeat regstrif_gather))
    refine ite_d (fun z => ?_) (fun z => ?_)
    · (repeat regstrif_gather)
      (first | exact ⟨rfl, rfl⟩ | exact go_pure ⟨rfl, rfl⟩)
    · simp only [List.length_cons] at z
      omega
theorem due_oth3 (h1 : Pl x1) (h2 : Pl x2) (n1 : z ≠ "limit") (n2 : z ≠ "never") (n3 : z ≠ "more") : sem__law_due [.tup [.str z, x1, x2], .tup []] = M.pure (.bl false) := by
  refine pure_wp fun S => ?_
  have e1 := law_is_row_p h1
  have e2 := law_is_row_p h2
  (unfold sem__law_due; refine Ev.go_fn rfl ?_; unfold pk__law_due; simp only [Ev.slots, List.map_cons, List.map_nil, List.length_cons, List.length_nil, List.cons_append, List.nil_append, List.replicate, Nat.reduceSub, Nat.reduceAdd])
  (repeat regstrif_gather)
  (refine go_val (isa_t rfl) ?_; simp only [tyB]; (repeat regstrif_gather))
  (refine go_val (isa_t rfl) ?_; simp only [tyB]; (repeat regstrif_gather))
  (refine go_val (isa_t rfl) ?_; simp only [tyB]; (repeat regstrif_gather))
  refine go_val e1 ?_
  cases hr : rowB x1 with
  | false =>
    (repeat regstrif_gather)
    (first | exact ⟨rfl, rfl⟩ | exact go_pure ⟨rfl, rfl⟩)
  | true =>
    (repeat regstrif_gather)
    refine go_val e2 ?_
    cases hr2 : rowB x2 with
    | false =>
      (repeat regstrif_gather)
      (first | exact ⟨rfl, rfl⟩ | exact go_pure ⟨rfl, rfl⟩)
    | true =>
      (repeat regstrif_gather)
      refine go_val (neZ_str n3) ?_
      (repeat regstrif_gather)
      (first | exact ⟨rfl, rfl⟩ | exact go_pure ⟨rfl, rfl⟩)
theorem due_oth4 (h1 : Pl x1) (h2 : Pl x2) (n1 : z ≠ "limit") (n2 : z ≠ "never") (n3 : z ≠ "more") : sem__law_due [.tup [.str z, x1, x2, x3], .tup []] = M.pure (.bl false) := by
  refine pure_wp fun S => ?_
  have e1 := law_is_row_p h1
  have e2 := law_is_row_p h2
  (unfold sem__law_due; refine Ev.go_fn rfl ?_; unfold pk__law_due; simp only [Ev.slots, List.map_cons, List.map_nil, List.length_cons, List.length_nil, List.cons_append, List.nil_append, List.replicate, Nat.reduceSub, Nat.reduceAdd])
  (repeat regstrif_gather)
  (refine go_val (isa_t rfl) ?_; simp only [tyB]; (repeat regstrif_gather))
  (refine go_val (isa_t rfl) ?_; simp only [tyB]; (repeat regstrif_gather))
  (refine go_val (isa_t rfl) ?_; simp only [tyB]; (repeat regstrif_gather))
  refine go_val e1 ?_
  cases hr : rowB x1 with
  | false =>
    (repeat regstrif_gather)
    (first | exact ⟨rfl, rfl⟩ | exact go_pure ⟨rfl, rfl⟩)
  | true =>
    (repeat regstrif_gather)
    refine go_val e2 ?_
    cases hr2 : rowB x2 with
    | false =>
      (repeat regstrif_gather)
      (first | exact ⟨rfl, rfl⟩ | exact go_pure ⟨rfl, rfl⟩)
    | true =>
      (repeat regstrif_gather)
      refine go_val (neZ_str n3) ?_
      (repeat regstrif_gather)
      (first | exact ⟨rfl, rfl⟩ | exact go_pure ⟨rfl, rfl⟩)
theorem due_never4 (h1 : Pl x1) (h2 : Pl x2) : sem__law_due [.tup [.str "never", x1, x2, x3], .tup []] = M.pure (.bl false) := by
  refine pure_wp fun S => ?_
  have e1 := law_is_row_p h1
  have e2 := law_is_row_p h2
  (unfold sem__law_due; refine Ev.go_fn rfl ?_; unfold pk__law_due; simp only [Ev.slots, List.map_cons, List.map_nil, List.length_cons, List.length_nil, List.cons_append, List.nil_append, List.replicate, Nat.reduceSub, Nat.reduceAdd])
  (repeat regstrif_gather)
  (refine go_val (isa_t rfl) ?_; simp only [tyB]; (repeat regstrif_gather))
  (refine go_val (isa_t rfl) ?_; simp only [tyB]; (repeat regstrif_gather))
  (refine go_val (isa_t rfl) ?_; simp only [tyB]; (repeat regstrif_gather))
  refine go_val e1 ?_
  cases hr : rowB x1 with
  | false =>
    (repeat regstrif_gather)
    (first | exact ⟨rfl, rfl⟩ | exact go_pure ⟨rfl, rfl⟩)
  | true =>
    (repeat regstrif_gather)
    refine go_val e2 ?_
    cases hr2 : rowB x2 with
    | false =>
      (repeat regstrif_gather)
      (first | exact ⟨rfl, rfl⟩ | exact go_pure ⟨rfl, rfl⟩)
    | true =>
      (repeat regstrif_gather)
      (first | exact ⟨rfl, rfl⟩ | exact go_pure ⟨rfl, rfl⟩)
theorem due_never5 (h1 : Pl x1) (h2 : Pl x2) : sem__law_due [.tup [.str "never", x1, x2, x3, x4], .tup []] = M.pure (.bl false) := by
  refine pure_wp fun S => ?_
  have e1 := law_is_row_p h1
  have e2 := law_is_row_p h2
  (unfold sem__law_due; refine Ev.go_fn rfl ?_; unfold pk__law_due; simp only [Ev.slots, List.map_cons, List.map_nil, List.length_cons, List.length_nil, List.cons_append, List.nil_append, List.replicate, Nat.reduceSub, Nat.reduceAdd])
  (repeat regstrif_gather)
  (refine go_val (isa_t rfl) ?_; simp only [tyB]; (repeat regstrif_gather))
  (refine go_val (isa_t rfl) ?_; simp only [tyB]; (repeat regstrif_gather))
  (refine go_val (isa_t rfl) ?_; simp only [tyB]; (repeat regstrif_gather))
  refine go_val e1 ?_
  cases hr : rowB x1 with
  | false =>
    (repeat regstrif_gather)
    (first | exact ⟨rfl, rfl⟩ | exact go_pure ⟨rfl, rfl⟩)
  | true =>
    (repeat regstrif_gather)
    refine go_val e2 ?_
    cases hr2 : rowB x2 with
    | false =>
      (repeat regstrif_gather)
      (first | exact ⟨rfl, rfl⟩ | exact go_pure ⟨rfl, rfl⟩)
    | true =>
      (repeat regstrif_gather)
      (first | exact ⟨rfl, rfl⟩ | exact go_pure ⟨rfl, rfl⟩)
theorem due_limit3 (h1 : Pl x1) (h2 : Pl x2) : sem__law_due [.tup [.str "limit", x1, x2], .tup []] = M.pure (.bl false) := by
  refine pure_wp fun S => ?_
  have e1 := law_is_row_p h1
  have e2 := law_is_row_p h2
  (unfold sem__law_due; refine Ev.go_fn rfl ?_; unfold pk__law_due; simp only [Ev.slots, List.map_cons, List.map_nil, List.length_cons, List.length_nil, List.cons_append, List.nil_append, List.replicate, Nat.reduceSub, Nat.reduceAdd])
  (repeat regstrif_gather)
  (refine go_val (isa_t rfl) ?_; simp only [tyB]; (repeat regstrif_gather))
  (refine go_val (isa_t rfl) ?_; simp only [tyB]; (repeat regstrif_gather))
  (refine go_val (isa_t rfl) ?_; simp only [tyB]; (repeat regstrif_gather))
  refine go_val e1 ?_
  cases hr : rowB x1 with
  | false =>
    (repeat regstrif_gather)
    (first | exact ⟨rfl, rfl⟩ | exact go_pure ⟨rfl, rfl⟩)
  | true =>
    (repeat regstrif_gather)
    (first | exact ⟨rfl, rfl⟩ | exact go_pure ⟨rfl, rfl⟩)
theorem due_limit5 (h1 : Pl x1) (h2 : Pl x2) : sem__law_due [.tup [.str "limit", x1, x2, x3, x4], .tup []] = M.pure (.bl false) := by
  refine pure_wp fun S => ?_
  have e1 := law_is_row_p h1
  have e2 := law_is_row_p h2
  (unfold sem__law_due; refine Ev.go_fn rfl ?_; unfold pk__law_due; simp only [Ev.slots, List.map_cons, List.map_nil, List.length_cons, List.length_nil, List.cons_append, List.nil_append, List.replicate, Nat.reduceSub, Nat.reduceAdd])
  (repeat regstrif_gather)
  (refine go_val (isa_t rfl) ?_; simp only [tyB]; (repeat regstrif_gather))
  (refine go_val (isa_t rfl) ?_; simp only [tyB]; (repeat regstrif_gather))
  (refine go_val (isa_t rfl) ?_; simp only [tyB]; (repeat regstrif_gather))
  refine go_val e1 ?_
  cases hr : rowB x1 with
  | false =>
    (repeat regstrif_gather)
    (first | exact ⟨rfl, rfl⟩ | exact go_pure ⟨rfl, rfl⟩)
  | true =>
    (repeat regstrif_gather)
    (first | exact ⟨rfl, rfl⟩ | exact go_pure ⟨rfl, rfl⟩)
theorem due_more3 (h1 : Pl x1) (h2 : Pl x2) : sem__law_due [.tup [.str "more", x1, x2], .tup []] = M.pure (.bl false) := by
  refine pure_wp fun S => ?_
  have e1 := law_is_row_p h1
  have e2 := law_is_row_p h2
  (unfold sem__law_due; refine Ev.go_fn rfl ?_; unfold pk__law_due; simp only [Ev.slots, List.map_cons, List.map_nil, List.length_cons, List.length_nil, List.cons_append, List.nil_append, List.replicate, Nat.reduceSub, Nat.reduceAdd])
  (repeat regstrif_gather)
  (refine go_val (isa_t rfl) ?_; simp only [tyB]; (repeat regstrif_gather))
  (refine go_val (isa_t rfl) ?_; simp only [tyB]; (repeat regstrif_gather))
  (refine go_val (isa_t rfl) ?_; simp only [tyB]; (repeat regstrif_gather))
  refine go_val e1 ?_
  cases hr : rowB x1 with
  | false =>
    (repeat regstrif_gather)
    (first | exact ⟨rfl, rfl⟩ | exact go_pure ⟨rfl, rfl⟩)
  | true =>
    (repeat regstrif_gather)
    refine go_val e2 ?_
    cases hr2 : rowB x2 with
    | false =>
      (repeat regstrif_gather)
      (first | exact ⟨rfl, rfl⟩ | exact go_pure ⟨rfl, rfl⟩)
    | true =>
      (repeat regstrif_gather)
      refine go_val neZ_more ?_
      (repeat regstrif_gather)
      (first | exact ⟨rfl, rfl⟩ | exact go_pure ⟨rfl, rfl⟩)
theorem due_more5 (h1 : Pl x1) (h2 : Pl x2) : sem__law_due [.tup [.str "more", x1, x2, x3, x4], .tup []] = M.pure (.bl false) := by
  refine pure_wp fun S => ?_
  have e1 := law_is_row_p h1
  have e2 := law_is_row_p h2
  (unfold sem__law_due; refine Ev.go_fn rfl ?_; unfold pk__law_due; simp only [Ev.slots, List.map_cons, List.map_nil, List.length_cons, List.length_nil, List.cons_append, List.nil_append, List.replicate, Nat.reduceSub, Nat.reduceAdd])
  (repeat regstrif_gather)
  (refine go_val (isa_t rfl) ?_; simp only [tyB]; (repeat regstrif_gather))
  (refine go_val (isa_t rfl) ?_; simp only [tyB]; (repeat regstrif_gather))
  (refine go_val (isa_t rfl) ?_; simp only [tyB]; (repeat regstrif_gather))
  refine go_val e1 ?_
  cases hr : rowB x1 with
  | false =>
    (repeat regstrif_gather)
    (first | exact ⟨rfl, rfl⟩ | exact go_pure ⟨rfl, rfl⟩)
  | true =>
    (repeat regstrif_gather)
    refine go_val e2 ?_
    cases hr2 : rowB x2 with
    | false =>
      (repeat regstrif_gather)
      (first | exact ⟨rfl, rfl⟩ | exact go_pure ⟨rfl, rfl⟩)
    | true =>
      (repeat regstrif_gather)
      refine go_val neZ_more ?_
      (repeat regstrif_gather)
      (first | exact ⟨rfl, rfl⟩ | exact go_pure ⟨rfl, rfl⟩)
end
end K72
set_option maxRecDepth 100000
set_option maxHeartbeats 4000000
namespace K72
open PySem Ev
section
variable {x0 x1 x2 x3 x4 p d : D} {z : Str}
theorem sgn_scale {g z : Int} (hg : 0 < g) : sgn (g * z) = sgn z := by
  unfold sgn
  rcases Int.lt_trichotomy z 0 with h | h | h
  · have := Int.mul_neg_of_pos_of_neg hg h
    rw [if_neg (by omega), if_pos (by omega), if_neg (by omega), if_pos (by omega)]
  · subst h
    rw [Int.mul_zero]
  · have := Int.mul_pos hg h
    rw [if_pos (by omega), if_pos (by omega)]
theorem cmp_low {v w : Int × Int} (nv : Nn v) (nw : Nn w) : cmpP (lowP v) (lowP w) = cmpP v w := by
  obtain ⟨g, g0, e1, e2⟩ := lowP_mul nv.t nv.b nv.p
  obtain ⟨h, h0, f1, f2⟩ := lowP_mul nw.t nw.b nw.p
  unfold cmpP
  have e : v.1 * w.2 - w.1 * v.2 = (g * h) * ((lowP v).1 * (lowP w).2 - (lowP w).1 * (lowP v).2) := by
    rw [← e1, ← e2, ← f1, ← f2]
    grind
  rw [e, sgn_scale (Int.mul_pos g0 h0)]
theorem sn_no (h1 : Pl x1) (h2 : Pl x2) (hp : Pap p) (h : (rowB x1 && rowB x2 && nilT p) = false) : sem_shows_never [.tup [x0, x1, x2], p] = M.pure (.bl false) := by
  refine pure_wp fun S => ?_
  rcases told_p h1 with ⟨b1, e1⟩ | ⟨r, hR, hn, er, b1, e1⟩
  · rcases told_p h2 with ⟨b2, e2⟩ | ⟨q, hQ, hm, eq, b2, e2⟩ <;>
    · (unfold sem_shows_never; refine Ev.go_fn rfl ?_; unfold pk_shows_never; simp only [Ev.slots, List.map_cons, List.map_nil, List.length_cons, List.length_nil, List.cons_append, List.nil_append, List.replicate, Nat.reduceSub, Nat.reduceAdd])
      (repeat regstrif_gather)
      refine go_val e1 ?_
      (repeat regstrif_gather)
      refine go_val e2 ?_
      (repeat regstrif_gather)
      (first | exact ⟨rfl, rfl⟩ | exact go_pure ⟨rfl, rfl⟩)
  · rcases told_p h2 with ⟨b2, e2⟩ | ⟨q, hQ, hm, eq, b2, e2⟩
    · (unfold sem_shows_never; refine Ev.go_fn rfl ?_; unfold pk_shows_never; simp only [Ev.slots, List.map_cons, List.map_nil, List.length_cons, List.length_nil, List.cons_append, List.nil_append, List.replicate, Nat.reduceSub, Nat.reduceAdd])
      (repeat regstrif_gather)
      refine go_val e1 ?_
      (repeat regstrif_gather)
      refine go_val e2 ?_
      (repeat regstrif_gather)
      refine go_val (r := .bl false) rfl ?_
      (repeat regstrif_gather)
      (first | exact ⟨rfl, rfl⟩ | exact go_pure ⟨rfl, rfl⟩)
    · rw [b1, b2, Bool.true_and, Bool.true_and] at h
      have ne := hp.ne
      rw [h] at ne
      (unfold sem_shows_never; refine Ev.go_fn rfl ?_; unfold pk_shows_never; simp only [Ev.slots, List.map_cons, List.map_nil, List.length_cons, List.length_nil, List.cons_append, List.nil_append, List.replicate, Nat.reduceSub, Nat.reduceAdd])
      (repeat regstrif_gather)
      refine go_val e1 ?_
      (repeat regstrif_gather)
      refine go_val e2 ?_
      (repeat regstrif_gather)
      refine go_val (r := .bl false) rfl ?_
      (repeat regstrif_gather)
      refine go_val (r := .bl false) rfl ?_
      (repeat regstrif_gather)
      refine go_val ne ?_
      (repeat regstrif_gather)
      (first | exact ⟨rfl, rfl⟩ | exact go_pure ⟨rfl, rfl⟩)
theorem sn_yes (h1 : Pl x1) (h2 : Pl x2) (hr : rowB x1 = true) (hq : rowB x2 = true) : ∃ r q, Row r ∧ Row q ∧ x1 = rowT r ∧ x2 = rowT q ∧ sem_shows_never [.tup [x0, x1, x2], .tup []] = M.pure (.bl (decide (Nvb (qH (mat r) (mat q)) (qM (mat r) (mat q)) (qL (mat r) (mat q))))) := by
  rcases told_p h1 with ⟨b1, e1⟩ | ⟨r, hR, hn, er, b1, e1⟩
  · rw [hr] at b1; cases b1
  rcases told_p h2 with ⟨b2, e2⟩ | ⟨q, hQ, hm, eq, b2, e2⟩
  · rw [hq] at b2; cases b2
  refine ⟨r, q, hR, hQ, er, eq, pure_wp fun S => ?_⟩
  have hp : dNeZ (.tup []) (.tup []) = M.pure (.bl false) := rfl
  have df := difference_ok (mat q) (mat r) (hQ.s41.mono (by decide)) (hR.s41.mono (by decide))
  obtain ⟨b1, b2, b3⟩ := q_bd hR hQ
  have nv := nvb_ok _ _ _ b1 b2 b3
  (unfold sem_shows_never; refine Ev.go_fn rfl ?_; unfold pk_shows_never; simp only [Ev.slots, List.map_cons, List.map_nil, List.length_cons, List.length_nil, List.cons_append, List.nil_append, List.replicate, Nat.reduceSub, Nat.reduceAdd])
  (repeat regstrif_gather)
  refine go_val e1 ?_
  (repeat regstrif_gather)
  refine go_val e2 ?_
  (repeat regstrif_gather)
  refine go_val (r := .bl false) rfl ?_
  (repeat regstrif_gather)
  refine go_val (r := .bl false) rfl ?_
  (repeat regstrif_gather)
  refine go_val hp ?_
  (repeat regstrif_gather)
  refine go_val (attr_chain q) ?_
  (repeat regstrif_gather)
  refine go_val (attr_chain r) ?_
  (repeat regstrif_gather)
  refine go_val df ?_
  refine tg_tup rfl (tl_cons (tg_set (tl_cons (tg_set (tl_cons (tg_set (tl_nil ?_)))))))
  simp only [List.set_cons_zero, List.set_cons_succ]
  (repeat regstrif_gather)
  exact go_val nv ⟨rfl, rfl⟩
theorem sm_no (h1 : Pl x1) (h2 : Pl x2) (h3 : Pl x3) (hp : Pap p) (h : (rowB x1 && rowB x2 && nilT p && numB x3) = false) : sem_shows_more [.tup [x0, x1, x2, x3], p] = M.pure (.bl false) := by
  refine pure_wp fun S => ?_
  have e3 := is_number_p h3
  rcases told_p h1 with ⟨b1, e1⟩ | ⟨r, hR, hn, er, b1, e1⟩
  · rcases told_p h2 with ⟨b2, e2⟩ | ⟨q, hQ, hm, eq, b2, e2⟩ <;>
    · (unfold sem_shows_more; refine Ev.go_fn rfl ?_; unfold pk_shows_more; simp only [Ev.slots, List.map_cons, List.map_nil, List.length_cons, List.length_nil, List.cons_append, List.nil_append, List.replicate, Nat.reduceSub, Nat.reduceAdd])
      (repeat regstrif_gather)
      refine go_val e1 ?_
      (repeat regstrif_gather)
      refine go_val e2 ?_
      (repeat regstrif_gather)
      (first | exact ⟨rfl, rfl⟩ | exact go_pure ⟨rfl, rfl⟩)
  · rcases told_p h2 with ⟨b2, e2⟩ | ⟨q, hQ, hm, eq, b2, e2⟩
    · (unfold sem_shows_more; refine Ev.go_fn rfl ?_; unfold pk_shows_more; simp only [Ev.slots, List.map_cons, List.map_nil, List.length_cons, List.length_nil, List.cons_append, List.nil_append, List.replicate, Nat.reduceSub, Nat.reduceAdd])
      (repeat regstrif_gather)
      refine go_val e1 ?_
      (repeat regstrif_gather)
      refine go_val e2 ?_
      (repeat regstrif_gather)
      refine go_val (r := .bl false) rfl ?_
      (repeat regstrif_gather)
      (first | exact ⟨rfl, rfl⟩ | exact go_pure ⟨rfl, rfl⟩)
    · rw [b1, b2, Bool.true_and, Bool.true_and] at h
      have ne := hp.ne
      (unfold sem_shows_more; refine Ev.go_fn rfl ?_; unfold pk_shows_more; simp only [Ev.slots, List.map_cons, List.map_nil, List.length_cons, List.length_nil, List.cons_append, List.nil_append, List.replicate, Nat.reduceSub, Nat.reduceAdd])
      (repeat regstrif_gather)
      refine go_val e1 ?_
      (repeat regstrif_gather)
      refine go_val e2 ?_
      (repeat regstrif_gather)
      refine go_val (r := .bl false) rfl ?_
      (repeat regstrif_gather)
      refine go_val (r := .bl false) rfl ?_
      (repeat regstrif_gather)
      refine go_val ne ?_
      cases hq : nilT p with
      | false =>
        (repeat regstrif_gather)
        (first | exact ⟨rfl, rfl⟩ | exact go_pure ⟨rfl, rfl⟩)
      | true =>
        rw [hq, Bool.true_and] at h
        (repeat regstrif_gather)
        refine go_val e3 ?_
        rw [h]
        (repeat regstrif_gather)
        (first | exact ⟨rfl, rfl⟩ | exact go_pure ⟨rfl, rfl⟩)
theorem shown_row {r : List Pc} (h : Row r) (v : Int × Int) (nv : Nn v) (h1 : Sm 4500 v.1) (h2 : Sm 4500 v.2) : sem_shown [(mat r).D, pairD v] = M.pure (pairD (lowP (act (mat r) v))) := by
  refine pure_wp fun S => ?_
  have e := led_big h v h1 h2
  obtain ⟨s1, s2⟩ := act_sm h h1 h2
  have na := Nn.act (mat_P h.1) nv
  have lo := lowest_big (k := 4600) (act (mat r) v).1 (act (mat r) v).2 (s1.mono (by decide)) (s2.mono (by decide)) na.p (by decide)
  (unfold sem_shown; refine Ev.go_fn rfl ?_; unfold pk_shown; simp only [Ev.slots, List.map_cons, List.map_nil, List.length_cons, List.length_nil, List.cons_append, List.nil_append, List.replicate, Nat.reduceSub, Nat.reduceAdd])
  (repeat regstrif_gather)
  refine go_val e ?_
  unfold pairD
  refine tg_tup rfl (tl_cons (tg_set (tl_cons (tg_set (tl_nil ?_)))))
  simp only [List.set_cons_zero, List.set_cons_succ]
  (repeat regstrif_gather)
  exact go_val lo ⟨rfl, rfl⟩
theorem sm_yes (h1 : Pl x1) (h2 : Pl x2) (h3 : Pl x3) (hr : rowB x1 = true) (hq : rowB x2 = true) (hn : numB x3 = true) : ∃ r q, Row r ∧ Row q ∧ x1 = rowT r ∧ x2 = rowT q ∧ sem_shows_more [.tup [x0, x1, x2, x3], .tup []] = M.pure (.bl (decide (0 < cmpP (act (mat r) (lowP (numV x3))) (act (mat q) (lowP (numV x3)))))) := by
  rcases told_p h1 with ⟨b1, e1⟩ | ⟨r, hR, _, er, b1, e1⟩
  · rw [hr] at b1; cases b1
  rcases told_p h2 with ⟨b2, e2⟩ | ⟨q, hQ, _, eq, b2, e2⟩
  · rw [hq] at b2; cases b2
  refine ⟨r, q, hR, hQ, er, eq, pure_wp fun S => ?_⟩
  have hp : dNeZ (.tup []) (.tup []) = M.pure (.bl false) := rfl
  have e3 := is_number_p h3
  rw [hn] at e3
  have p3 := pair_of_p h3 hn
  obtain ⟨_, c1, c2, nc⟩ := num_bd h3 hn
  have s1 := shown_row hR _ nc c1 c2
  have s2 := shown_row hQ _ nc c1 c2
  have n1 := Nn.act (mat_P hR.1) nc
  have n2 := Nn.act (mat_P hQ.1) nc
  obtain ⟨a1, a2⟩ := act_sm hR c1 c2
  obtain ⟨b1, b2⟩ := act_sm hQ c1 c2
  obtain ⟨l1, l2⟩ := sm_low n1 a1 a2
  obtain ⟨k1, k2⟩ := sm_low n2 b1 b2
  have cm := compare_ok (k := 4600) (lowP (act (mat r) (lowP (numV x3)))) (lowP (act (mat q) (lowP (numV x3)))) (l1.mono (by decide)) (l2.mono (by decide)) (k1.mono (by decide)) (k2.mono (by decide)) (by decide)
  rw [cmp_low n1 n2] at cm
  generalize lowP (numV x3) = c at *
  (unfold sem_shows_more; refine Ev.go_fn rfl ?_; unfold pk_shows_more; simp only [Ev.slots, List.map_cons, List.map_nil, List.length_cons, List.length_nil, List.cons_append, List.nil_append, List.replicate, Nat.reduceSub, Nat.reduceAdd])
  (repeat regstrif_gather)
  refine go_val e1 ?_
  (repeat regstrif_gather)
  refine go_val e2 ?_
  (repeat regstrif_gather)
  refine go_val (r := .bl false) rfl ?_
  (repeat regstrif_gather)
  refine go_val (r := .bl false) rfl ?_
  (repeat regstrif_gather)
  refine go_val hp ?_
  (repeat regstrif_gather)
  refine go_val e3 ?_
  (repeat regstrif_gather)
  refine go_val p3 ?_
  (repeat regstrif_gather)
  refine go_val (attr_chain r) ?_
  (repeat regstrif_gather)
  refine go_val s1 ?_
  (repeat regstrif_gather)
  refine go_val (attr_chain q) ?_
  (repeat regstrif_gather)
  refine go_val s2 ?_
  (repeat regstrif_gather)
  refine go_val cm ?_
  (repeat regstrif_gather)
  (first | exact ⟨rfl, rfl⟩ | exact go_pure ⟨rfl, rfl⟩)
theorem sb_most (h1 : Pl x1) (h2 : Pl x2) (h3 : Pl x3) (hp : Pap p) : sem_shows_most [.tup [.str "most", x1, x2, x3], p] = M.pure (.bl false) := by
  refine pure_wp fun S => ?_
  have e := sb_no (x0 := .str "most") (w := 1) h1 h2 h3 hp.pl (by rw [hp.nn, Bool.and_false])
  (unfold sem_shows_most; refine Ev.go_fn rfl ?_; unfold pk_shows_most; simp only [Ev.slots, List.map_cons, List.map_nil, List.length_cons, List.length_nil, List.cons_append, List.nil_append, List.replicate, Nat.reduceSub, Nat.reduceAdd])
  (repeat regstrif_gather)
  exact go_val e ⟨rfl, rfl⟩
end
end K72
set_option maxRecDepth 100000
set_option maxHeartbeats 4000000
namespace K72
open PySem Ev
section
variable {x0 x1 x2 x3 x4 p d : D} {z : Str}
theorem p40 : dPow (.int 10) (.int 40) = M.pure (.int 10000000000000000000000000000000000000000) := funext fun S => by kernel_rfl
theorem dl_no (h1 : Pl x1) (h2 : Pl x2) (h3 : Pl x3) (h : (rowB x1 && resB x2 && tiB x3) = false) : sem__law_due [.tup [.str "limit", x1, x2, x3], .tup []] = M.pure (.bl false) := by
  refine pure_wp fun S => ?_
  have e1 := law_is_row_p h1
  have e2 := law_is_load_p h2
  (unfold sem__law_due; refine Ev.go_fn rfl ?_; unfold pk__law_due; simp only [Ev.slots, List.map_cons, List.map_nil, List.length_cons, List.length_nil, List.cons_append, List.nil_append, List.replicate, Nat.reduceSub, Nat.reduceAdd])
  (repeat regstrif_gather)
  (refine go_val (isa_t rfl) ?_; simp only [tyB]; (repeat regstrif_gather))
  (refine go_val (isa_t rfl) ?_; simp only [tyB]; (repeat regstrif_gather))
  (refine go_val (isa_t rfl) ?_; simp only [tyB]; (repeat regstrif_gather))
  refine go_val e1 ?_
  cases hr : rowB x1 with
  | false =>
    (repeat regstrif_gather)
    (first | exact ⟨rfl, rfl⟩ | exact go_pure ⟨rfl, rfl⟩)
  | true =>
    (repeat regstrif_gather)
    refine go_val e2 ?_
    cases hs : resB x2 with
    | false =>
      (repeat regstrif_gather)
      (first | exact ⟨rfl, rfl⟩ | exact go_pure ⟨rfl, rfl⟩)
    | true =>
      rw [hr, hs, Bool.true_and, Bool.true_and] at h
      (repeat regstrif_gather)
      rcases h3.tup? with ⟨ds, rfl, l, hds⟩ | ⟨t1, t2⟩
      · (refine go_val (isa_t rfl) ?_; simp only [tyB]; (repeat regstrif_gather))
        refine go_map (f := fun d => .bl (btw d (-MOSTI) MOSTI)) ds (fun x hx => ⟨_, rfl, rfl, pure_wp fun S => ?_⟩) (by unfold lim; omega) ?_
        · (repeat regstrif_gather)
          refine go_val p40 ?_
          (repeat regstrif_gather)
          refine go_val p40 ?_
          (repeat regstrif_gather)
          exact go_val (whole_p (hds x hx) (-MOSTI) MOSTI) ⟨rfl, rfl⟩
        (repeat regstrif_gather)
        refine go_val (all_map (fun d => btw d (-MOSTI) MOSTI) ds) ?_
        rw [btw_isI (show ds.all isI = false from h)]
        (repeat regstrif_gather)
        (first | exact ⟨rfl, rfl⟩ | exact go_pure ⟨rfl, rfl⟩)
      · refine go_val (isa_p h3 _) ?_
        rw [t1]
        (repeat regstrif_gather)
        (first | exact ⟨rfl, rfl⟩ | exact go_pure ⟨rfl, rfl⟩)
theorem dl_yes {is : List Int} {r : List Pc} (hR : Row r) (er : x1 = rowT r) (h1 : Pl x1) (h2 : Pl x2) (h3 : Pl (.tup (is.map D.int))) (hr : rowB x1 = true) (hs : resB x2 = true) : sem__law_due [.tup [.str "limit", x1, x2, .tup (is.map D.int)], .tup []] = M.pure (.bl (decide (is = limV r))) := by
  refine pure_wp fun S => ?_
  have e1 := law_is_row_p h1
  have e2 := law_is_load_p h2
  rw [hr] at e1
  rw [hs] at e2
  have el := law_limit_ok hR
  rw [← er] at el
  have eq := eq_ints is (limV r)
  have l100 : (is.map D.int).length ≤ 100 := by cases h3 with | tup _ l _ => exact l
  have hds : ∀ x ∈ is.map D.int, Pl x := by cases h3 with | tup _ _ h => exact h
  (unfold sem__law_due; refine Ev.go_fn rfl ?_; unfold pk__law_due; simp only [Ev.slots, List.map_cons, List.map_nil, List.length_cons, List.length_nil, List.cons_append, List.nil_append, List.replicate, Nat.reduceSub, Nat.reduceAdd])
  (repeat regstrif_gather)
  (refine go_val (isa_t rfl) ?_; simp only [tyB]; (repeat regstrif_gather))
  (refine go_val (isa_t rfl) ?_; simp only [tyB]; (repeat regstrif_gather))
  (refine go_val (isa_t rfl) ?_; simp only [tyB]; (repeat regstrif_gather))
  refine go_val e1 ?_
  (repeat regstrif_gather)
  refine go_val e2 ?_
  (repeat regstrif_gather)
  (refine go_val (isa_t rfl) ?_; simp only [tyB]; (repeat regstrif_gather))
  refine go_map (f := fun d => .bl (btw d (-MOSTI) MOSTI)) (is.map D.int) (fun x hx => ⟨_, rfl, rfl, pure_wp fun S => ?_⟩) (by unfold lim; omega) ?_
  · (repeat regstrif_gather)
    refine go_val p40 ?_
    (repeat regstrif_gather)
    refine go_val p40 ?_
    (repeat regstrif_gather)
    exact go_val (whole_p (hds x hx) (-MOSTI) MOSTI) ⟨rfl, rfl⟩
  (repeat regstrif_gather)
  refine go_val (all_map (fun d => btw d (-MOSTI) MOSTI) _) ?_
  cases ha : (is.map D.int).all fun d => btw d (-MOSTI) MOSTI with
  | false =>
    rw [decide_eq_false (show ¬ is = limV r from fun e => by
      subst e
      rw [← Bool.not_eq_true, List.all_eq_true] at ha
      refine ha fun x hx => ?_
      obtain ⟨i, hi, rfl⟩ := List.mem_map.mp hx
      exact limV_in hR hi)]
    (repeat regstrif_gather)
    (first | exact ⟨rfl, rfl⟩ | exact go_pure ⟨rfl, rfl⟩)
  | true =>
    (repeat regstrif_gather)
    refine go_val el ?_
    (repeat regstrif_gather)
    exact go_val eq ⟨rfl, rfl⟩
theorem limit_due (h1 : Pl x1) (h2 : Pl x2) (h3 : Pl x3) (pn : Pap (.tup [])) : ∃ b, sem_shows_limit [.tup [.str "limit", x1, x2, x3], .tup []] = M.pure (.bl b) ∧ sem__law_due [.tup [.str "limit", x1, x2, x3], .tup []] = M.pure (.bl b) := by
  cases h : rowB x1 && resB x2 && tiB x3 with
  | false => exact ⟨false, sl_no h1 h2 h3 pn (by rw [show nilT (.tup []) = true from rfl, Bool.and_true]; exact h), dl_no h1 h2 h3 h⟩
  | true =>
    simp only [Bool.and_eq_true] at h
    obtain ⟨⟨a, b⟩, c⟩ := h
    obtain ⟨is, rfl⟩ : ∃ is : List Int, x3 = .tup (is.map D.int) := by
      unfold tiB at c
      split at c
      · obtain ⟨is, e⟩ := ints_of c
        exact ⟨is, by rw [e]⟩
      · cases c
    obtain ⟨r, hR, er, e⟩ := sl_yes (x0 := .str "limit") h1 h2 h3 a b
    exact ⟨_, e, dl_yes hR er h1 h2 h3 a b⟩
theorem law_never_ok {r q : List Pc} (hR : Row r) (hQ : Row q) : sem__law_never [rowT r, rowT q] = M.pure (.bl (decide (Nvb (qH (mat r) (mat q)) (qM (mat r) (mat q)) (qL (mat r) (mat q))))) := by
  refine pure_wp fun S => ?_
  have r1 := led_10 hR
  have r2 := led_01 hR
  have q1 := led_10 hQ
  have q2 := led_01 hQ
  obtain ⟨b1, b2, b3⟩ := q_bd hR hQ
  have s := hR.s41
  have t := hQ.s41
  have a1 := bd_sm s.a
  have a2 := bd_sm s.b
  have a3 := bd_sm s.c
  have a4 := bd_sm s.d
  have c1 := bd_sm t.a
  have c2 := bd_sm t.b
  have c3 := bd_sm t.c
  have c4 := bd_sm t.d
  unfold qH qM qL at *
  generalize mat r = m at *
  generalize mat q = n at *
  have b4 : Bd 3 (4 : Int) := .mk (by decide)
  (unfold sem__law_never; refine Ev.go_fn rfl ?_; unfold pk__law_never; simp only [Ev.slots, List.map_cons, List.map_nil, List.length_cons, List.length_nil, List.cons_append, List.nil_append, List.replicate, Nat.reduceSub, Nat.reduceAdd])
  (repeat regstrif_gather)
  refine go_val r1 ?_
  refine tg_tup rfl (tl_cons (tg_set (tl_cons (tg_set (tl_nil ?_)))))
  simp only [List.set_cons_zero, List.set_cons_succ]
  (repeat regstrif_gather)
  refine go_val r2 ?_
  refine tg_tup rfl (tl_cons (tg_set (tl_cons (tg_set (tl_nil ?_)))))
  simp only [List.set_cons_zero, List.set_cons_succ]
  (repeat regstrif_gather)
  refine go_val q1 ?_
  refine tg_tup rfl (tl_cons (tg_set (tl_cons (tg_set (tl_nil ?_)))))
  simp only [List.set_cons_zero, List.set_cons_succ]
  (repeat regstrif_gather)
  refine go_val q2 ?_
  refine tg_tup rfl (tl_cons (tg_set (tl_cons (tg_set (tl_nil ?_)))))
  simp only [List.set_cons_zero, List.set_cons_succ]
  (repeat regstrif_gather)
  generalize n.a * m.c - m.a * n.c = H at *
  generalize n.a * m.d + n.b * m.c - m.a * n.d - m.b * n.c = W at *
  generalize n.b * m.d - m.b * n.d = L at *
  refine ite_d (fun z1 => ?_) (fun z1 => ?_)
  · (repeat regstrif_gather)
    refine ite_d (fun z2 => ?_) (fun z2 => ?_)
    · (repeat regstrif_gather)
      refine ite_d (fun z3 => ?_) (fun z3 => ?_)
      · (repeat regstrif_gather)
        rw [decide_eq_true (show Nvb H W L from ⟨z2, z1, .inl z3⟩)]
        (first | exact ⟨rfl, rfl⟩ | exact go_pure ⟨rfl, rfl⟩)
      · (repeat regstrif_gather)
        rw [decide_eq_decide.mpr (show Nvb H W L ↔ W * W ≤ 4 * H * L from ⟨fun n => n.2.2.resolve_left z3, fun n => ⟨z2, z1, .inr n⟩⟩)]
        (first | exact ⟨rfl, rfl⟩ | exact go_pure ⟨rfl, rfl⟩)
    · (repeat regstrif_gather)
      rw [decide_eq_false (show ¬ Nvb H W L from fun n => z2 n.1)]
      (first | exact ⟨rfl, rfl⟩ | exact go_pure ⟨rfl, rfl⟩)
  · (repeat regstrif_gather)
    rw [decide_eq_false (show ¬ Nvb H W L from fun n => z1 n.2.1)]
    (first | exact ⟨rfl, rfl⟩ | exact go_pure ⟨rfl, rfl⟩)
theorem dn_no (h1 : Pl x1) (h2 : Pl x2) (h : (rowB x1 && rowB x2) = false) : sem__law_due [.tup [.str "never", x1, x2], .tup []] = M.pure (.bl false) := by
  refine pure_wp fun S => ?_
  have e1 := law_is_row_p h1
  have e2 := law_is_row_p h2
  (unfold sem__law_due; refine Ev.go_fn rfl ?_; unfold pk__law_due; simp only [Ev.slots, List.map_cons, List.map_nil, List.length_cons, List.length_nil, List.cons_append, List.nil_append, List.replicate, Nat.reduceSub, Nat.reduceAdd])
  (repeat regstrif_gather)
  (refine go_val (isa_t rfl) ?_; simp only [tyB]; (repeat regstrif_gather))
  (refine go_val (isa_t rfl) ?_; simp only [tyB]; (repeat regstrif_gather))
  (refine go_val (isa_t rfl) ?_; simp only [tyB]; (repeat regstrif_gather))
  refine go_val e1 ?_
  cases hr : rowB x1 with
  | false =>
    (repeat regstrif_gather)
    (first | exact ⟨rfl, rfl⟩ | exact go_pure ⟨rfl, rfl⟩)
  | true =>
    rw [hr, Bool.true_and] at h
    rw [h] at e2
    (repeat regstrif_gather)
    refine go_val e2 ?_
    (repeat regstrif_gather)
    (first | exact ⟨rfl, rfl⟩ | exact go_pure ⟨rfl, rfl⟩)
theorem dn_yes {r q : List Pc} (hR : Row r) (hQ : Row q) (er : x1 = rowT r) (eq : x2 = rowT q) (h1 : Pl x1) (h2 : Pl x2) (hr : rowB x1 = true) (hq : rowB x2 = true) : sem__law_due [.tup [.str "never", x1, x2], .tup []] = M.pure (.bl (decide (Nvb (qH (mat r) (mat q)) (qM (mat r) (mat q)) (qL (mat r) (mat q))))) := by
  refine pure_wp fun S => ?_
  have e1 := law_is_row_p h1
  have e2 := law_is_row_p h2
  rw [hr] at e1
  rw [hq] at e2
  have en := law_never_ok hR hQ
  rw [← er, ← eq] at en
  (unfold sem__law_due; refine Ev.go_fn rfl ?_; unfold pk__law_due; simp only [Ev.slots, List.map_cons, List.map_nil, List.length_cons, List.length_nil, List.cons_append, List.nil_append, List.replicate, Nat.reduceSub, Nat.reduceAdd])
  (repeat regstrif_gather)
  (refine go_val (isa_t rfl) ?_; simp only [tyB]; (repeat regstrif_gather))
  (refine go_val (isa_t rfl) ?_; simp only [tyB]; (repeat regstrif_gather))
  (refine go_val (isa_t rfl) ?_; simp only [tyB]; (repeat regstrif_gather))
  refine go_val e1 ?_
  (repeat regstrif_gather)
  refine go_val e2 ?_
  (repeat regstrif_gather)
  exact go_val en ⟨rfl, rfl⟩
theorem never_due (h1 : Pl x1) (h2 : Pl x2) (pn : Pap (.tup [])) : ∃ b, sem_shows_never [.tup [.str "never", x1, x2], .tup []] = M.pure (.bl b) ∧ sem__law_due [.tup [.str "never", x1, x2], .tup []] = M.pure (.bl b) := by
  cases h : rowB x1 && rowB x2 with
  | false => exact ⟨false, sn_no h1 h2 pn (by rw [show nilT (.tup []) = true from rfl, Bool.and_true]; exact h), dn_no h1 h2 h⟩
  | true =>
    obtain ⟨a, b⟩ := Bool.and_eq_true_iff.mp h
    obtain ⟨r, q, hR, hQ, er, eq, e⟩ := sn_yes (x0 := .str "never") h1 h2 a b
    exact ⟨_, e, dn_yes hR hQ er eq h1 h2 a b⟩
theorem dm_no (h1 : Pl x1) (h2 : Pl x2) (h3 : Pl x3) (h : (rowB x1 && rowB x2 && numB x3) = false) : sem__law_due [.tup [.str "more", x1, x2, x3], .tup []] = M.pure (.bl false) := by
  refine pure_wp fun S => ?_
  have e1 := law_is_row_p h1
  have e2 := law_is_row_p h2
  have e3 := law_is_number_p h3
  (unfold sem__law_due; refine Ev.go_fn rfl ?_; unfold pk__law_due; simp only [Ev.slots, List.map_cons, List.map_nil, List.length_cons, List.length_nil, List.cons_append, List.nil_append, List.replicate, Nat.reduceSub, Nat.reduceAdd])
  (repeat regstrif_gather)
  (refine go_val (isa_t rfl) ?_; simp only [tyB]; (repeat regstrif_gather))
  (refine go_val (isa_t rfl) ?_; simp only [tyB]; (repeat regstrif_gather))
  (refine go_val (isa_t rfl) ?_; simp only [tyB]; (repeat regstrif_gather))
  refine go_val e1 ?_
  cases hr : rowB x1 with
  | false =>
    (repeat regstrif_gather)
    (first | exact ⟨rfl, rfl⟩ | exact go_pure ⟨rfl, rfl⟩)
  | true =>
    (repeat regstrif_gather)
    refine go_val e2 ?_
    cases hq : rowB x2 with
    | false =>
      (repeat regstrif_gather)
      (first | exact ⟨rfl, rfl⟩ | exact go_pure ⟨rfl, rfl⟩)
    | true =>
      rw [hr, hq, Bool.true_and, Bool.true_and] at h
      rw [h] at e3
      (repeat regstrif_gather)
      refine go_val neZ_more ?_
      (repeat regstrif_gather)
      refine go_val e3 ?_
      (repeat regstrif_gather)
      (first | exact ⟨rfl, rfl⟩ | exact go_pure ⟨rfl, rfl⟩)
theorem dm_yes {r q : List Pc} (hR : Row r) (hQ : Row q) (er : x1 = rowT r) (eq : x2 = rowT q) (h1 : Pl x1) (h2 : Pl x2) (h3 : Pl x3) (hr : rowB x1 = true) (hq : rowB x2 = true) (hn : numB x3 = true) : sem__law_due [.tup [.str "more", x1, x2, x3], .tup []] = M.pure (.bl (decide (0 < cmpP (act (mat r) (lowP (numV x3))) (act (mat q) (lowP (numV x3)))))) := by
  refine pure_wp fun S => ?_
  have e1 := law_is_row_p h1
  have e2 := law_is_row_p h2
  have e3 := law_is_number_p h3
  rw [hr] at e1
  rw [hq] at e2
  rw [hn] at e3
  have f3 := frac_p h3 hn
  obtain ⟨_, c1, c2, nc⟩ := num_bd h3 hn
  obtain ⟨a1, a2⟩ := act_sm hR c1 c2
  obtain ⟨b1, b2⟩ := act_sm hQ c1 c2
  have l1 := law_led_ok (k := 4500) hR (v := lowP (numV x3)) c1 c2 (by decide)
  have l2 := law_led_ok (k := 4500) hQ (v := lowP (numV x3)) c1 c2 (by decide)
  rw [← er] at l1
  rw [← eq] at l2
  have cm := law_sign_ok (k := 4600) (act (mat r) (lowP (numV x3))) (act (mat q) (lowP (numV x3))) (a1.mono (by decide)) (a2.mono (by decide)) (b1.mono (by decide)) (b2.mono (by decide)) (by decide)
  generalize lowP (numV x3) = c at *
  (unfold sem__law_due; refine Ev.go_fn rfl ?_; unfold pk__law_due; simp only [Ev.slots, List.map_cons, List.map_nil, List.length_cons, List.length_nil, List.cons_append, List.nil_append, List.replicate, Nat.reduceSub, Nat.reduceAdd])
  (repeat regstrif_gather)
  (refine go_val (isa_t rfl) ?_; simp only [tyB]; (repeat regstrif_gather))
  (refine go_val (isa_t rfl) ?_; simp only [tyB]; (repeat regstrif_gather))
  (refine go_val (isa_t rfl) ?_; simp only [tyB]; (repeat regstrif_gather))
  refine go_val e1 ?_
  (repeat regstrif_gather)
  refine go_val e2 ?_
  (repeat regstrif_gather)
  refine go_val neZ_more ?_
  (repeat regstrif_gather)
  refine go_val e3 ?_
  (repeat regstrif_gather)
  refine go_val f3 ?_
  (repeat regstrif_gather)
  refine go_val l1 ?_
  (repeat regstrif_gather)
  refine go_val l2 ?_
  (repeat regstrif_gather)
  refine go_val cm ?_
  (repeat regstrif_gather)
  (first | exact ⟨rfl, rfl⟩ | exact go_pure ⟨rfl, rfl⟩)
theorem more_due (h1 : Pl x1) (h2 : Pl x2) (h3 : Pl x3) (pn : Pap (.tup [])) : ∃ b, sem_shows_more [.tup [.str "more", x1, x2, x3], .tup []] = M.pure (.bl b) ∧ sem__law_due [.tup [.str "more", x1, x2, x3], .tup []] = M.pure (.bl b) := by
  cases h : rowB x1 && rowB x2 && numB x3 with
  | false => exact ⟨false, sm_no h1 h2 h3 pn (by rw [show nilT (.tup []) = true from rfl, Bool.and_true]; exact h), dm_no h1 h2 h3 h⟩
  | true =>
    simp only [Bool.and_eq_true] at h
    obtain ⟨⟨a, b⟩, c⟩ := h
    obtain ⟨r, q, hR, hQ, er, eq, e⟩ := sm_yes (x0 := .str "more") h1 h2 h3 a b c
    exact ⟨_, e, dm_yes hR hQ er eq h1 h2 h3 a b c⟩
end
end K72
set_option maxRecDepth 100000
set_option maxHeartbeats 4000000
namespace K72
open PySem Ev
section
variable {x0 x1 x2 x3 x4 p d : D} {z : Str}
theorem acc_never {b : Bool} (h : sem_shows_never [.tup [.str "never", x1, x2], p] = M.pure (.bl b)) : sem_accepts [.tup [.str "never", x1, x2], p] = M.pure (.bl b) := by
  refine pure_wp fun S => ?_
  have e := in_j (z := "never") (b := true) (by decide +kernel)
  have ej := ix_j (z := "never") rfl
  (unfold sem_accepts; refine Ev.go_fn rfl ?_; unfold pk_accepts; simp only [Ev.slots, List.map_cons, List.map_nil, List.length_cons, List.length_nil, List.cons_append, List.nil_append, List.replicate, Nat.reduceSub, Nat.reduceAdd])
  (repeat regstrif_gather)
  (refine go_val (isa_t rfl) ?_; simp only [tyB]; (repeat regstrif_gather))
  (refine go_val (isa_t rfl) ?_; simp only [tyB]; (repeat regstrif_gather))
  refine go_val e ?_
  (repeat regstrif_gather)
  refine go_val ej ?_
  refine tg_tup rfl (tl_cons (tg_set (tl_cons (tg_set (tl_nil ?_)))))
  simp only [List.set_cons_zero, List.set_cons_succ]
  (repeat regstrif_gather)
  refine go_val (r := sem_shows_never) rfl ?_
  (repeat regstrif_gather)
  refine go_val h ?_
  (first | exact ⟨rfl, rfl⟩ | exact go_pure ⟨rfl, rfl⟩)
theorem acc_limit {b : Bool} (h : sem_shows_limit [.tup [.str "limit", x1, x2, x3], p] = M.pure (.bl b)) : sem_accepts [.tup [.str "limit", x1, x2, x3], p] = M.pure (.bl b) := by
  refine pure_wp fun S => ?_
  have e := in_j (z := "limit") (b := true) (by decide +kernel)
  have ej := ix_j (z := "limit") rfl
  (unfold sem_accepts; refine Ev.go_fn rfl ?_; unfold pk_accepts; simp only [Ev.slots, List.map_cons, List.map_nil, List.length_cons, List.length_nil, List.cons_append, List.nil_append, List.replicate, Nat.reduceSub, Nat.reduceAdd])
  (repeat regstrif_gather)
  (refine go_val (isa_t rfl) ?_; simp only [tyB]; (repeat regstrif_gather))
  (refine go_val (isa_t rfl) ?_; simp only [tyB]; (repeat regstrif_gather))
  refine go_val e ?_
  (repeat regstrif_gather)
  refine go_val ej ?_
  refine tg_tup rfl (tl_cons (tg_set (tl_cons (tg_set (tl_nil ?_)))))
  simp only [List.set_cons_zero, List.set_cons_succ]
  (repeat regstrif_gather)
  refine go_val (r := sem_shows_limit) rfl ?_
  (repeat regstrif_gather)
  refine go_val h ?_
  (first | exact ⟨rfl, rfl⟩ | exact go_pure ⟨rfl, rfl⟩)
theorem acc_more {b : Bool} (h : sem_shows_more [.tup [.str "more", x1, x2, x3], p] = M.pure (.bl b)) : sem_accepts [.tup [.str "more", x1, x2, x3], p] = M.pure (.bl b) := by
  refine pure_wp fun S => ?_
  have e := in_j (z := "more") (b := true) (by decide +kernel)
  have ej := ix_j (z := "more") rfl
  (unfold sem_accepts; refine Ev.go_fn rfl ?_; unfold pk_accepts; simp only [Ev.slots, List.map_cons, List.map_nil, List.length_cons, List.length_nil, List.cons_append, List.nil_append, List.replicate, Nat.reduceSub, Nat.reduceAdd])
  (repeat regstrif_gather)
  (refine go_val (isa_t rfl) ?_; simp only [tyB]; (repeat regstrif_gather))
  (refine go_val (isa_t rfl) ?_; simp only [tyB]; (repeat regstrif_gather))
  refine go_val e ?_
  (repeat regstrif_gather)
  refine go_val ej ?_
  refine tg_tup rfl (tl_cons (tg_set (tl_cons (tg_set (tl_nil ?_)))))
  simp only [List.set_cons_zero, List.set_cons_succ]
  (repeat regstrif_gather)
  refine go_val (r := sem_shows_more) rfl ?_
  (repeat regstrif_gather)
  refine go_val h ?_
  (first | exact ⟨rfl, rfl⟩ | exact go_pure ⟨rfl, rfl⟩)
theorem acc_most {b : Bool} (h : sem_shows_most [.tup [.str "most", x1, x2, x3], p] = M.pure (.bl b)) : sem_accepts [.tup [.str "most", x1, x2, x3], p] = M.pure (.bl b) := by
  refine pure_wp fun S => ?_
  have e := in_j (z := "most") (b := true) (by decide +kernel)
  have ej := ix_j (z := "most") rfl
  (unfold sem_accepts; refine Ev.go_fn rfl ?_; unfold pk_accepts; simp only [Ev.slots, List.map_cons, List.map_nil, List.length_cons, List.length_nil, List.cons_append, List.nil_append, List.replicate, Nat.reduceSub, Nat.reduceAdd])
  (repeat regstrif_gather)
  (refine go_val (isa_t rfl) ?_; simp only [tyB]; (repeat regstrif_gather))
  (refine go_val (isa_t rfl) ?_; simp only [tyB]; (repeat regstrif_gather))
  refine go_val e ?_
  (repeat regstrif_gather)
  refine go_val ej ?_
  refine tg_tup rfl (tl_cons (tg_set (tl_cons (tg_set (tl_nil ?_)))))
  simp only [List.set_cons_zero, List.set_cons_succ]
  (repeat regstrif_gather)
  refine go_val (r := sem_shows_most) rfl ?_
  (repeat regstrif_gather)
  refine go_val h ?_
  (first | exact ⟨rfl, rfl⟩ | exact go_pure ⟨rfl, rfl⟩)
end
def Word (d : D) : Prop := d = .str "never" ∨ d = .str "limit" ∨ d = .str "more"
inductive Cl : D → Prop
  | oth (d : D) (h : Pl d) (n : ∀ ds, d ≠ .tup ds) : Cl d
  | nil : Cl (.tup [])
  | head (a : D) (ds : List D) (h : Pl a) (n : ∀ z, a ≠ .str z) : Cl (.tup (a :: ds))
  | short (z : Str) (ds : List D) (l : ds.length ≤ 1) (h : js_JUDGES.lookup z = none ∨ ∃ n c, js_JUDGES.lookup z = some (some (.tup [.int n, .cls c])) ∧ 2 < n) : Cl (.tup (.str z :: ds))
  | three (x0 x1 x2 : D) (h0 : Word x0 ∨ x0 ∈ odds) (h1 : Pl x1) (h2 : Pl x2) : Cl (.tup [x0, x1, x2])
  | four (x0 x1 x2 x3 : D) (h0 : Word x0 ∨ x0 ∈ odds) (h1 : Pl x1) (h2 : Pl x2) (h3 : Pl x3) : Cl (.tup [x0, x1, x2, x3])
  | five (x0 x1 x2 x3 x4 : D) (h0 : Word x0) (h1 : Pl x1) (h2 : Pl x2) : Cl (.tup [x0, x1, x2, x3, x4])
def shortB : D → Bool
  | .tup (.str _ :: ds) => decide (ds.length ≤ 1)
  | _ => true
theorem odds_short : odds.all shortB = true := by kernel_rfl
theorem odds_cl {d : D} (h : d ∈ odds) : Cl d := by
  have hp := odds_pl h
  have hb := (Bool.and_eq_true_iff.mp (Bool.and_eq_true_iff.mp (List.all_eq_true.mp odds_B d h)).2).1
  have hs := List.all_eq_true.mp odds_short d h
  rcases hp.tup? with ⟨ds, rfl, _, hds⟩ | ⟨_, q⟩
  · rcases ds with _ | ⟨a, ds⟩
    · exact .nil
    · rcases (hds a List.mem_cons_self).str? with ⟨z, rfl, _⟩ | ⟨_, q⟩
      · exact .short z ds (of_decide_eq_true hs) (.inl (Option.isNone_iff_eq_none.mp hb))
      · exact .head a ds (hds a List.mem_cons_self) q
  · exact .oth _ hp q
theorem pap_nil : Pap (.tup []) := ⟨.tup [] (by simp) nofun, rfl, rfl⟩
def Ag (d p : D) : Prop := ∃ b, sem_accepts [d, p] = M.pure (.bl b) ∧ sem__law_due [d, p] = M.pure (.bl b)
section
variable {x0 x1 x2 x3 x4 p d : D} {z : Str}
theorem ag_no (h : sem_accepts [d, p] = M.pure (.bl false)) (l : sem__law_due [d, p] = M.pure (.bl false)) : Ag d p := ⟨_, h, l⟩
theorem acc_bad (h : Cl d) (hp : Pap p) (hq : nilT p = false) : sem_accepts [d, p] = M.pure (.bl false) := by
  have three : ∀ {x0 x1 x2 : D}, Word x0 ∨ x0 ∈ odds → Pl x1 → Pl x2 → sem_accepts [.tup [x0, x1, x2], p] = M.pure (.bl false) := fun {x0 x1 x2} h0 h1 h2 => by
    have nev : sem_accepts [.tup [.str "never", x1, x2], p] = M.pure (.bl false) := acc_never (sn_no h1 h2 hp (by rw [hq, Bool.and_false]))
    rcases h0 with (rfl | rfl | rfl) | ho
    · exact nev
    · exact acc_len (n := 4) rfl (by simp)
    · exact acc_len (n := 4) rfl (by simp)
    · rcases (odds_pl ho).str? with ⟨z, rfl, _⟩ | ⟨_, q⟩
      · have hz := odds_str ho
        simp only [List.mem_cons, List.not_mem_nil, or_false] at hz
        rcases hz with rfl | rfl | rfl | rfl | rfl
        · exact acc_len (n := 5) rfl (by simp)
        · exact acc_out rfl
        · exact acc_out rfl
        · exact acc_len (n := 4) rfl (by simp)
        · exact nev
      · exact acc_head (odds_pl ho) q
  cases h with
  | oth _ h n => exact acc_not h n
  | nil => exact acc_nil
  | head a ds h n => exact acc_head h n
  | short z ds l h =>
    rcases h with h | ⟨n, c, h, hn⟩
    · exact acc_out h
    · exact acc_len h (by omega)
  | three x0 x1 x2 h0 h1 h2 => exact three h0 h1 h2
  | four x0 x1 x2 x3 h0 h1 h2 h3 =>
    rcases h0 with (rfl | rfl | rfl) | ho
    · exact acc_len (n := 3) rfl (by simp)
    · exact acc_limit (sl_no h1 h2 h3 hp (by rw [hq, Bool.and_false, Bool.false_and]))
    · exact acc_more (sm_no h1 h2 h3 hp (by rw [hq, Bool.and_false, Bool.false_and]))
    · rcases (odds_pl ho).str? with ⟨z, rfl, _⟩ | ⟨_, q⟩
      · have hz := odds_str ho
        simp only [List.mem_cons, List.not_mem_nil, or_false] at hz
        rcases hz with rfl | rfl | rfl | rfl | rfl
        · exact acc_len (n := 5) rfl (by simp)
        · exact acc_out rfl
        · exact acc_out rfl
        · exact acc_most (sb_most h1 h2 h3 hp)
        · exact acc_len (n := 3) rfl (by simp)
      · exact acc_head (odds_pl ho) q
  | five x0 x1 x2 x3 x4 h0 h1 h2 =>
    rcases h0 with rfl | rfl | rfl
    · exact acc_len (n := 3) rfl (by simp)
    · exact acc_len (n := 4) rfl (by simp)
    · exact acc_len (n := 4) rfl (by simp)
theorem tup_of (h : Cl d) : (∃ ds, d = .tup ds) ∨ (Pl d ∧ ∀ ds, d ≠ .tup ds) := by
  cases h with
  | oth _ h n => exact .inr ⟨h, n⟩
  | _ => exact .inl ⟨_, rfl⟩
theorem agree (h : Cl d) (hp : Pap p) : Ag d p := by
  cases hq : nilT p with
  | false =>
    refine ag_no (acc_bad h hp hq) ?_
    rcases tup_of h with ⟨ds, rfl⟩ | ⟨h, n⟩
    · exact due_pap hp hq
    · exact due_not h n
  | true =>
    have e := tup_nil hq
    subst e
    cases h with
    | oth _ h n => exact ag_no (acc_not h n) (due_not h n)
    | nil => exact ag_no acc_nil due_nil
    | head a ds h n => exact ag_no (acc_head h n) (due_head h n)
    | short z ds l h =>
      refine ag_no ?_ (due_short l)
      rcases h with h | ⟨n, c, h, hn⟩
      · exact acc_out h
      · exact acc_len h (by omega)
    | three x0 x1 x2 h0 h1 h2 =>
      have nev : Ag (.tup [.str "never", x1, x2]) (.tup []) := by
        obtain ⟨b, e1, e2⟩ := never_due h1 h2 pap_nil
        exact ⟨b, acc_never e1, e2⟩
      rcases h0 with (rfl | rfl | rfl) | ho
      · exact nev
      · exact ag_no (acc_len (n := 4) rfl (by simp)) (due_limit3 h1 h2)
      · exact ag_no (acc_len (n := 4) rfl (by simp)) (due_more3 h1 h2)
      · rcases (odds_pl ho).str? with ⟨z, rfl, _⟩ | ⟨_, q⟩
        · have hz := odds_str ho
          simp only [List.mem_cons, List.not_mem_nil, or_false] at hz
          rcases hz with rfl | rfl | rfl | rfl | rfl
          · exact ag_no (acc_len (n := 5) rfl (by simp)) (due_oth3 h1 h2 (by decide +kernel) (by decide +kernel) (by decide +kernel))
          · exact ag_no (acc_out rfl) (due_oth3 h1 h2 (by decide +kernel) (by decide +kernel) (by decide +kernel))
          · exact ag_no (acc_out rfl) (due_oth3 h1 h2 (by decide +kernel) (by decide +kernel) (by decide +kernel))
          · exact ag_no (acc_len (n := 4) rfl (by simp)) (due_oth3 h1 h2 (by decide +kernel) (by decide +kernel) (by decide +kernel))
          · exact nev
        · exact ag_no (acc_head (odds_pl ho) q) (due_head (odds_pl ho) q)
    | four x0 x1 x2 x3 h0 h1 h2 h3 =>
      rcases h0 with (rfl | rfl | rfl) | ho
      · exact ag_no (acc_len (n := 3) rfl (by simp)) (due_never4 h1 h2)
      · obtain ⟨b, e1, e2⟩ := limit_due h1 h2 h3 pap_nil
        exact ⟨b, acc_limit e1, e2⟩
      · obtain ⟨b, e1, e2⟩ := more_due h1 h2 h3 pap_nil
        exact ⟨b, acc_more e1, e2⟩
      · rcases (odds_pl ho).str? with ⟨z, rfl, _⟩ | ⟨_, q⟩
        · have hz := odds_str ho
          simp only [List.mem_cons, List.not_mem_nil, or_false] at hz
          rcases hz with rfl | rfl | rfl | rfl | rfl
          · exact ag_no (acc_len (n := 5) rfl (by simp)) (due_oth4 h1 h2 (by decide +kernel) (by decide +kernel) (by decide +kernel))
          · exact ag_no (acc_out rfl) (due_oth4 h1 h2 (by decide +kernel) (by decide +kernel) (by decide +kernel))
          · exact ag_no (acc_out rfl) (due_oth4 h1 h2 (by decide +kernel) (by decide +kernel) (by decide +kernel))
          · exact ag_no (acc_most (sb_most h1 h2 h3 hp)) (due_oth4 h1 h2 (by decide +kernel) (by decide +kernel) (by decide +kernel))
          · exact ag_no (acc_len (n := 3) rfl (by simp)) (due_never4 h1 h2)
        · exact ag_no (acc_head (odds_pl ho) q) (due_head (odds_pl ho) q)
    | five x0 x1 x2 x3 x4 h0 h1 h2 =>
      rcases h0 with rfl | rfl | rfl
      · exact ag_no (acc_len (n := 3) rfl (by simp)) (due_never5 h1 h2)
      · exact ag_no (acc_len (n := 4) rfl (by simp)) (due_limit5 h1 h2)
      · exact ag_no (acc_len (n := 4) rfl (by simp)) (due_more5 h1 h2)
end
end K72
set_option maxRecDepth 100000
set_option maxHeartbeats 4000000
namespace K72
open PySem Ev
theorem ints_pl {is : List Int} (l : is.length ≤ 100) (h : ∀ i ∈ is, Bd 4500 i) : Pl (.tup (is.map D.int)) :=
  .tup _ (by rw [List.length_map]; exact l) fun x hx => by
    obtain ⟨i, hi, rfl⟩ := List.mem_map.mp hx
    exact .int i (h i hi)
theorem limV_len (r : List Pc) : 2 ≤ (limV r).length ∧ (limV r).length ≤ 3 := by
  unfold limV
  split <;> simp
theorem limV_pl {r : List Pc} (h : Row r) : Pl (.tup ((limV r).map D.int)) := ints_pl (by have := (limV_len r).2; omega) fun i hi => (limV_few h i hi).mono (by decide)
theorem crossing_wp {S : List Ob} {n c : Nat} {P : D → List Ob → Prop} (h : Tape S n c) (hc : c ≤ 900000) (q : ∀ r r2 S', Row r → Row r2 → Tape S' n (c + 3) → P (.tup [rowT r, rowT r2]) S') : Wp (sem__law_crossing [.ref n]) S P := by
  (unfold sem__law_crossing; refine Ev.go_fn rfl ?_; unfold pk__law_crossing; simp only [Ev.slots, List.map_cons, List.map_nil, List.length_cons, List.length_nil, List.cons_append, List.nil_append, List.replicate, Nat.reduceSub, Nat.reduceAdd])
  (repeat regstrif_gather)
  refine pick_wp h (by omega) (by decide) (by decide) fun u S1 u0 u1 h1 => ?_
  (repeat regstrif_gather)
  refine pick_wp h1 (by omega) (by decide) (by decide) fun v S2 v0 v1 h2 => ?_
  (repeat regstrif_gather)
  refine pick_wp h2 (by omega) (by decide) (by decide) fun w S3 w0 w1 h3 => ?_
  (repeat regstrif_gather)
  refine q [⟨true, 1 + u + 4 + v⟩, ⟨false, 1 + w⟩] [⟨true, 1 + u⟩, ⟨false, 12⟩, ⟨true, 12⟩] _ (two_row (by omega) (by omega) (by omega) (by omega)) ⟨fun p hp => ?_, by simp⟩ h3
  simp only [List.mem_cons, List.not_mem_nil, or_false] at hp
  rcases hp with rfl | rfl | rfl
  · exact ⟨by show 1 ≤ 1 + u; omega, by show 1 + u ≤ 12; omega⟩
  · exact ⟨by decide, by decide⟩
  · exact ⟨by decide, by decide⟩
def mulD (b : Int) : D → D
  | .int i => .int (b * i)
  | d => d
theorem told_wp {S : List Ob} {n c : Nat} {r m : List Pc} {P : D → List Ob → Prop} (hr : Row r) (hm : Row m) (h : Tape S n c) (hc : c ≤ 900000) (q : ∀ d S', Pl d → Tape S' n (c + 3) → P d S') : Wp (sem__law_told_limit [.ref n, rowT r, rowT m]) S P := by
  have e1 := law_limit_ok hr
  have e2 := law_limit_ok hm
  obtain ⟨l2, l3⟩ := limV_len r
  have few := limV_few hr
  have pr := limV_pl hr
  have pm := limV_pl hm
  generalize limV r = is at *
  generalize limV m = js at *
  (unfold sem__law_told_limit; refine Ev.go_fn rfl ?_; unfold pk__law_told_limit; simp only [Ev.slots, List.map_cons, List.map_nil, List.length_cons, List.length_nil, List.cons_append, List.nil_append, List.replicate, Nat.reduceSub, Nat.reduceAdd])
  (repeat regstrif_gather)
  refine go_val e1 ?_
  (repeat regstrif_gather)
  refine pick_wp h (by omega) (by decide) (by decide) fun w S1 w0 w1 h1 => ?_
  (repeat regstrif_gather)
  refine ite_d (fun z => ?_) (fun z => ?_)
  · (repeat regstrif_gather)
    exact q _ _ pr (h1.mono (by omega))
  · (repeat regstrif_gather)
    refine ite_d (fun z => ?_) (fun z => ?_)
    · (repeat regstrif_gather)
      refine go_val e2 ?_
      exact q _ _ pm (h1.mono (by omega))
    · (repeat regstrif_gather)
      refine pick_wp h1 (by omega) (by decide) (by decide) fun u S2 u0 u1 h2 => ?_
      (repeat regstrif_gather)
      simp only [List.length_map]
      refine pick_wp h2 (by omega) (by omega) (by omega) fun pl S3 p0 p1 h3 => ?_
      obtain ⟨i, rfl⟩ : ∃ i : Nat, pl = i := ⟨pl.toNat, by omega⟩
      have hi : i < is.length := by omega
      (repeat regstrif_gather)
      refine ite_d (fun z => ?_) (fun z => ?_)
      · (repeat regstrif_gather)
        have bu : Bd 64 (2 + u) := Bd.of64 (by omega) (by omega)
        refine go_map (f := mulD (2 + u)) (is.map D.int) (fun x hx => ⟨_, rfl, rfl, ?_⟩) (by rw [List.length_map]; unfold lim; omega) ?_
        · obtain ⟨j, hj, rfl⟩ := List.mem_map.mp hx
          have bj := few j hj
          refine pure_wp fun S => ?_
          (repeat regstrif_gather)
          exact ⟨rfl, rfl⟩
        (repeat regstrif_gather)
        have e : (is.map D.int).map (mulD (2 + u)) = (is.map fun j => (2 + u) * j).map D.int := by
          rw [List.map_map, List.map_map]
          rfl
        rw [e]
        refine go_val (r := .tup ((is.map fun j => (2 + u) * j).map D.int)) rfl ?_
        refine q _ _ (ints_pl (by rw [List.length_map]; omega) fun j hj => ?_) h3
        obtain ⟨k, hk, rfl⟩ := List.mem_map.mp hj
        exact (bu.mul (few k hk)).mono (by decide)
      · have ei := ix_memT (is.map D.int) (i := i) (by rw [List.length_map]; exact hi)
        rw [List.getElem_map] at ei
        have bi := few is[i] (List.getElem_mem hi)
        have fin : P (.tup ((is.map D.int).set i (.int (is[i] + 1)))) S3 := by
          refine q _ _ (.tup _ (by rw [List.length_set, List.length_map]; omega) fun x hx => ?_) h3
          rcases List.mem_or_eq_of_mem_set hx with hx | rfl
          · obtain ⟨j, hj, rfl⟩ := List.mem_map.mp hx
            exact .int j ((few j hj).mono (by decide))
          · exact .int _ ((Bd.add bi (show Bd 1 (1 : Int) from .mk (by decide))).mono (by decide))
        (repeat regstrif_gather)
        refine go_val ei ?_
        (repeat regstrif_gather)
        rw [show ((i : Int)).toNat = i by omega, show ((i : Int) + 1).toNat = i + 1 by omega, set_eq (by rw [List.length_map]; exact hi)]
        exact fin
inductive Drawn : D → Prop
  | never (r q : List Pc) (hr : Row r) (hq : Row q) : Drawn (.tup [.str "never", rowT r, rowT q])
  | limit (r : List Pc) (x y : D) (hr : Row r) (hx : Pl x) (hy : Pl y) : Drawn (.tup [.str "limit", rowT r, x, y])
  | more (r q : List Pc) (x : D) (hr : Row r) (hq : Row q) (hx : Pl x) : Drawn (.tup [.str "more", rowT r, rowT q, x])
theorem ix_pl (l : List D) (hl : ∀ v ∈ l, Pl v) {i : Int} (h0 : 0 ≤ i) (h1 : i < l.length) : ∃ v, Pl v ∧ dIx (.lst l) (.int i) = M.pure v := by
  obtain ⟨d, hm, e⟩ := ix_mem l h0 h1
  exact ⟨d, hl d hm, e⟩
theorem case_wp {S : List Ob} {n c : Nat} {P : D → List Ob → Prop} (h : Tape S n c) (hc : c ≤ 700000) (q : ∀ d S', Drawn d → Tape S' n (c + 80) → P d S') : Wp (sem__law_case [.ref n]) S P := by
  (unfold sem__law_case; refine Ev.go_fn rfl ?_; unfold pk__law_case; simp only [Ev.slots, List.map_cons, List.map_nil, List.length_cons, List.length_nil, List.cons_append, List.nil_append, List.replicate, Nat.reduceSub, Nat.reduceAdd])
  (repeat regstrif_gather)
  refine some_row_wp h (by omega) (by decide) (by decide) fun r d S1 hr hn hl hd h1 => ?_
  (repeat regstrif_gather)
  refine gs_par3 ?_
  (repeat regstrif_gather)
  refine near_wp hr hn (by omega) h1 (by omega) fun m S2 hm hmn h2 => ?_
  (repeat regstrif_gather)
  refine pick_wp h2 (by omega) (by decide) (by decide) fun w S3 w0 w1 h3 => ?_
  (repeat regstrif_gather)
  refine anyload_wp h3 (by omega) fun s S4 hs rs h4 => ?_
  (repeat regstrif_gather)
  refine ⟨_, _, _, rfl, ?_⟩
  simp only [List.set_cons_zero, List.set_cons_succ]
  refine gs_seq (Ws.mono (N := fun sd' S' => ∃ r m : List Pc, Row r ∧ Row m ∧ Tape S' n (c + 70) ∧ sd' = [.val (.ref n), .val (rowT r), .val d, .val (rowT m), .val (.int w), .val s, .no, .no, .no]) (R := fun _ _ => False) (B := fun _ _ => False) (C := fun _ _ => False) ?_ ?_ (fun _ _ h => h.elim) (fun _ _ h => h.elim) (fun _ _ h => h.elim))
  · (repeat regstrif_gather)
    refine pick_wp h4 (by omega) (by decide) (by decide) fun k S5 k0 k1 h5 => ?_
    (repeat regstrif_gather)
    refine ite_d (fun z => ?_) (fun z => ?_)
    · (repeat regstrif_gather)
      refine crossing_wp h5 (by omega) fun r2 m2 S6 hr2 hm2 h6 => ?_
      (repeat regstrif_gather)
      exact ⟨r2, m2, hr2, hm2, h6.mono (by omega), rfl⟩
    · (repeat regstrif_gather)
      refine pick_wp h5 (by omega) (by decide) (by decide) fun k S6 k0 k1 h6 => ?_
      (repeat regstrif_gather)
      refine ite_d (fun z => ?_) (fun z => ?_)
      · (repeat regstrif_gather)
        exact ⟨m, r, hm, hr, h6.mono (by omega), rfl⟩
      · (repeat regstrif_gather)
        exact ⟨r, m, hr, hm, h6.mono (by omega), rfl⟩
  · rintro sd S5 ⟨r, m, hr, hm, h5, rfl⟩
    (repeat regstrif_gather)
    refine ite_d (fun z => ?_) (fun z => ?_)
    · (repeat regstrif_gather)
      exact q _ _ (.never r m hr hm) (h5.mono (by omega))
    · (repeat regstrif_gather)
      refine ite_d (fun z => ?_) (fun z => ?_)
      · (repeat regstrif_gather)
        refine told_wp hr hm h5 (by omega) fun t S6 ht h6 => ?_
        (repeat regstrif_gather)
        exact q _ _ (.limit r s t hr hs.pl ht) (h6.mono (by omega))
      · have n01 : NP 1 (0, 1) := ⟨⟨by decide, by decide⟩, ⟨by decide, by decide⟩, rfl⟩
        obtain ⟨e1, n1⟩ := after_np hr n01 60 (by decide)
        obtain ⟨e2, n2⟩ := after_np hm n01 60 (by decide)
        generalize valP r (0, 1) 60 = u at *
        generalize valP m (0, 1) 60 = v at *
        have nu := n1.nn (by decide)
        have nv := n2.nn (by decide)
        have p5 : 0 < u.1 + v.1 + (u.2 + v.2) := by have := nu.p; have := nv.p; omega
        have s1 : Sm 4301 (u.1 + v.1) := ((n1.t.add n2.t).mono (by decide))
        have s2 : Sm 4301 (u.2 + v.2) := ((n1.b.add n2.b).mono (by decide))
        have e5 := law_lowest_ok (k := 4301) _ _ s1 s2 p5 (by decide)
        have nn5 : Nn (u.1 + v.1, u.2 + v.2) := ⟨s1.1, s2.1, p5⟩
        have n5 : NP 4301 (lowP (u.1 + v.1, u.2 + v.2)) := by
          obtain ⟨x, y⟩ := sm_low nn5 s1 s2
          exact ⟨x, y, low_num nn5⟩
        have p25 : dPow (.int 10) (.int 25) = M.pure (.int 10000000000000000000000000) := funext fun S => by kernel_rfl
        (repeat regstrif_gather)
        refine go_val e1 ?_
        (repeat regstrif_gather)
        refine go_val e2 ?_
        (repeat regstrif_gather)
        refine go_val (ix0 u) ?_
        (repeat regstrif_gather)
        refine go_val (ix0 v) ?_
        (repeat regstrif_gather)
        refine go_val (ix1 u) ?_
        (repeat regstrif_gather)
        refine go_val (ix1 v) ?_
        (repeat regstrif_gather)
        refine go_val e5 ?_
        (repeat regstrif_gather)
        refine go_val p25 ?_
        (repeat regstrif_gather)
        refine go_val p25 ?_
        (repeat regstrif_gather)
        refine pick_wp h5 (by omega) (by decide) (by decide) fun y S6 y0 y1 h6 => ?_
        have small : ∀ a b : Int, a.natAbs < 2 ^ 128 → b.natAbs < 2 ^ 128 → Pl (.tup [.int a, .int b]) := fun a b ha hb => .tup _ (by simp) fun x hx => mem2 (.int a (.mk (Nat.lt_of_lt_of_le ha (by decide +kernel)))) (.int b (.mk (Nat.lt_of_lt_of_le hb (by decide +kernel)))) hx
        obtain ⟨x, hx, ex⟩ := ix_pl [s, .int 0, .tup [.int 1, .int 0], pairD (lowP (u.1 + v.1, u.2 + v.2)), .tup [.int (10000000000000000000000000 + 1), .int 3], .tup [.int 3, .int 10000000000000000000000000]] (fun x hx => mem6 hs.pl (int_pl 0 (by decide)) (small 1 0 (by decide) (by decide)) (n5.pl (by decide)) (small _ _ (by decide) (by decide)) (small _ _ (by decide) (by decide)) hx) (i := y) y0 (by show y < 6; omega)
        (repeat regstrif_gather)
        refine go_val ex ?_
        (repeat regstrif_gather)
        exact q _ _ (.more r m x hr hm hx) (h6.mono (by omega))
end K72
set_option maxRecDepth 100000
set_option maxHeartbeats 4000000
namespace K72
open PySem Ev
theorem word_str {d : D} (h : Word d) : ∃ z, d = .str z ∧ Pl d ∧ ∃ n c, js_JUDGES.lookup z = some (some (.tup [.int n, .cls c])) ∧ 2 < n := by
  rcases h with rfl | rfl | rfl
  · exact ⟨_, rfl, .str _ (by decide +kernel), 3, _, rfl, by decide⟩
  · exact ⟨_, rfl, .str _ (by decide +kernel), 4, _, rfl, by decide⟩
  · exact ⟨_, rfl, .str _ (by decide +kernel), 4, _, rfl, by decide⟩
theorem mem3 {x0 x1 x2 z : D} (h0 : Pl x0) (h1 : Pl x1) (h2 : Pl x2) (h : z ∈ [x0, x1, x2]) : Pl z := by
  simp only [List.mem_cons, List.not_mem_nil, or_false] at h
  rcases h with rfl | rfl | rfl <;> assumption
theorem three_cases {i : Nat} (h : i < 3) : i = 0 ∨ i = 1 ∨ i = 2 := by omega
theorem four_cases {i : Nat} (h : i < 4) : i = 0 ∨ i = 1 ∨ i = 2 ∨ i = 3 := by omega
theorem bent3 {S : List Ob} {n c : Nat} {x0 x1 x2 : D} {P : D → List Ob → Prop} (h0 : Word x0) (p1 : Pl x1) (p2 : Pl x2) (h : Tape S n c) (hc : c ≤ 800000) (q : ∀ d' S', Cl d' → Tape S' n (c + 4) → P d' S') : Wp (sem__law_bent [.ref n, .tup [x0, x1, x2]]) S P := by
  obtain ⟨z, ez, p0, hz⟩ := word_str h0
  refine bent_gen (by simp) (by simp) (fun x hx => mem3 p0 p1 p2 hx) h hc ?_ ?_ ?_ ?_ ?_ ?_
  · intro i o S' hi ho ht
    have po := odds_pl ho
    rcases three_cases hi with rfl | rfl | rfl
    · exact q _ _ (.three _ _ _ (.inr ho) p1 p2) ht
    · exact q _ _ (.three _ _ _ (.inl h0) po p2) ht
    · exact q _ _ (.three _ _ _ (.inl h0) p1 po) ht
  · intro S' ht
    subst ez
    exact q (.tup [.str z, x1]) _ (.short z [x1] (by simp) (.inr hz)) ht
  · intro o S' ho ht
    exact q (.tup [x0, x1, x2, o]) _ (.four _ _ _ _ (.inl h0) p1 p2 (odds_pl ho)) ht
  · intro S' ht
    exact q _ _ (.oth _ (.lst _ (by simp) fun x hx => mem3 p0 p1 p2 hx) (fun _ => nofun)) ht
  · intro o S' ho ht
    exact q _ _ (odds_cl ho) ht
  · intro i y xs S' hi t ht
    have h5 : i < 3 := by
      have := (List.getElem?_eq_some_iff.mp hi).1
      simpa using this
    rcases three_cases h5 with rfl | rfl | rfl
    · subst ez
      cases hi
    · exact q _ _ (.three _ _ _ (.inl h0) t.pl p2) ht
    · exact q _ _ (.three _ _ _ (.inl h0) p1 t.pl) ht
theorem bent4 {S : List Ob} {n c : Nat} {x0 x1 x2 x3 : D} {P : D → List Ob → Prop} (h0 : Word x0) (p1 : Pl x1) (p2 : Pl x2) (p3 : Pl x3) (h : Tape S n c) (hc : c ≤ 800000) (q : ∀ d' S', Cl d' → Tape S' n (c + 4) → P d' S') : Wp (sem__law_bent [.ref n, .tup [x0, x1, x2, x3]]) S P := by
  obtain ⟨z, ez, p0, hz⟩ := word_str h0
  refine bent_gen (by simp) (by simp) (fun x hx => mem4 p0 p1 p2 p3 hx) h hc ?_ ?_ ?_ ?_ ?_ ?_
  · intro i o S' hi ho ht
    have po := odds_pl ho
    rcases four_cases hi with rfl | rfl | rfl | rfl
    · exact q _ _ (.four _ _ _ _ (.inr ho) p1 p2 p3) ht
    · exact q _ _ (.four _ _ _ _ (.inl h0) po p2 p3) ht
    · exact q _ _ (.four _ _ _ _ (.inl h0) p1 po p3) ht
    · exact q _ _ (.four _ _ _ _ (.inl h0) p1 p2 po) ht
  · intro S' ht
    exact q (.tup [x0, x1, x2]) _ (.three _ _ _ (.inl h0) p1 p2) ht
  · intro o S' ho ht
    exact q (.tup [x0, x1, x2, x3, o]) _ (.five _ _ _ _ _ h0 p1 p2) ht
  · intro S' ht
    exact q _ _ (.oth _ (.lst _ (by simp) fun x hx => mem4 p0 p1 p2 p3 hx) (fun _ => nofun)) ht
  · intro o S' ho ht
    exact q _ _ (odds_cl ho) ht
  · intro i y xs S' hi t ht
    have h5 : i < 4 := by
      have := (List.getElem?_eq_some_iff.mp hi).1
      simpa using this
    rcases four_cases h5 with rfl | rfl | rfl | rfl
    · subst ez
      cases hi
    · exact q _ _ (.four _ _ _ _ (.inl h0) t.pl p2 p3) ht
    · exact q _ _ (.four _ _ _ _ (.inl h0) p1 t.pl p3) ht
    · exact q _ _ (.four _ _ _ _ (.inl h0) p1 p2 t.pl) ht
theorem bent_wp {S : List Ob} {n c : Nat} {d : D} {P : D → List Ob → Prop} (hd : Drawn d) (h : Tape S n c) (hc : c ≤ 800000) (q : ∀ d' S', Cl d' → Tape S' n (c + 4) → P d' S') : Wp (sem__law_bent [.ref n, d]) S P := by
  cases hd with
  | never r s hr hs => exact bent3 (.inl rfl) (row_pl hr) (row_pl hs) h hc q
  | limit r x y hr hx hy => exact bent4 (.inr (.inl rfl)) (row_pl hr) hx hy h hc q
  | more r s x hr hs hx => exact bent4 (.inr (.inr rfl)) (row_pl hr) (row_pl hs) hx h hc q
theorem drawn_cl {d : D} (hd : Drawn d) : Cl d := by
  cases hd with
  | never r s hr hs => exact .three _ _ _ (.inl (.inl rfl)) (row_pl hr) (row_pl hs)
  | limit r x y hr hx hy => exact .four _ _ _ _ (.inl (.inr (.inl rfl))) (row_pl hr) hx hy
  | more r s x hr hs hx => exact .four _ _ _ _ (.inl (.inr (.inr rfl))) (row_pl hr) (row_pl hs) hx
def paps : List D := [.non, .lst [], .str "0", .tup [.int 0], .str "", .dct [] [], .tup [.tup []], rl 1]
theorem pap_ok : ∀ d ∈ paps, Pap d := by
  intro d hd
  have hp := plB_ok 9 d (List.all_eq_true.mp (show paps.all (plB 9) = true by kernel_rfl) d hd)
  simp only [paps, List.mem_cons, List.not_mem_nil, or_false] at hd
  rcases hd with rfl | rfl | rfl | rfl | rfl | rfl | rfl | rfl <;> exact ⟨hp, by funext S; kernel_rfl, rfl⟩
theorem right_ok (S : List Ob) (n : Nat) (h : Tape S n 0) : Wp (sem__law_right [.ref n]) S fun d S' => d = .bl true := by
  (unfold sem__law_right; refine Ev.go_fn rfl ?_; unfold pk__law_right; simp only [Ev.slots, List.map_cons, List.map_nil, List.length_cons, List.length_nil, List.cons_append, List.nil_append, List.replicate, Nat.reduceSub, Nat.reduceAdd])
  (repeat regstrif_gather)
  refine gs_loop (J := fun ds sd S' => (∃ c, c + 100 * ds.length ≤ 1200 ∧ Tape S' n c) ∧ ∃ a b c2, sd = [.val (.ref n), a, b, c2]) ?_ ?_ _ _ _ ⟨⟨0, by simp [rngD], h⟩, _, _, _, rfl⟩
  · rintro d ds sd S' ⟨⟨c, hc, h⟩, a, b, c2, rfl⟩
    rw [List.length_cons] at hc
    refine ⟨_, _, rfl, ?_⟩
    (repeat regstrif_gather)
    refine case_wp h (by omega) fun x S1 hx h1 => ?_
    repeat (first | with_reducible refine Ev.go_bind ?_ | with_reducible refine Ev.go_pure ?_)
    refine gs_seq (Ws.mono (N := fun sd' S' => ∃ said, Cl said ∧ Tape S' n (c + 85) ∧ sd' = [.val (.ref n), .val d, .val said, .val (.tup [])]) (R := fun _ _ => False) (B := fun _ _ => False) (C := fun _ _ => False) ?_ ?_ (fun _ _ h => h.elim) (fun _ _ h => h.elim) (fun _ _ h => h.elim))
    · (repeat regstrif_gather)
      refine pick_wp h1 (by omega) (by decide) (by decide) fun k S2 k0 k1 h2 => ?_
      (repeat regstrif_gather)
      refine ite_d (fun z => ?_) (fun z => ?_)
      · (repeat regstrif_gather)
        refine bent_wp hx h2 (by omega) fun d' S3 hd' h3 => ?_
        (repeat regstrif_gather)
        exact ⟨d', hd', h3.mono (by omega), rfl⟩
      · (repeat regstrif_gather)
        exact ⟨x, drawn_cl hx, h2.mono (by omega), rfl⟩
    · rintro sd S2 ⟨said, hs, h2, rfl⟩
      refine gs_seq (Ws.mono (N := fun sd' S' => ∃ p, Pap p ∧ Tape S' n (c + 87) ∧ sd' = [.val (.ref n), .val d, .val said, .val p]) (R := fun _ _ => False) (B := fun _ _ => False) (C := fun _ _ => False) ?_ ?_ (fun _ _ h => h.elim) (fun _ _ h => h.elim) (fun _ _ h => h.elim))
      · (repeat regstrif_gather)
        refine pick_wp h2 (by omega) (by decide) (by decide) fun k S3 k0 k1 h3 => ?_
        (repeat regstrif_gather)
        refine ite_d (fun z => ?_) (fun z => ?_)
        · refine gs_seq ?_
          refine gs_asg ?_
          refine go_bind (go_val (r := .lst paps) (by funext S; kernel_rfl) ?_)
          (repeat regstrif_gather)
          refine pick_wp h3 (by omega) (by decide) (by decide) fun k S4 k0 k1 h4 => ?_
          obtain ⟨p, hm, e⟩ := ix_mem paps (i := k) k0 (by show k < 8; omega)
          (repeat regstrif_gather)
          refine go_val e ?_
          (repeat regstrif_gather)
          exact ⟨p, pap_ok p hm, h4.mono (by omega), rfl⟩
        · (repeat regstrif_gather)
          exact ⟨_, pap_nil, h3.mono (by omega), rfl⟩
      · rintro sd S3 ⟨p, hp, h3, rfl⟩
        obtain ⟨b, e1, e2⟩ := agree hs hp
        (repeat regstrif_gather)
        refine go_val e1 ?_
        (repeat regstrif_gather)
        refine go_val e2 ?_
        (repeat regstrif_gather)
        exact ⟨⟨c + 87, by omega, h3⟩, _, _, _, rfl⟩
  · rintro sd S' ⟨_, a, b, c2, rfl⟩
    (repeat regstrif_gather)
    rfl
theorem law_ok (S : List Ob) (ns : List Int) (l : ns.length ≤ 63) (hb : ∀ z ∈ ns, Builtin.Int.intBits z ≤ 1048576) : Wp (sem_law [.scr (ns.map D.int)]) S fun d _ => d = .bl true := by
  (unfold sem_law; refine Ev.go_fn rfl ?_; unfold pk_law; simp only [Ev.slots, List.map_cons, List.map_nil, List.length_cons, List.length_nil, List.cons_append, List.nil_append, List.replicate, Nat.reduceSub, Nat.reduceAdd])
  (repeat regstrif_gather)
  simp only [List.length_map]
  (repeat regstrif_gather)
  refine Wp.mono (all_spots (by split <;> split <;> omega) S fun i h0 h1 S => ⟨_, rfl, ?_⟩) ?_
  · obtain ⟨z, e⟩ := cell_ok ns i h0 h1 hb
    (repeat regstrif_gather)
    refine go_val e ?_
    (repeat regstrif_gather)
    refine go_use (src_ok z S) ?_
    rintro d S' ⟨rfl, hc⟩
    (repeat regstrif_gather)
    exact right_ok S' _ hc
  · intro acc S' h
    (repeat regstrif_gather)
    rw [h]
    exact go_pure rfl
theorem law_true (ns : List Int) (l : ns.length ≤ 63) (hb : ∀ z ∈ ns, Builtin.Int.intBits z ≤ 1048576) : ∃ S, sem_law [.scr (ns.map D.int)] [] = some (.ok (.bl true), S) := by
  obtain ⟨a, S, e, rfl⟩ := (law_ok [] ns l hb).ex
  exact ⟨S, e⟩
end K72
set_option maxRecDepth 100000
set_option maxHeartbeats 4000000
namespace K72
open PySem PySem.Spec PyProof.Rows L2 Ev
def adOf (l : List (Nat × Addr)) (i : Nat) : Addr := match tab l i with | some a => a | none => 0
theorem all_mk {l : PySem.W.OpenLaw} {w : World} {K : PySem.W.Frag} {h : Heap} {mg : Str → Option Value} {fa : Addr} (X : K.In h) (G : h.Ns mainGlobals mg) (hfa : mg "law" = some (.ref fa))
    {C0 : Addr} {C1 : Addr} {C2 : Addr} {C5 : Addr} {f0 : Addr} {f1 : Addr} {f2 : Addr} {f3 : Addr} {f4 : Addr} {f5 : Addr} {f6 : Addr} {f7 : Addr} {f8 : Addr} {f9 : Addr} {f10 : Addr} {f11 : Addr} {f12 : Addr} {f13 : Addr} {f14 : Addr} {f15 : Addr} {f16 : Addr} {f17 : Addr} {f18 : Addr} {f19 : Addr} {f20 : Addr} {f21 : Addr} {f22 : Addr} {f23 : Addr} {f24 : Addr} {f25 : Addr} {f26 : Addr} {f27 : Addr} {f28 : Addr} {f29 : Addr} {f30 : Addr} {f31 : Addr} {f32 : Addr} {f33 : Addr} {f34 : Addr} {f35 : Addr} {f36 : Addr} {f37 : Addr} {f38 : Addr} {f39 : Addr} {f40 : Addr} {f41 : Addr} {f42 : Addr} {f43 : Addr} {f44 : Addr} {f45 : Addr} {f46 : Addr} {f47 : Addr} {f48 : Addr} {f49 : Addr} {f50 : Addr} {f51 : Addr} {f52 : Addr} {f53 : Addr} {f54 : Addr} {f55 : Addr} {f56 : Addr} {f57 : Addr} {f58 : Addr} {f59 : Addr} {f60 : Addr} {f61 : Addr} {f62 : Addr} {f63 : Addr} {f64 : Addr} {f65 : Addr} {f66 : Addr} {f67 : Addr} {f68 : Addr} {q53_5 : Addr} {rs53_5 : List Value} {q54_2 : Addr} {rs54_2 : List Value} {od0 an0 : Option Addr} {sl0 : Array (Option Value)} {oc0 kV0 dc0 pm0 cd0 ct0 : Value} {od1 an1 : Option Addr} {sl1 : Array (Option Value)} {oc1 kV1 dc1 pm1 cd1 ct1 : Value} {od2 an2 : Option Addr} {sl2 : Array (Option Value)} {oc2 kV2 dc2 pm2 cd2 ct2 : Value} {od3 an3 : Option Addr} {sl3 : Array (Option Value)} {oc3 kV3 dc3 pm3 cd3 ct3 : Value} {od4 an4 : Option Addr} {sl4 : Array (Option Value)} {oc4 kV4 dc4 pm4 cd4 ct4 : Value} {od5 an5 : Option Addr} {sl5 : Array (Option Value)} {oc5 kV5 dc5 pm5 cd5 ct5 : Value} {od6 an6 : Option Addr} {sl6 : Array (Option Value)} {oc6 kV6 dc6 pm6 cd6 ct6 : Value} {od7 an7 : Option Addr} {sl7 : Array (Option Value)} {oc7 kV7 dc7 pm7 cd7 ct7 : Value} {od8 an8 : Option Addr} {sl8 : Array (Option Value)} {oc8 kV8 dc8 pm8 cd8 ct8 : Value} {od9 an9 : Option Addr} {sl9 : Array (Option Value)} {oc9 kV9 dc9 pm9 cd9 ct9 : Value} {od10 an10 : Option Addr} {sl10 : Array (Option Value)} {oc10 kV10 dc10 pm10 cd10 ct10 : Value} {od11 an11 : Option Addr} {sl11 : Array (Option Value)} {oc11 kV11 dc11 pm11 cd11 ct11 : Value} {od12 an12 : Option Addr} {sl12 : Array (Option Value)} {oc12 kV12 dc12 pm12 cd12 ct12 : Value} {od13 an13 : Option Addr} {sl13 : Array (Option Value)} {oc13 kV13 dc13 pm13 cd13 ct13 : Value} {od14 an14 : Option Addr} {sl14 : Array (Option Value)} {oc14 kV14 dc14 pm14 cd14 ct14 : Value} {od15 an15 : Option Addr} {sl15 : Array (Option Value)} {oc15 kV15 dc15 pm15 cd15 ct15 : Value} {od16 an16 : Option Addr} {sl16 : Array (Option Value)} {oc16 kV16 dc16 pm16 cd16 ct16 : Value} {od17 an17 : Option Addr} {sl17 : Array (Option Value)} {oc17 kV17 dc17 pm17 cd17 ct17 : Value} {od18 an18 : Option Addr} {sl18 : Array (Option Value)} {oc18 kV18 dc18 pm18 cd18 ct18 : Value} {od19 an19 : Option Addr} {sl19 : Array (Option Value)} {oc19 kV19 dc19 pm19 cd19 ct19 : Value} {od20 an20 : Option Addr} {sl20 : Array (Option Value)} {oc20 kV20 dc20 pm20 cd20 ct20 : Value} {od21 an21 : Option Addr} {sl21 : Array (Option Value)} {oc21 kV21 dc21 pm21 cd21 ct21 : Value} {od22 an22 : Option Addr} {sl22 : Array (Option Value)} {oc22 kV22 dc22 pm22 cd22 ct22 : Value} {od23 an23 : Option Addr} {sl23 : Array (Option Value)} {oc23 kV23 dc23 pm23 cd23 ct23 : Value} {od24 an24 : Option Addr} {sl24 : Array (Option Value)} {oc24 kV24 dc24 pm24 cd24 ct24 : Value} {od25 an25 : Option Addr} {sl25 : Array (Option Value)} {oc25 kV25 dc25 pm25 cd25 ct25 : Value} {od26 an26 : Option Addr} {sl26 : Array (Option Value)} {oc26 kV26 dc26 pm26 cd26 ct26 : Value} {od27 an27 : Option Addr} {sl27 : Array (Option Value)} {oc27 kV27 dc27 pm27 cd27 ct27 : Value} {od28 an28 : Option Addr} {sl28 : Array (Option Value)} {oc28 kV28 dc28 pm28 cd28 ct28 : Value} {od29 an29 : Option Addr} {sl29 : Array (Option Value)} {oc29 kV29 dc29 pm29 cd29 ct29 : Value} {od30 an30 : Option Addr} {sl30 : Array (Option Value)} {oc30 kV30 dc30 pm30 cd30 ct30 : Value} {od31 an31 : Option Addr} {sl31 : Array (Option Value)} {oc31 kV31 dc31 pm31 cd31 ct31 : Value} {od32 an32 : Option Addr} {sl32 : Array (Option Value)} {oc32 kV32 dc32 pm32 cd32 ct32 : Value} {od33 an33 : Option Addr} {sl33 : Array (Option Value)} {oc33 kV33 dc33 pm33 cd33 ct33 : Value} {od34 an34 : Option Addr} {sl34 : Array (Option Value)} {oc34 kV34 dc34 pm34 cd34 ct34 : Value} {cc35 cda35 : Addr} {od35 an35 ed35 gd35 : Option Addr} {sl35 es35 gs35 : Array (Option Value)} {oc35 kV35 dc35 pm35 ct35 ec35 gc35 : Value} {gv35 : Array Value} {fi35 : Str} {tf35 : Tok} {cd35 : ClassData} {od36 an36 : Option Addr} {sl36 : Array (Option Value)} {oc36 kV36 dc36 pm36 cd36 ct36 : Value} {od37 an37 : Option Addr} {sl37 : Array (Option Value)} {oc37 kV37 dc37 pm37 cd37 ct37 : Value} {od38 an38 : Option Addr} {sl38 : Array (Option Value)} {oc38 kV38 dc38 pm38 cd38 ct38 : Value} {od39 an39 : Option Addr} {sl39 : Array (Option Value)} {oc39 kV39 dc39 pm39 cd39 ct39 : Value} {od40 an40 : Option Addr} {sl40 : Array (Option Value)} {oc40 kV40 dc40 pm40 cd40 ct40 : Value} {od41 an41 : Option Addr} {sl41 : Array (Option Value)} {oc41 kV41 dc41 pm41 cd41 ct41 : Value} {od42 an42 : Option Addr} {sl42 : Array (Option Value)} {oc42 kV42 dc42 pm42 cd42 ct42 : Value} {od43 an43 : Option Addr} {sl43 : Array (Option Value)} {oc43 kV43 dc43 pm43 cd43 ct43 : Value} {od44 an44 : Option Addr} {sl44 : Array (Option Value)} {oc44 kV44 dc44 pm44 cd44 ct44 : Value} {od45 an45 : Option Addr} {sl45 : Array (Option Value)} {oc45 kV45 dc45 pm45 cd45 ct45 : Value} {od46 an46 : Option Addr} {sl46 : Array (Option Value)} {oc46 kV46 dc46 pm46 cd46 ct46 : Value} {od47 an47 : Option Addr} {sl47 : Array (Option Value)} {oc47 kV47 dc47 pm47 cd47 ct47 : Value} {od48 an48 : Option Addr} {sl48 : Array (Option Value)} {oc48 kV48 dc48 pm48 cd48 ct48 : Value} {od49 an49 : Option Addr} {sl49 : Array (Option Value)} {oc49 kV49 dc49 pm49 cd49 ct49 : Value} {od50 an50 : Option Addr} {sl50 : Array (Option Value)} {oc50 kV50 dc50 pm50 cd50 ct50 : Value} {od51 an51 : Option Addr} {sl51 : Array (Option Value)} {oc51 kV51 dc51 pm51 cd51 ct51 : Value} {od52 an52 : Option Addr} {sl52 : Array (Option Value)} {oc52 kV52 dc52 pm52 cd52 ct52 : Value} {od53 an53 : Option Addr} {sl53 : Array (Option Value)} {oc53 kV53 dc53 pm53 cd53 ct53 : Value} {od54 an54 : Option Addr} {sl54 : Array (Option Value)} {oc54 kV54 dc54 pm54 cd54 ct54 : Value} {od55 an55 : Option Addr} {sl55 : Array (Option Value)} {oc55 kV55 dc55 pm55 cd55 ct55 : Value} {od56 an56 : Option Addr} {sl56 : Array (Option Value)} {oc56 kV56 dc56 pm56 cd56 ct56 : Value} {od57 an57 : Option Addr} {sl57 : Array (Option Value)} {oc57 kV57 dc57 pm57 cd57 ct57 : Value} {od58 an58 : Option Addr} {sl58 : Array (Option Value)} {oc58 kV58 dc58 pm58 cd58 ct58 : Value} {od59 an59 : Option Addr} {sl59 : Array (Option Value)} {oc59 kV59 dc59 pm59 cd59 ct59 : Value} {od60 an60 : Option Addr} {sl60 : Array (Option Value)} {oc60 kV60 dc60 pm60 cd60 ct60 : Value} {od61 an61 : Option Addr} {sl61 : Array (Option Value)} {oc61 kV61 dc61 pm61 cd61 ct61 : Value} {od62 an62 : Option Addr} {sl62 : Array (Option Value)} {oc62 kV62 dc62 pm62 cd62 ct62 : Value} {od63 an63 : Option Addr} {sl63 : Array (Option Value)} {oc63 kV63 dc63 pm63 cd63 ct63 : Value} {od64 an64 : Option Addr} {sl64 : Array (Option Value)} {oc64 kV64 dc64 pm64 cd64 ct64 : Value} {od65 an65 : Option Addr} {sl65 : Array (Option Value)} {oc65 kV65 dc65 pm65 cd65 ct65 : Value} {od66 an66 : Option Addr} {sl66 : Array (Option Value)} {oc66 kV66 dc66 pm66 cd66 ct66 : Value} {od67 an67 : Option Addr} {sl67 : Array (Option Value)} {oc67 kV67 dc67 pm67 cd67 ct67 : Value} {od68 an68 : Option Addr} {sl68 : Array (Option Value)} {oc68 kV68 dc68 pm68 cd68 ct68 : Value} {t_MOST_JOINED : Tok} {t_MOST_OHMS : Tok} {T_WORDS : Addr} {o_WORDS : Option Addr} {its_WORDS : Array Value} {u_WORDS : Nat} {sl_WORDS : Array (Option Value)} {t_MOST_PIECES : Tok} {T_NOTHING : Addr} {o_NOTHING : Option Addr} {its_NOTHING : Array Value} {u_NOTHING : Nat} {sl_NOTHING : Array (Option Value)} {T_OPEN : Addr} {o_OPEN : Option Addr} {its_OPEN : Array Value} {u_OPEN : Nat} {sl_OPEN : Array (Option Value)} {t_GREATEST : Tok} {t_MOST : Tok} {T_JUDGES : Addr} {es_JUDGES : Array DictEntry} {n_JUDGES : Nat} {F_JUDGES_8 : Addr} {P_JUDGES_F_JUDGES_8 : Addr} {o_JUDGES_F_JUDGES_8 : Option Addr} {its_JUDGES_F_JUDGES_8 : Array Value} {u_JUDGES_F_JUDGES_8 : Nat} {sl_JUDGES_F_JUDGES_8 : Array (Option Value)} {F_JUDGES_7 : Addr} {P_JUDGES_F_JUDGES_7 : Addr} {o_JUDGES_F_JUDGES_7 : Option Addr} {its_JUDGES_F_JUDGES_7 : Array Value} {u_JUDGES_F_JUDGES_7 : Nat} {sl_JUDGES_F_JUDGES_7 : Array (Option Value)} {P_JUDGES_55 : Addr} {o_JUDGES_55 : Option Addr} {its_JUDGES_55 : Array Value} {u_JUDGES_55 : Nat} {sl_JUDGES_55 : Array (Option Value)} {P_JUDGES_46 : Addr} {o_JUDGES_46 : Option Addr} {its_JUDGES_46 : Array Value} {u_JUDGES_46 : Nat} {sl_JUDGES_46 : Array (Option Value)} {P_JUDGES_44 : Addr} {o_JUDGES_44 : Option Addr} {its_JUDGES_44 : Array Value} {u_JUDGES_44 : Nat} {sl_JUDGES_44 : Array (Option Value)} {F_JUDGES_3 : Addr} {P_JUDGES_F_JUDGES_3 : Addr} {o_JUDGES_F_JUDGES_3 : Option Addr} {its_JUDGES_F_JUDGES_3 : Array Value} {u_JUDGES_F_JUDGES_3 : Nat} {sl_JUDGES_F_JUDGES_3 : Array (Option Value)} {F_JUDGES_2 : Addr} {P_JUDGES_F_JUDGES_2 : Addr} {o_JUDGES_F_JUDGES_2 : Option Addr} {its_JUDGES_F_JUDGES_2 : Array Value} {u_JUDGES_F_JUDGES_2 : Nat} {sl_JUDGES_F_JUDGES_2 : Array (Option Value)} {P_JUDGES_41 : Addr} {o_JUDGES_41 : Option Addr} {its_JUDGES_41 : Array Value} {u_JUDGES_41 : Nat} {sl_JUDGES_41 : Array (Option Value)} {F_JUDGES_0 : Addr} {P_JUDGES_F_JUDGES_0 : Addr} {o_JUDGES_F_JUDGES_0 : Option Addr} {its_JUDGES_F_JUDGES_0 : Array Value} {u_JUDGES_F_JUDGES_0 : Nat} {sl_JUDGES_F_JUDGES_0 : Array (Option Value)}
    (nC0 : PySem.W.nsIn K mainGlobals "Row" = some (some (.ref C0))) (pgC0 : PySem.W.plainGet K C0 Str.empty = true) (hdC0 : PySem.W.hasDictIn K C0 = true) (poC0 : PySem.W.plainOver K C0 = true)
    (saC0 : PySem.W.findIn K (.ref C0) "__setattr__" = some (some (.builtin "object.__setattr__"))) (ccC0 : PySem.W.findIn K (.ref C0) "__class__" = some (some (.builtin "object.__class__"))) (moC0 : PySem.W.mroIn K C0 (.type "object") = some true) (naC0_told : PySem.W.findIn K (.ref C0) "told" = some none)
    (nC1 : PySem.W.nsIn K mainGlobals "Pattern" = some (some (.ref C1))) (pgC1 : PySem.W.plainGet K C1 Str.empty = true) (hdC1 : PySem.W.hasDictIn K C1 = true) (poC1 : PySem.W.plainOver K C1 = true)
    (saC1 : PySem.W.findIn K (.ref C1) "__setattr__" = some (some (.builtin "object.__setattr__"))) (ccC1 : PySem.W.findIn K (.ref C1) "__class__" = some (some (.builtin "object.__class__"))) (moC1 : PySem.W.mroIn K C1 (.type "object") = some true) (naC1_row : PySem.W.findIn K (.ref C1) "row" = some none)
    (naC1_chain : PySem.W.findIn K (.ref C1) "chain" = some none) (naC1_scale : PySem.W.findIn K (.ref C1) "scale" = some none) (nC2 : PySem.W.nsIn K mainGlobals "Exact" = some (some (.ref C2))) (pgC2 : PySem.W.plainGet K C2 Str.empty = true)
    (hdC2 : PySem.W.hasDictIn K C2 = true) (poC2 : PySem.W.plainOver K C2 = true) (saC2 : PySem.W.findIn K (.ref C2) "__setattr__" = some (some (.builtin "object.__setattr__"))) (ccC2 : PySem.W.findIn K (.ref C2) "__class__" = some (some (.builtin "object.__class__")))
    (moC2 : PySem.W.mroIn K C2 (.type "object") = some true) (naC2_triple : PySem.W.findIn K (.ref C2) "triple" = some none) (nC5 : PySem.W.nsIn K mainGlobals "Ladder" = some (some (.ref C5))) (pgC5 : PySem.W.plainGet K C5 Str.empty = true)
    (hdC5 : PySem.W.hasDictIn K C5 = true) (poC5 : PySem.W.plainOver K C5 = true) (saC5 : PySem.W.findIn K (.ref C5) "__setattr__" = some (some (.builtin "object.__setattr__"))) (ccC5 : PySem.W.findIn K (.ref C5) "__class__" = some (some (.builtin "object.__class__")))
    (moC5 : PySem.W.mroIn K C5 (.type "object") = some true) (naC5_first : PySem.W.findIn K (.ref C5) "first" = some none) (naC5_pattern : PySem.W.findIn K (.ref C5) "pattern" = some none) (a0 : PySem.W.nsIn K mainGlobals "_law_pick" = some (some (.ref f0)))
    (a1 : PySem.W.nsIn K mainGlobals "_law_even" = some (some (.ref f1))) (a2 : PySem.W.nsIn K mainGlobals "_law_anyrow" = some (some (.ref f2))) (a3 : PySem.W.nsIn K mainGlobals "_law_some_row" = some (some (.ref f3))) (a4 : PySem.W.nsIn K mainGlobals "_law_anyload" = some (some (.ref f4)))
    (a5 : PySem.W.nsIn K mainGlobals "_law_near" = some (some (.ref f5))) (a6 : PySem.W.nsIn K mainGlobals "_law_crossing" = some (some (.ref f6))) (a7 : PySem.W.nsIn K mainGlobals "_law_led" = some (some (.ref f7))) (a8 : PySem.W.nsIn K mainGlobals "_law_isqrt" = some (some (.ref f8)))
    (a9 : PySem.W.nsIn K mainGlobals "_law_lowest" = some (some (.ref f9))) (a10 : PySem.W.nsIn K mainGlobals "_law_limit" = some (some (.ref f10))) (a11 : PySem.W.nsIn K mainGlobals "_law_told_limit" = some (some (.ref f11))) (a12 : PySem.W.nsIn K mainGlobals "_law_after" = some (some (.ref f12)))
    (a13 : PySem.W.nsIn K mainGlobals "_law_case" = some (some (.ref f13))) (a14 : PySem.W.nsIn K mainGlobals "_law_anyodd" = some (some (.ref f14))) (a15 : PySem.W.nsIn K mainGlobals "_law_bent" = some (some (.ref f15))) (a16 : PySem.W.nsIn K mainGlobals "is_integer" = some (some (.ref f16)))
    (a17 : PySem.W.nsIn K mainGlobals "is_between" = some (some (.ref f17))) (a18 : PySem.W.nsIn K mainGlobals "is_piece" = some (some (.ref f18))) (a19 : PySem.W.nsIn K mainGlobals "check_pieces" = some (some (.ref f19))) (a20 : PySem.W.nsIn K mainGlobals "joined" = some (some (.ref f20)))
    (a21 : PySem.W.nsIn K mainGlobals "chain_of" = some (some (.ref f21))) (a24 : PySem.W.nsIn K mainGlobals "pattern_of" = some (some (.ref f24))) (a25 : PySem.W.nsIn K mainGlobals "pattern_told" = some (some (.ref f25))) (a26 : PySem.W.nsIn K mainGlobals "is_fraction" = some (some (.ref f26)))
    (a27 : PySem.W.nsIn K mainGlobals "is_number" = some (some (.ref f27))) (a28 : PySem.W.nsIn K mainGlobals "is_resistance" = some (some (.ref f28))) (a29 : PySem.W.nsIn K mainGlobals "check_pattern" = some (some (.ref f29))) (a30 : PySem.W.nsIn K mainGlobals "check_resistance" = some (some (.ref f30)))
    (a32 : PySem.W.nsIn K mainGlobals "common" = some (some (.ref f32))) (a33 : PySem.W.nsIn K mainGlobals "lowest" = some (some (.ref f33))) (a34 : PySem.W.nsIn K mainGlobals "pair_of" = some (some (.ref f34))) (a36 : PySem.W.nsIn K mainGlobals "ladder_told" = some (some (.ref f36)))
    (a37 : PySem.W.nsIn K mainGlobals "sign_of" = some (some (.ref f37))) (a38 : PySem.W.nsIn K mainGlobals "compare" = some (some (.ref f38))) (a39 : PySem.W.nsIn K mainGlobals "led" = some (some (.ref f39))) (a40 : PySem.W.nsIn K mainGlobals "shows_bound" = some (some (.ref f40)))
    (a41 : PySem.W.nsIn K mainGlobals "shows_most" = some (some (.ref f41))) (a42 : PySem.W.nsIn K mainGlobals "difference" = some (some (.ref f42))) (a43 : PySem.W.nsIn K mainGlobals "is_never_below" = some (some (.ref f43))) (a44 : PySem.W.nsIn K mainGlobals "shows_never" = some (some (.ref f44)))
    (a45 : PySem.W.nsIn K mainGlobals "shown" = some (some (.ref f45))) (a46 : PySem.W.nsIn K mainGlobals "shows_more" = some (some (.ref f46))) (a47 : PySem.W.nsIn K mainGlobals "is_rails" = some (some (.ref f47))) (a48 : PySem.W.nsIn K mainGlobals "is_rungs" = some (some (.ref f48)))
    (a49 : PySem.W.nsIn K mainGlobals "root_below" = some (some (.ref f49))) (a50 : PySem.W.nsIn K mainGlobals "normal" = some (some (.ref f50))) (a52 : PySem.W.nsIn K mainGlobals "limit_of" = some (some (.ref f52))) (a55 : PySem.W.nsIn K mainGlobals "shows_limit" = some (some (.ref f55)))
    (a56 : PySem.W.nsIn K mainGlobals "accepts" = some (some (.ref f56))) (a57 : PySem.W.nsIn K mainGlobals "_law_is_whole" = some (some (.ref f57))) (a58 : PySem.W.nsIn K mainGlobals "_law_is_row" = some (some (.ref f58))) (a59 : PySem.W.nsIn K mainGlobals "_law_is_load" = some (some (.ref f59)))
    (a60 : PySem.W.nsIn K mainGlobals "_law_never" = some (some (.ref f60))) (a61 : PySem.W.nsIn K mainGlobals "_law_is_number" = some (some (.ref f61))) (a62 : PySem.W.nsIn K mainGlobals "_law_frac" = some (some (.ref f62))) (a63 : PySem.W.nsIn K mainGlobals "_law_sign" = some (some (.ref f63)))
    (a64 : PySem.W.nsIn K mainGlobals "_law_due" = some (some (.ref f64))) (a65 : PySem.W.nsIn K mainGlobals "_law_right" = some (some (.ref f65))) (a66 : PySem.W.nsIn K mainGlobals "_law_src" = some (some (.ref f66))) (a67 : PySem.W.nsIn K mainGlobals "_law_cell" = some (some (.ref f67)))
    (a68 : PySem.W.nsIn K mainGlobals "law" = some (some (.ref f68))) (a22_1 : PySem.W.findIn K (.ref C1) "__init__" = some (some (.ref f22))) (mkC1 : PySem.W.makesIn K C1 = true) (kpC1 : PySem.W.keepIn K (.ref C1) = true)
    (i22 : PySem.W.isFn K (.ref f22) = true) (a23_0 : PySem.W.findIn K (.ref C0) "__init__" = some (some (.ref f23))) (mkC0 : PySem.W.makesIn K C0 = true) (kpC0 : PySem.W.keepIn K (.ref C0) = true)
    (i23 : PySem.W.isFn K (.ref f23) = true) (a35_5 : PySem.W.findIn K (.ref C5) "__init__" = some (some (.ref f35))) (mkC5 : PySem.W.makesIn K C5 = true) (kpC5 : PySem.W.keepIn K (.ref C5) = true)
    (i35 : PySem.W.isFn K (.ref f35) = true) (a51_2 : PySem.W.findIn K (.ref C2) "__init__" = some (some (.ref f51))) (mkC2 : PySem.W.makesIn K C2 = true) (kpC2 : PySem.W.keepIn K (.ref C2) = true)
    (i51 : PySem.W.isFn K (.ref f51) = true) (a53_5 : PySem.W.findIn K (.ref C5) "limit" = some (some (.ref q53_5))) (b53_5 : PySem.W.specialIn K (.ref q53_5) "__get__" = some (some (.builtin "property.__get__"))) (d53_5 : PySem.W.takesIn K (.ref q53_5) = some true)
    (e53_5 : PySem.W.recIn K q53_5 "property" = some (.ref f53 :: rs53_5)) (a54_2 : PySem.W.findIn K (.ref C2) "equation" = some (some (.ref q54_2))) (b54_2 : PySem.W.specialIn K (.ref q54_2) "__get__" = some (some (.builtin "property.__get__"))) (d54_2 : PySem.W.takesIn K (.ref q54_2) = some true)
    (e54_2 : PySem.W.recIn K q54_2 "property" = some (.ref f54 :: rs54_2)) (l0 : K.lookup f0 = some ⟨oc0, od0, .func (PySem.W.fnOf "_law_pick" "_law_pick" (defArgs st__law_pick) (defBody st__law_pick) (defScope st__law_pick) .none kV0 dc0 pm0 an0 cd0 ct0), sl0⟩) (c0 : PySem.W.codeIn K cd0 "_law_pick" = true) (k0 : PySem.W.keepIn K (.ref f0) = true)
    (l1 : K.lookup f1 = some ⟨oc1, od1, .func (PySem.W.fnOf "_law_even" "_law_even" (defArgs st__law_even) (defBody st__law_even) (defScope st__law_even) .none kV1 dc1 pm1 an1 cd1 ct1), sl1⟩) (c1 : PySem.W.codeIn K cd1 "_law_even" = true) (k1 : PySem.W.keepIn K (.ref f1) = true) (l2 : K.lookup f2 = some ⟨oc2, od2, .func (PySem.W.fnOf "_law_anyrow" "_law_anyrow" (defArgs st__law_anyrow) (defBody st__law_anyrow) (defScope st__law_anyrow) .none kV2 dc2 pm2 an2 cd2 ct2), sl2⟩)
    (c2 : PySem.W.codeIn K cd2 "_law_anyrow" = true) (k2 : PySem.W.keepIn K (.ref f2) = true) (l3 : K.lookup f3 = some ⟨oc3, od3, .func (PySem.W.fnOf "_law_some_row" "_law_some_row" (defArgs st__law_some_row) (defBody st__law_some_row) (defScope st__law_some_row) .none kV3 dc3 pm3 an3 cd3 ct3), sl3⟩) (c3 : PySem.W.codeIn K cd3 "_law_some_row" = true)
    (k3 : PySem.W.keepIn K (.ref f3) = true) (l4 : K.lookup f4 = some ⟨oc4, od4, .func (PySem.W.fnOf "_law_anyload" "_law_anyload" (defArgs st__law_anyload) (defBody st__law_anyload) (defScope st__law_anyload) .none kV4 dc4 pm4 an4 cd4 ct4), sl4⟩) (c4 : PySem.W.codeIn K cd4 "_law_anyload" = true) (k4 : PySem.W.keepIn K (.ref f4) = true)
    (l5 : K.lookup f5 = some ⟨oc5, od5, .func (PySem.W.fnOf "_law_near" "_law_near" (defArgs st__law_near) (defBody st__law_near) (defScope st__law_near) .none kV5 dc5 pm5 an5 cd5 ct5), sl5⟩) (c5 : PySem.W.codeIn K cd5 "_law_near" = true) (k5 : PySem.W.keepIn K (.ref f5) = true) (l6 : K.lookup f6 = some ⟨oc6, od6, .func (PySem.W.fnOf "_law_crossing" "_law_crossing" (defArgs st__law_crossing) (defBody st__law_crossing) (defScope st__law_crossing) .none kV6 dc6 pm6 an6 cd6 ct6), sl6⟩)
    (c6 : PySem.W.codeIn K cd6 "_law_crossing" = true) (k6 : PySem.W.keepIn K (.ref f6) = true) (l7 : K.lookup f7 = some ⟨oc7, od7, .func (PySem.W.fnOf "_law_led" "_law_led" (defArgs st__law_led) (defBody st__law_led) (defScope st__law_led) .none kV7 dc7 pm7 an7 cd7 ct7), sl7⟩) (c7 : PySem.W.codeIn K cd7 "_law_led" = true)
    (k7 : PySem.W.keepIn K (.ref f7) = true) (l8 : K.lookup f8 = some ⟨oc8, od8, .func (PySem.W.fnOf "_law_isqrt" "_law_isqrt" (defArgs st__law_isqrt) (defBody st__law_isqrt) (defScope st__law_isqrt) .none kV8 dc8 pm8 an8 cd8 ct8), sl8⟩) (c8 : PySem.W.codeIn K cd8 "_law_isqrt" = true) (k8 : PySem.W.keepIn K (.ref f8) = true)
    (l9 : K.lookup f9 = some ⟨oc9, od9, .func (PySem.W.fnOf "_law_lowest" "_law_lowest" (defArgs st__law_lowest) (defBody st__law_lowest) (defScope st__law_lowest) .none kV9 dc9 pm9 an9 cd9 ct9), sl9⟩) (c9 : PySem.W.codeIn K cd9 "_law_lowest" = true) (k9 : PySem.W.keepIn K (.ref f9) = true) (l10 : K.lookup f10 = some ⟨oc10, od10, .func (PySem.W.fnOf "_law_limit" "_law_limit" (defArgs st__law_limit) (defBody st__law_limit) (defScope st__law_limit) .none kV10 dc10 pm10 an10 cd10 ct10), sl10⟩)
    (c10 : PySem.W.codeIn K cd10 "_law_limit" = true) (k10 : PySem.W.keepIn K (.ref f10) = true) (l11 : K.lookup f11 = some ⟨oc11, od11, .func (PySem.W.fnOf "_law_told_limit" "_law_told_limit" (defArgs st__law_told_limit) (defBody st__law_told_limit) (defScope st__law_told_limit) .none kV11 dc11 pm11 an11 cd11 ct11), sl11⟩) (c11 : PySem.W.codeIn K cd11 "_law_told_limit" = true)
    (k11 : PySem.W.keepIn K (.ref f11) = true) (l12 : K.lookup f12 = some ⟨oc12, od12, .func (PySem.W.fnOf "_law_after" "_law_after" (defArgs st__law_after) (defBody st__law_after) (defScope st__law_after) .none kV12 dc12 pm12 an12 cd12 ct12), sl12⟩) (c12 : PySem.W.codeIn K cd12 "_law_after" = true) (k12 : PySem.W.keepIn K (.ref f12) = true)
    (l13 : K.lookup f13 = some ⟨oc13, od13, .func (PySem.W.fnOf "_law_case" "_law_case" (defArgs st__law_case) (defBody st__law_case) (defScope st__law_case) .none kV13 dc13 pm13 an13 cd13 ct13), sl13⟩) (c13 : PySem.W.codeIn K cd13 "_law_case" = true) (k13 : PySem.W.keepIn K (.ref f13) = true) (l14 : K.lookup f14 = some ⟨oc14, od14, .func (PySem.W.fnOf "_law_anyodd" "_law_anyodd" (defArgs st__law_anyodd) (defBody st__law_anyodd) (defScope st__law_anyodd) .none kV14 dc14 pm14 an14 cd14 ct14), sl14⟩)
    (c14 : PySem.W.codeIn K cd14 "_law_anyodd" = true) (k14 : PySem.W.keepIn K (.ref f14) = true) (l15 : K.lookup f15 = some ⟨oc15, od15, .func (PySem.W.fnOf "_law_bent" "_law_bent" (defArgs st__law_bent) (defBody st__law_bent) (defScope st__law_bent) .none kV15 dc15 pm15 an15 cd15 ct15), sl15⟩) (c15 : PySem.W.codeIn K cd15 "_law_bent" = true)
    (k15 : PySem.W.keepIn K (.ref f15) = true) (l16 : K.lookup f16 = some ⟨oc16, od16, .func (PySem.W.fnOf "is_integer" "is_integer" (defArgs st_is_integer) (defBody st_is_integer) (defScope st_is_integer) .none kV16 dc16 pm16 an16 cd16 ct16), sl16⟩) (c16 : PySem.W.codeIn K cd16 "is_integer" = true) (k16 : PySem.W.keepIn K (.ref f16) = true)
    (l17 : K.lookup f17 = some ⟨oc17, od17, .func (PySem.W.fnOf "is_between" "is_between" (defArgs st_is_between) (defBody st_is_between) (defScope st_is_between) .none kV17 dc17 pm17 an17 cd17 ct17), sl17⟩) (c17 : PySem.W.codeIn K cd17 "is_between" = true) (k17 : PySem.W.keepIn K (.ref f17) = true) (l18 : K.lookup f18 = some ⟨oc18, od18, .func (PySem.W.fnOf "is_piece" "is_piece" (defArgs st_is_piece) (defBody st_is_piece) (defScope st_is_piece) .none kV18 dc18 pm18 an18 cd18 ct18), sl18⟩)
    (c18 : PySem.W.codeIn K cd18 "is_piece" = true) (k18 : PySem.W.keepIn K (.ref f18) = true) (l19 : K.lookup f19 = some ⟨oc19, od19, .func (PySem.W.fnOf "check_pieces" "check_pieces" (defArgs st_check_pieces) (defBody st_check_pieces) (defScope st_check_pieces) .none kV19 dc19 pm19 an19 cd19 ct19), sl19⟩) (c19 : PySem.W.codeIn K cd19 "check_pieces" = true)
    (k19 : PySem.W.keepIn K (.ref f19) = true) (l20 : K.lookup f20 = some ⟨oc20, od20, .func (PySem.W.fnOf "joined" "joined" (defArgs st_joined) (defBody st_joined) (defScope st_joined) .none kV20 dc20 pm20 an20 cd20 ct20), sl20⟩) (c20 : PySem.W.codeIn K cd20 "joined" = true) (k20 : PySem.W.keepIn K (.ref f20) = true)
    (l21 : K.lookup f21 = some ⟨oc21, od21, .func (PySem.W.fnOf "chain_of" "chain_of" (defArgs st_chain_of) (defBody st_chain_of) (defScope st_chain_of) .none kV21 dc21 pm21 an21 cd21 ct21), sl21⟩) (c21 : PySem.W.codeIn K cd21 "chain_of" = true) (k21 : PySem.W.keepIn K (.ref f21) = true) (l22 : K.lookup f22 = some ⟨oc22, od22, .func (PySem.W.fnOf "__init__" "Pattern.__init__" (defArgs st_PatternX_initX) (defBody st_PatternX_initX) (defScope st_PatternX_initX) .none kV22 dc22 pm22 an22 cd22 ct22), sl22⟩)
    (c22 : PySem.W.codeIn K cd22 "Pattern.__init__" = true) (k22 : PySem.W.keepIn K (.ref f22) = true) (l23 : K.lookup f23 = some ⟨oc23, od23, .func (PySem.W.fnOf "__init__" "Row.__init__" (defArgs st_RowX_initX) (defBody st_RowX_initX) (defScope st_RowX_initX) .none kV23 dc23 pm23 an23 cd23 ct23), sl23⟩) (c23 : PySem.W.codeIn K cd23 "Row.__init__" = true)
    (k23 : PySem.W.keepIn K (.ref f23) = true) (l24 : K.lookup f24 = some ⟨oc24, od24, .func (PySem.W.fnOf "pattern_of" "pattern_of" (defArgs st_pattern_of) (defBody st_pattern_of) (defScope st_pattern_of) .none kV24 dc24 pm24 an24 cd24 ct24), sl24⟩) (c24 : PySem.W.codeIn K cd24 "pattern_of" = true) (k24 : PySem.W.keepIn K (.ref f24) = true)
    (l25 : K.lookup f25 = some ⟨oc25, od25, .func (PySem.W.fnOf "pattern_told" "pattern_told" (defArgs st_pattern_told) (defBody st_pattern_told) (defScope st_pattern_told) .none kV25 dc25 pm25 an25 cd25 ct25), sl25⟩) (c25 : PySem.W.codeIn K cd25 "pattern_told" = true) (k25 : PySem.W.keepIn K (.ref f25) = true) (l26 : K.lookup f26 = some ⟨oc26, od26, .func (PySem.W.fnOf "is_fraction" "is_fraction" (defArgs st_is_fraction) (defBody st_is_fraction) (defScope st_is_fraction) .none kV26 dc26 pm26 an26 cd26 ct26), sl26⟩)
    (c26 : PySem.W.codeIn K cd26 "is_fraction" = true) (k26 : PySem.W.keepIn K (.ref f26) = true) (l27 : K.lookup f27 = some ⟨oc27, od27, .func (PySem.W.fnOf "is_number" "is_number" (defArgs st_is_number) (defBody st_is_number) (defScope st_is_number) .none kV27 dc27 pm27 an27 cd27 ct27), sl27⟩) (c27 : PySem.W.codeIn K cd27 "is_number" = true)
    (k27 : PySem.W.keepIn K (.ref f27) = true) (l28 : K.lookup f28 = some ⟨oc28, od28, .func (PySem.W.fnOf "is_resistance" "is_resistance" (defArgs st_is_resistance) (defBody st_is_resistance) (defScope st_is_resistance) .none kV28 dc28 pm28 an28 cd28 ct28), sl28⟩) (c28 : PySem.W.codeIn K cd28 "is_resistance" = true) (k28 : PySem.W.keepIn K (.ref f28) = true)
    (l29 : K.lookup f29 = some ⟨oc29, od29, .func (PySem.W.fnOf "check_pattern" "check_pattern" (defArgs st_check_pattern) (defBody st_check_pattern) (defScope st_check_pattern) .none kV29 dc29 pm29 an29 cd29 ct29), sl29⟩) (c29 : PySem.W.codeIn K cd29 "check_pattern" = true) (k29 : PySem.W.keepIn K (.ref f29) = true) (l30 : K.lookup f30 = some ⟨oc30, od30, .func (PySem.W.fnOf "check_resistance" "check_resistance" (defArgs st_check_resistance) (defBody st_check_resistance) (defScope st_check_resistance) .none kV30 dc30 pm30 an30 cd30 ct30), sl30⟩)
    (c30 : PySem.W.codeIn K cd30 "check_resistance" = true) (k30 : PySem.W.keepIn K (.ref f30) = true) (l31 : K.lookup f31 = some ⟨oc31, od31, .func (PySem.W.fnOf "__init__" "Run.__init__" (defArgs st_RunX_initX) (defBody st_RunX_initX) (defScope st_RunX_initX) .none kV31 dc31 pm31 an31 cd31 ct31), sl31⟩) (c31 : PySem.W.codeIn K cd31 "Run.__init__" = true)
    (k31 : PySem.W.keepIn K (.ref f31) = true) (l32 : K.lookup f32 = some ⟨oc32, od32, .func (PySem.W.fnOf "common" "common" (defArgs st_common) (defBody st_common) (defScope st_common) .none kV32 dc32 pm32 an32 cd32 ct32), sl32⟩) (c32 : PySem.W.codeIn K cd32 "common" = true) (k32 : PySem.W.keepIn K (.ref f32) = true)
    (l33 : K.lookup f33 = some ⟨oc33, od33, .func (PySem.W.fnOf "lowest" "lowest" (defArgs st_lowest) (defBody st_lowest) (defScope st_lowest) .none kV33 dc33 pm33 an33 cd33 ct33), sl33⟩) (c33 : PySem.W.codeIn K cd33 "lowest" = true) (k33 : PySem.W.keepIn K (.ref f33) = true) (l34 : K.lookup f34 = some ⟨oc34, od34, .func (PySem.W.fnOf "pair_of" "pair_of" (defArgs st_pair_of) (defBody st_pair_of) (defScope st_pair_of) .none kV34 dc34 pm34 an34 cd34 ct34), sl34⟩)
    (c34 : PySem.W.codeIn K cd34 "pair_of" = true) (k34 : PySem.W.keepIn K (.ref f34) = true) (l35 : K.lookup f35 = some ⟨oc35, od35, .func (PySem.W.fnX "__init__" "Ladder.__init__" (defArgs st_LadderX_initX) (defBody st_LadderX_initX) (defScope st_LadderX_initX) [("__class__", cc35)] .none kV35 dc35 pm35 an35 (.ref cda35) ct35), sl35⟩) (c35 : PySem.W.codeIn K (.ref cda35) "Ladder.__init__" = true)
    (k35 : PySem.W.keepIn K (.ref f35) = true) (la35 : K.lookup cc35 = some ⟨ec35, ed35, .cell (some (.ref C5)), es35⟩) (lb35 : K.lookup cda35 = some ⟨gc35, gd35, .fields gv35, gs35⟩) (lc35 : gv35[2]? = some (.str fi35 tf35))
    (ld35 : ((l.prog.main.file : Str) == fi35) = true) (le35 : PySem.W.clsIn K C5 = some cd35) (lf35 : PySem.W.mroIn K C5 (.ref C5) = some true) (lg35 : PySem.W.ks_superIn K C5 C5 "__init__" = some (some (.ref f31)))
    (lh35 : PySem.W.typeIn K (.ref f31) = some (.type "function")) (li35 : PySem.W.fnIn K f31 = true) (tpa : PySem.W.nsIn K cStatics "thirdparty.any" = some none) (tsn : (l.prog.main.scope.names.lookup ("super" : Str)).isSome = false)
    (l36 : K.lookup f36 = some ⟨oc36, od36, .func (PySem.W.fnOf "ladder_told" "ladder_told" (defArgs st_ladder_told) (defBody st_ladder_told) (defScope st_ladder_told) .none kV36 dc36 pm36 an36 cd36 ct36), sl36⟩) (c36 : PySem.W.codeIn K cd36 "ladder_told" = true) (k36 : PySem.W.keepIn K (.ref f36) = true) (l37 : K.lookup f37 = some ⟨oc37, od37, .func (PySem.W.fnOf "sign_of" "sign_of" (defArgs st_sign_of) (defBody st_sign_of) (defScope st_sign_of) .none kV37 dc37 pm37 an37 cd37 ct37), sl37⟩)
    (c37 : PySem.W.codeIn K cd37 "sign_of" = true) (k37 : PySem.W.keepIn K (.ref f37) = true) (l38 : K.lookup f38 = some ⟨oc38, od38, .func (PySem.W.fnOf "compare" "compare" (defArgs st_compare) (defBody st_compare) (defScope st_compare) .none kV38 dc38 pm38 an38 cd38 ct38), sl38⟩) (c38 : PySem.W.codeIn K cd38 "compare" = true)
    (k38 : PySem.W.keepIn K (.ref f38) = true) (l39 : K.lookup f39 = some ⟨oc39, od39, .func (PySem.W.fnOf "led" "led" (defArgs st_led) (defBody st_led) (defScope st_led) .none kV39 dc39 pm39 an39 cd39 ct39), sl39⟩) (c39 : PySem.W.codeIn K cd39 "led" = true) (k39 : PySem.W.keepIn K (.ref f39) = true)
    (l40 : K.lookup f40 = some ⟨oc40, od40, .func (PySem.W.fnOf "shows_bound" "shows_bound" (defArgs st_shows_bound) (defBody st_shows_bound) (defScope st_shows_bound) .none kV40 dc40 pm40 an40 cd40 ct40), sl40⟩) (c40 : PySem.W.codeIn K cd40 "shows_bound" = true) (k40 : PySem.W.keepIn K (.ref f40) = true) (l41 : K.lookup f41 = some ⟨oc41, od41, .func (PySem.W.fnOf "shows_most" "shows_most" (defArgs st_shows_most) (defBody st_shows_most) (defScope st_shows_most) .none kV41 dc41 pm41 an41 cd41 ct41), sl41⟩)
    (c41 : PySem.W.codeIn K cd41 "shows_most" = true) (k41 : PySem.W.keepIn K (.ref f41) = true) (l42 : K.lookup f42 = some ⟨oc42, od42, .func (PySem.W.fnOf "difference" "difference" (defArgs st_difference) (defBody st_difference) (defScope st_difference) .none kV42 dc42 pm42 an42 cd42 ct42), sl42⟩) (c42 : PySem.W.codeIn K cd42 "difference" = true)
    (k42 : PySem.W.keepIn K (.ref f42) = true) (l43 : K.lookup f43 = some ⟨oc43, od43, .func (PySem.W.fnOf "is_never_below" "is_never_below" (defArgs st_is_never_below) (defBody st_is_never_below) (defScope st_is_never_below) .none kV43 dc43 pm43 an43 cd43 ct43), sl43⟩) (c43 : PySem.W.codeIn K cd43 "is_never_below" = true) (k43 : PySem.W.keepIn K (.ref f43) = true)
    (l44 : K.lookup f44 = some ⟨oc44, od44, .func (PySem.W.fnOf "shows_never" "shows_never" (defArgs st_shows_never) (defBody st_shows_never) (defScope st_shows_never) .none kV44 dc44 pm44 an44 cd44 ct44), sl44⟩) (c44 : PySem.W.codeIn K cd44 "shows_never" = true) (k44 : PySem.W.keepIn K (.ref f44) = true) (l45 : K.lookup f45 = some ⟨oc45, od45, .func (PySem.W.fnOf "shown" "shown" (defArgs st_shown) (defBody st_shown) (defScope st_shown) .none kV45 dc45 pm45 an45 cd45 ct45), sl45⟩)
    (c45 : PySem.W.codeIn K cd45 "shown" = true) (k45 : PySem.W.keepIn K (.ref f45) = true) (l46 : K.lookup f46 = some ⟨oc46, od46, .func (PySem.W.fnOf "shows_more" "shows_more" (defArgs st_shows_more) (defBody st_shows_more) (defScope st_shows_more) .none kV46 dc46 pm46 an46 cd46 ct46), sl46⟩) (c46 : PySem.W.codeIn K cd46 "shows_more" = true)
    (k46 : PySem.W.keepIn K (.ref f46) = true) (l47 : K.lookup f47 = some ⟨oc47, od47, .func (PySem.W.fnOf "is_rails" "is_rails" (defArgs st_is_rails) (defBody st_is_rails) (defScope st_is_rails) .none kV47 dc47 pm47 an47 cd47 ct47), sl47⟩) (c47 : PySem.W.codeIn K cd47 "is_rails" = true) (k47 : PySem.W.keepIn K (.ref f47) = true)
    (l48 : K.lookup f48 = some ⟨oc48, od48, .func (PySem.W.fnOf "is_rungs" "is_rungs" (defArgs st_is_rungs) (defBody st_is_rungs) (defScope st_is_rungs) .none kV48 dc48 pm48 an48 cd48 ct48), sl48⟩) (c48 : PySem.W.codeIn K cd48 "is_rungs" = true) (k48 : PySem.W.keepIn K (.ref f48) = true) (l49 : K.lookup f49 = some ⟨oc49, od49, .func (PySem.W.fnOf "root_below" "root_below" (defArgs st_root_below) (defBody st_root_below) (defScope st_root_below) .none kV49 dc49 pm49 an49 cd49 ct49), sl49⟩)
    (c49 : PySem.W.codeIn K cd49 "root_below" = true) (k49 : PySem.W.keepIn K (.ref f49) = true) (l50 : K.lookup f50 = some ⟨oc50, od50, .func (PySem.W.fnOf "normal" "normal" (defArgs st_normal) (defBody st_normal) (defScope st_normal) .none kV50 dc50 pm50 an50 cd50 ct50), sl50⟩) (c50 : PySem.W.codeIn K cd50 "normal" = true)
    (k50 : PySem.W.keepIn K (.ref f50) = true) (l51 : K.lookup f51 = some ⟨oc51, od51, .func (PySem.W.fnOf "__init__" "Exact.__init__" (defArgs st_ExactX_initX) (defBody st_ExactX_initX) (defScope st_ExactX_initX) .none kV51 dc51 pm51 an51 cd51 ct51), sl51⟩) (c51 : PySem.W.codeIn K cd51 "Exact.__init__" = true) (k51 : PySem.W.keepIn K (.ref f51) = true)
    (l52 : K.lookup f52 = some ⟨oc52, od52, .func (PySem.W.fnOf "limit_of" "limit_of" (defArgs st_limit_of) (defBody st_limit_of) (defScope st_limit_of) .none kV52 dc52 pm52 an52 cd52 ct52), sl52⟩) (c52 : PySem.W.codeIn K cd52 "limit_of" = true) (k52 : PySem.W.keepIn K (.ref f52) = true) (l53 : K.lookup f53 = some ⟨oc53, od53, .func (PySem.W.fnOf "limit" "Ladder.limit" (defArgs st_Ladder_limit) (defBody st_Ladder_limit) (defScope st_Ladder_limit) .none kV53 dc53 pm53 an53 cd53 ct53), sl53⟩)
    (c53 : PySem.W.codeIn K cd53 "Ladder.limit" = true) (k53 : PySem.W.keepIn K (.ref f53) = true) (l54 : K.lookup f54 = some ⟨oc54, od54, .func (PySem.W.fnOf "equation" "Exact.equation" (defArgs st_Exact_equation) (defBody st_Exact_equation) (defScope st_Exact_equation) .none kV54 dc54 pm54 an54 cd54 ct54), sl54⟩) (c54 : PySem.W.codeIn K cd54 "Exact.equation" = true)
    (k54 : PySem.W.keepIn K (.ref f54) = true) (l55 : K.lookup f55 = some ⟨oc55, od55, .func (PySem.W.fnOf "shows_limit" "shows_limit" (defArgs st_shows_limit) (defBody st_shows_limit) (defScope st_shows_limit) .none kV55 dc55 pm55 an55 cd55 ct55), sl55⟩) (c55 : PySem.W.codeIn K cd55 "shows_limit" = true) (k55 : PySem.W.keepIn K (.ref f55) = true)
    (l56 : K.lookup f56 = some ⟨oc56, od56, .func (PySem.W.fnOf "accepts" "accepts" (defArgs st_accepts) (defBody st_accepts) (defScope st_accepts) .none kV56 dc56 pm56 an56 cd56 ct56), sl56⟩) (c56 : PySem.W.codeIn K cd56 "accepts" = true) (k56 : PySem.W.keepIn K (.ref f56) = true) (l57 : K.lookup f57 = some ⟨oc57, od57, .func (PySem.W.fnOf "_law_is_whole" "_law_is_whole" (defArgs st__law_is_whole) (defBody st__law_is_whole) (defScope st__law_is_whole) .none kV57 dc57 pm57 an57 cd57 ct57), sl57⟩)
    (c57 : PySem.W.codeIn K cd57 "_law_is_whole" = true) (k57 : PySem.W.keepIn K (.ref f57) = true) (l58 : K.lookup f58 = some ⟨oc58, od58, .func (PySem.W.fnOf "_law_is_row" "_law_is_row" (defArgs st__law_is_row) (defBody st__law_is_row) (defScope st__law_is_row) .none kV58 dc58 pm58 an58 cd58 ct58), sl58⟩) (c58 : PySem.W.codeIn K cd58 "_law_is_row" = true)
    (k58 : PySem.W.keepIn K (.ref f58) = true) (l59 : K.lookup f59 = some ⟨oc59, od59, .func (PySem.W.fnOf "_law_is_load" "_law_is_load" (defArgs st__law_is_load) (defBody st__law_is_load) (defScope st__law_is_load) .none kV59 dc59 pm59 an59 cd59 ct59), sl59⟩) (c59 : PySem.W.codeIn K cd59 "_law_is_load" = true) (k59 : PySem.W.keepIn K (.ref f59) = true)
    (l60 : K.lookup f60 = some ⟨oc60, od60, .func (PySem.W.fnOf "_law_never" "_law_never" (defArgs st__law_never) (defBody st__law_never) (defScope st__law_never) .none kV60 dc60 pm60 an60 cd60 ct60), sl60⟩) (c60 : PySem.W.codeIn K cd60 "_law_never" = true) (k60 : PySem.W.keepIn K (.ref f60) = true) (l61 : K.lookup f61 = some ⟨oc61, od61, .func (PySem.W.fnOf "_law_is_number" "_law_is_number" (defArgs st__law_is_number) (defBody st__law_is_number) (defScope st__law_is_number) .none kV61 dc61 pm61 an61 cd61 ct61), sl61⟩)
    (c61 : PySem.W.codeIn K cd61 "_law_is_number" = true) (k61 : PySem.W.keepIn K (.ref f61) = true) (l62 : K.lookup f62 = some ⟨oc62, od62, .func (PySem.W.fnOf "_law_frac" "_law_frac" (defArgs st__law_frac) (defBody st__law_frac) (defScope st__law_frac) .none kV62 dc62 pm62 an62 cd62 ct62), sl62⟩) (c62 : PySem.W.codeIn K cd62 "_law_frac" = true)
    (k62 : PySem.W.keepIn K (.ref f62) = true) (l63 : K.lookup f63 = some ⟨oc63, od63, .func (PySem.W.fnOf "_law_sign" "_law_sign" (defArgs st__law_sign) (defBody st__law_sign) (defScope st__law_sign) .none kV63 dc63 pm63 an63 cd63 ct63), sl63⟩) (c63 : PySem.W.codeIn K cd63 "_law_sign" = true) (k63 : PySem.W.keepIn K (.ref f63) = true)
    (l64 : K.lookup f64 = some ⟨oc64, od64, .func (PySem.W.fnOf "_law_due" "_law_due" (defArgs st__law_due) (defBody st__law_due) (defScope st__law_due) .none kV64 dc64 pm64 an64 cd64 ct64), sl64⟩) (c64 : PySem.W.codeIn K cd64 "_law_due" = true) (k64 : PySem.W.keepIn K (.ref f64) = true) (l65 : K.lookup f65 = some ⟨oc65, od65, .func (PySem.W.fnOf "_law_right" "_law_right" (defArgs st__law_right) (defBody st__law_right) (defScope st__law_right) .none kV65 dc65 pm65 an65 cd65 ct65), sl65⟩)
    (c65 : PySem.W.codeIn K cd65 "_law_right" = true) (k65 : PySem.W.keepIn K (.ref f65) = true) (l66 : K.lookup f66 = some ⟨oc66, od66, .func (PySem.W.fnOf "_law_src" "_law_src" (defArgs st__law_src) (defBody st__law_src) (defScope st__law_src) .none kV66 dc66 pm66 an66 cd66 ct66), sl66⟩) (c66 : PySem.W.codeIn K cd66 "_law_src" = true)
    (k66 : PySem.W.keepIn K (.ref f66) = true) (l67 : K.lookup f67 = some ⟨oc67, od67, .func (PySem.W.fnOf "_law_cell" "_law_cell" (defArgs st__law_cell) (defBody st__law_cell) (defScope st__law_cell) .none kV67 dc67 pm67 an67 cd67 ct67), sl67⟩) (c67 : PySem.W.codeIn K cd67 "_law_cell" = true) (k67 : PySem.W.keepIn K (.ref f67) = true)
    (l68 : K.lookup f68 = some ⟨oc68, od68, .func (PySem.W.fnOf "law" "law" (defArgs st_law) (defBody st_law) (defScope st_law) .none kV68 dc68 pm68 an68 cd68 ct68), sl68⟩) (c68 : PySem.W.codeIn K cd68 "law" = true) (k68 : PySem.W.keepIn K (.ref f68) = true) (z_abs : PySem.W.nsIn K mainGlobals "abs" = some none)
    (z_all : PySem.W.nsIn K mainGlobals "all" = some none) (z_any : PySem.W.nsIn K mainGlobals "any" = some none) (z_bool : PySem.W.nsIn K mainGlobals "bool" = some none) (z_divmod : PySem.W.nsIn K mainGlobals "divmod" = some none)
    (z_enumerate : PySem.W.nsIn K mainGlobals "enumerate" = some none) (z_int : PySem.W.nsIn K mainGlobals "int" = some none) (z_isinstance : PySem.W.nsIn K mainGlobals "isinstance" = some none) (z_len : PySem.W.nsIn K mainGlobals "len" = some none)
    (z_list : PySem.W.nsIn K mainGlobals "list" = some none) (z_max : PySem.W.nsIn K mainGlobals "max" = some none) (z_min : PySem.W.nsIn K mainGlobals "min" = some none) (z_range : PySem.W.nsIn K mainGlobals "range" = some none)
    (z_repr : PySem.W.nsIn K mainGlobals "repr" = some none) (z_str : PySem.W.nsIn K mainGlobals "str" = some none) (z_super : PySem.W.nsIn K mainGlobals "super" = some none) (z_tuple : PySem.W.nsIn K mainGlobals "tuple" = some none)
    (v_MOST_JOINED : PySem.W.nsIn K mainGlobals "MOST_JOINED" = some (some (.int  8 t_MOST_JOINED))) (v_MOST_OHMS : PySem.W.nsIn K mainGlobals "MOST_OHMS" = some (some (.int  12 t_MOST_OHMS))) (v_WORDS : PySem.W.nsIn K mainGlobals "WORDS" = some (some (.ref T_WORDS))) (w_WORDS : K.lookup T_WORDS = some ⟨.type "tuple", o_WORDS, .seq its_WORDS u_WORDS, sl_WORDS⟩)
    (r_WORDS : Vals [V.str "rail", V.str "rung"] its_WORDS.toList) (v_MOST_PIECES : PySem.W.nsIn K mainGlobals "MOST_PIECES" = some (some (.int  4 t_MOST_PIECES))) (v_NOTHING : PySem.W.nsIn K mainGlobals "NOTHING" = some (some (.ref T_NOTHING))) (w_NOTHING : K.lookup T_NOTHING = some ⟨.type "tuple", o_NOTHING, .seq its_NOTHING u_NOTHING, sl_NOTHING⟩)
    (r_NOTHING : Vals [V.int 1, V.int 0, V.int 0, V.int 1] its_NOTHING.toList) (v_OPEN : PySem.W.nsIn K mainGlobals "OPEN" = some (some (.ref T_OPEN))) (w_OPEN : K.lookup T_OPEN = some ⟨.type "tuple", o_OPEN, .seq its_OPEN u_OPEN, sl_OPEN⟩) (r_OPEN : Vals [V.int 1, V.int 0] its_OPEN.toList)
    (v_GREATEST : PySem.W.nsIn K mainGlobals "GREATEST" = some (some (.int  1000000000000 t_GREATEST))) (v_MOST : PySem.W.nsIn K mainGlobals "MOST" = some (some (.int  10000000000000000000000000000000000000000 t_MOST))) (n_JUDGES_ : PySem.W.nsIn K mainGlobals "JUDGES" = some (some (.ref T_JUDGES))) (w_JUDGES : K.lookup T_JUDGES = some ⟨.type "dict", none, .dict es_JUDGES n_JUDGES, #[]⟩)
    (h_JUDGES : es_JUDGES.toList.map He.keyOf = He.keysIn w.params ["value", "most", "least", "apart", "never", "more", "limit", "greatest", "least of all"]) (lo_JUDGES : (T_JUDGES == sysModules) = false) (v_JUDGES_F_JUDGES_8 : PySem.W.nsIn K T_JUDGES "least of all" = some (some (.ref P_JUDGES_F_JUDGES_8))) (w_JUDGES_F_JUDGES_8 : K.lookup P_JUDGES_F_JUDGES_8 = some ⟨.type "tuple", o_JUDGES_F_JUDGES_8, .seq its_JUDGES_F_JUDGES_8 u_JUDGES_F_JUDGES_8, sl_JUDGES_F_JUDGES_8⟩)
    (r_JUDGES_F_JUDGES_8 : Vals [V.int 5, V.ref F_JUDGES_8] its_JUDGES_F_JUDGES_8.toList) (v_JUDGES_F_JUDGES_7 : PySem.W.nsIn K T_JUDGES "greatest" = some (some (.ref P_JUDGES_F_JUDGES_7))) (w_JUDGES_F_JUDGES_7 : K.lookup P_JUDGES_F_JUDGES_7 = some ⟨.type "tuple", o_JUDGES_F_JUDGES_7, .seq its_JUDGES_F_JUDGES_7 u_JUDGES_F_JUDGES_7, sl_JUDGES_F_JUDGES_7⟩) (r_JUDGES_F_JUDGES_7 : Vals [V.int 5, V.ref F_JUDGES_7] its_JUDGES_F_JUDGES_7.toList)
    (v_JUDGES_55 : PySem.W.nsIn K T_JUDGES "limit" = some (some (.ref P_JUDGES_55))) (w_JUDGES_55 : K.lookup P_JUDGES_55 = some ⟨.type "tuple", o_JUDGES_55, .seq its_JUDGES_55 u_JUDGES_55, sl_JUDGES_55⟩) (r_JUDGES_55 : Vals [V.int 4, V.ref f55] its_JUDGES_55.toList) (v_JUDGES_46 : PySem.W.nsIn K T_JUDGES "more" = some (some (.ref P_JUDGES_46)))
    (w_JUDGES_46 : K.lookup P_JUDGES_46 = some ⟨.type "tuple", o_JUDGES_46, .seq its_JUDGES_46 u_JUDGES_46, sl_JUDGES_46⟩) (r_JUDGES_46 : Vals [V.int 4, V.ref f46] its_JUDGES_46.toList) (v_JUDGES_44 : PySem.W.nsIn K T_JUDGES "never" = some (some (.ref P_JUDGES_44))) (w_JUDGES_44 : K.lookup P_JUDGES_44 = some ⟨.type "tuple", o_JUDGES_44, .seq its_JUDGES_44 u_JUDGES_44, sl_JUDGES_44⟩)
    (r_JUDGES_44 : Vals [V.int 3, V.ref f44] its_JUDGES_44.toList) (v_JUDGES_F_JUDGES_3 : PySem.W.nsIn K T_JUDGES "apart" = some (some (.ref P_JUDGES_F_JUDGES_3))) (w_JUDGES_F_JUDGES_3 : K.lookup P_JUDGES_F_JUDGES_3 = some ⟨.type "tuple", o_JUDGES_F_JUDGES_3, .seq its_JUDGES_F_JUDGES_3 u_JUDGES_F_JUDGES_3, sl_JUDGES_F_JUDGES_3⟩) (r_JUDGES_F_JUDGES_3 : Vals [V.int 6, V.ref F_JUDGES_3] its_JUDGES_F_JUDGES_3.toList)
    (v_JUDGES_F_JUDGES_2 : PySem.W.nsIn K T_JUDGES "least" = some (some (.ref P_JUDGES_F_JUDGES_2))) (w_JUDGES_F_JUDGES_2 : K.lookup P_JUDGES_F_JUDGES_2 = some ⟨.type "tuple", o_JUDGES_F_JUDGES_2, .seq its_JUDGES_F_JUDGES_2 u_JUDGES_F_JUDGES_2, sl_JUDGES_F_JUDGES_2⟩) (r_JUDGES_F_JUDGES_2 : Vals [V.int 4, V.ref F_JUDGES_2] its_JUDGES_F_JUDGES_2.toList) (v_JUDGES_41 : PySem.W.nsIn K T_JUDGES "most" = some (some (.ref P_JUDGES_41)))
    (w_JUDGES_41 : K.lookup P_JUDGES_41 = some ⟨.type "tuple", o_JUDGES_41, .seq its_JUDGES_41 u_JUDGES_41, sl_JUDGES_41⟩) (r_JUDGES_41 : Vals [V.int 4, V.ref f41] its_JUDGES_41.toList) (v_JUDGES_F_JUDGES_0 : PySem.W.nsIn K T_JUDGES "value" = some (some (.ref P_JUDGES_F_JUDGES_0))) (w_JUDGES_F_JUDGES_0 : K.lookup P_JUDGES_F_JUDGES_0 = some ⟨.type "tuple", o_JUDGES_F_JUDGES_0, .seq its_JUDGES_F_JUDGES_0 u_JUDGES_F_JUDGES_0, sl_JUDGES_F_JUDGES_0⟩)
    (r_JUDGES_F_JUDGES_0 : Vals [V.int 5, V.ref F_JUDGES_0] its_JUDGES_F_JUDGES_0.toList) (ihn : PySem.W.specialIn K (.builtin "object.__class__") "__get__" = some (some (.builtin "getset_descriptor.__get__"))) (iht : PySem.W.takesIn K (.builtin "object.__class__") = some true) (ic0 : PySem.W.isClsIn K C0 = true)
    (ty0 : PySem.W.typeIn K (.ref C0) = some (.type "type")) (kk0_0 : PySem.W.subIn K (.ref C0) (.ref C0) = some true) (kk0_1 : PySem.W.subIn K (.ref C0) (.ref C1) = some false) (kk0_2 : PySem.W.subIn K (.ref C0) (.ref C2) = some false)
    (ct0_none_ : PySem.W.subIn K (.ref C0) (.type "NoneType") = some false) (tc0_none_ : PySem.W.subIn K (.type "NoneType") (.ref C0) = some false) (ct0_bool : PySem.W.subIn K (.ref C0) (.type "bool") = some false) (tc0_bool : PySem.W.subIn K (.type "bool") (.ref C0) = some false)
    (ct0_int : PySem.W.subIn K (.ref C0) (.type "int") = some false) (tc0_int : PySem.W.subIn K (.type "int") (.ref C0) = some false) (ct0_str : PySem.W.subIn K (.ref C0) (.type "str") = some false) (tc0_str : PySem.W.subIn K (.type "str") (.ref C0) = some false)
    (ct0_tuple : PySem.W.subIn K (.ref C0) (.type "tuple") = some false) (tc0_tuple : PySem.W.subIn K (.type "tuple") (.ref C0) = some false) (ct0_list : PySem.W.subIn K (.ref C0) (.type "list") = some false) (tc0_list : PySem.W.subIn K (.type "list") (.ref C0) = some false)
    (ct0_dict : PySem.W.subIn K (.ref C0) (.type "dict") = some false) (tc0_dict : PySem.W.subIn K (.type "dict") (.ref C0) = some false) (ic1 : PySem.W.isClsIn K C1 = true) (ty1 : PySem.W.typeIn K (.ref C1) = some (.type "type"))
    (kk1_1 : PySem.W.subIn K (.ref C1) (.ref C1) = some true) (kk1_0 : PySem.W.subIn K (.ref C1) (.ref C0) = some false) (kk1_2 : PySem.W.subIn K (.ref C1) (.ref C2) = some false) (ct1_none_ : PySem.W.subIn K (.ref C1) (.type "NoneType") = some false)
    (tc1_none_ : PySem.W.subIn K (.type "NoneType") (.ref C1) = some false) (ct1_bool : PySem.W.subIn K (.ref C1) (.type "bool") = some false) (tc1_bool : PySem.W.subIn K (.type "bool") (.ref C1) = some false) (ct1_int : PySem.W.subIn K (.ref C1) (.type "int") = some false)
    (tc1_int : PySem.W.subIn K (.type "int") (.ref C1) = some false) (ct1_str : PySem.W.subIn K (.ref C1) (.type "str") = some false) (tc1_str : PySem.W.subIn K (.type "str") (.ref C1) = some false) (ct1_tuple : PySem.W.subIn K (.ref C1) (.type "tuple") = some false)
    (tc1_tuple : PySem.W.subIn K (.type "tuple") (.ref C1) = some false) (ct1_list : PySem.W.subIn K (.ref C1) (.type "list") = some false) (tc1_list : PySem.W.subIn K (.type "list") (.ref C1) = some false) (ct1_dict : PySem.W.subIn K (.ref C1) (.type "dict") = some false)
    (tc1_dict : PySem.W.subIn K (.type "dict") (.ref C1) = some false) (ic2 : PySem.W.isClsIn K C2 = true) (ty2 : PySem.W.typeIn K (.ref C2) = some (.type "type")) (kk2_2 : PySem.W.subIn K (.ref C2) (.ref C2) = some true)
    (kk2_0 : PySem.W.subIn K (.ref C2) (.ref C0) = some false) (kk2_1 : PySem.W.subIn K (.ref C2) (.ref C1) = some false) (ct2_none_ : PySem.W.subIn K (.ref C2) (.type "NoneType") = some false) (tc2_none_ : PySem.W.subIn K (.type "NoneType") (.ref C2) = some false)
    (ct2_bool : PySem.W.subIn K (.ref C2) (.type "bool") = some false) (tc2_bool : PySem.W.subIn K (.type "bool") (.ref C2) = some false) (ct2_int : PySem.W.subIn K (.ref C2) (.type "int") = some false) (tc2_int : PySem.W.subIn K (.type "int") (.ref C2) = some false)
    (ct2_str : PySem.W.subIn K (.ref C2) (.type "str") = some false) (tc2_str : PySem.W.subIn K (.type "str") (.ref C2) = some false) (ct2_tuple : PySem.W.subIn K (.ref C2) (.type "tuple") = some false) (tc2_tuple : PySem.W.subIn K (.type "tuple") (.ref C2) = some false)
    (ct2_list : PySem.W.subIn K (.ref C2) (.type "list") = some false) (tc2_list : PySem.W.subIn K (.type "list") (.ref C2) = some false) (ct2_dict : PySem.W.subIn K (.ref C2) (.type "dict") = some false) (tc2_dict : PySem.W.subIn K (.type "dict") (.ref C2) = some false)
    (ic5 : PySem.W.isClsIn K C5 = true) (ty5 : PySem.W.typeIn K (.ref C5) = some (.type "type")) (kk5_5 : PySem.W.subIn K (.ref C5) (.ref C5) = some true) (kk5_0 : PySem.W.subIn K (.ref C5) (.ref C0) = some false)
    (kk5_1 : PySem.W.subIn K (.ref C5) (.ref C1) = some false) (kk5_2 : PySem.W.subIn K (.ref C5) (.ref C2) = some false) (ct5_none_ : PySem.W.subIn K (.ref C5) (.type "NoneType") = some false) (tc5_none_ : PySem.W.subIn K (.type "NoneType") (.ref C5) = some false)
    (ct5_bool : PySem.W.subIn K (.ref C5) (.type "bool") = some false) (tc5_bool : PySem.W.subIn K (.type "bool") (.ref C5) = some false) (ct5_int : PySem.W.subIn K (.ref C5) (.type "int") = some false) (tc5_int : PySem.W.subIn K (.type "int") (.ref C5) = some false)
    (ct5_str : PySem.W.subIn K (.ref C5) (.type "str") = some false) (tc5_str : PySem.W.subIn K (.type "str") (.ref C5) = some false) (ct5_tuple : PySem.W.subIn K (.ref C5) (.type "tuple") = some false) (tc5_tuple : PySem.W.subIn K (.type "tuple") (.ref C5) = some false)
    (ct5_list : PySem.W.subIn K (.ref C5) (.type "list") = some false) (tc5_list : PySem.W.subIn K (.type "list") (.ref C5) = some false) (ct5_dict : PySem.W.subIn K (.ref C5) (.type "dict") = some false) (tc5_dict : PySem.W.subIn K (.type "dict") (.ref C5) = some false)
    : ∃ G : Sg, G.K = K ∧ ∀ base : Heap, K.In base → base.Ns mainGlobals mg → FnA l.prog w K mg base G 26 fa sem_law := by
  have e := hfa.symm.trans (PySem.W.mg_of X G a68)
  cases e
  refine ⟨GG true K (adOf [(1000, C0), (1001, C1), (1002, C2), (1005, C5), (0, f0), (1, f1), (2, f2), (3, f3), (4, f4), (5, f5), (6, f6), (7, f7), (8, f8), (9, f9), (10, f10), (11, f11), (12, f12), (13, f13), (14, f14), (15, f15), (16, f16), (17, f17), (18, f18), (19, f19), (20, f20), (21, f21), (22, f22), (23, f23), (24, f24), (25, f25), (26, f26), (27, f27), (28, f28), (29, f29), (30, f30), (31, f31), (32, f32), (33, f33), (34, f34), (35, f35), (36, f36), (37, f37), (38, f38), (39, f39), (40, f40), (41, f41), (42, f42), (43, f43), (44, f44), (45, f45), (46, f46), (47, f47), (48, f48), (49, f49), (50, f50), (51, f51), (52, f52), (53, f53), (54, f54), (55, f55), (56, f56), (57, f57), (58, f58), (59, f59), (60, f60), (61, f61), (62, f62), (63, f63), (64, f64), (65, f65), (66, f66), (67, f67), (68, fa), (2035, cc35), (3035, cda35), (5000, T_JUDGES), (4908, F_JUDGES_8), (4907, F_JUDGES_7), (4055, f55), (4046, f46), (4044, f44), (4903, F_JUDGES_3), (4902, F_JUDGES_2), (4041, f41), (4900, F_JUDGES_0)]), rfl, fun base _ _ => ?_⟩
  have T : Facts l.prog w K mg base (adOf [(1000, C0), (1001, C1), (1002, C2), (1005, C5), (0, f0), (1, f1), (2, f2), (3, f3), (4, f4), (5, f5), (6, f6), (7, f7), (8, f8), (9, f9), (10, f10), (11, f11), (12, f12), (13, f13), (14, f14), (15, f15), (16, f16), (17, f17), (18, f18), (19, f19), (20, f20), (21, f21), (22, f22), (23, f23), (24, f24), (25, f25), (26, f26), (27, f27), (28, f28), (29, f29), (30, f30), (31, f31), (32, f32), (33, f33), (34, f34), (35, f35), (36, f36), (37, f37), (38, f38), (39, f39), (40, f40), (41, f41), (42, f42), (43, f43), (44, f44), (45, f45), (46, f46), (47, f47), (48, f48), (49, f49), (50, f50), (51, f51), (52, f52), (53, f53), (54, f54), (55, f55), (56, f56), (57, f57), (58, f58), (59, f59), (60, f60), (61, f61), (62, f62), (63, f63), (64, f64), (65, f65), (66, f66), (67, f67), (68, fa), (2035, cc35), (3035, cda35), (5000, T_JUDGES), (4908, F_JUDGES_8), (4907, F_JUDGES_7), (4055, f55), (4046, f46), (4044, f44), (4903, F_JUDGES_3), (4902, F_JUDGES_2), (4041, f41), (4900, F_JUDGES_0)]) :=
    { k_Row := PySem.W.mg_of X G nC0
      cl_Row := ⟨pgC0, hdC0, poC0, saC0⟩
      na_Row_told := naC0_told
      k_Pattern := PySem.W.mg_of X G nC1
      cl_Pattern := ⟨pgC1, hdC1, poC1, saC1⟩
      na_Pattern_row := naC1_row
      na_Pattern_chain := naC1_chain
      na_Pattern_scale := naC1_scale
      k_Exact := PySem.W.mg_of X G nC2
      cl_Exact := ⟨pgC2, hdC2, poC2, saC2⟩
      na_Exact_triple := naC2_triple
      k_Ladder := PySem.W.mg_of X G nC5
      cl_Ladder := ⟨pgC5, hdC5, poC5, saC5⟩
      na_Ladder_first := naC5_first
      na_Ladder_pattern := naC5_pattern
      g__law_pick := PySem.W.mg_of X G a0
      g__law_even := PySem.W.mg_of X G a1
      g__law_anyrow := PySem.W.mg_of X G a2
      g__law_some_row := PySem.W.mg_of X G a3
      g__law_anyload := PySem.W.mg_of X G a4
      g__law_near := PySem.W.mg_of X G a5
      g__law_crossing := PySem.W.mg_of X G a6
      g__law_led := PySem.W.mg_of X G a7
      g__law_isqrt := PySem.W.mg_of X G a8
      g__law_lowest := PySem.W.mg_of X G a9
      g__law_limit := PySem.W.mg_of X G a10
      g__law_told_limit := PySem.W.mg_of X G a11
      g__law_after := PySem.W.mg_of X G a12
      g__law_case := PySem.W.mg_of X G a13
      g__law_anyodd := PySem.W.mg_of X G a14
      g__law_bent := PySem.W.mg_of X G a15
      g_is_integer := PySem.W.mg_of X G a16
      g_is_between := PySem.W.mg_of X G a17
      g_is_piece := PySem.W.mg_of X G a18
      g_check_pieces := PySem.W.mg_of X G a19
      g_joined := PySem.W.mg_of X G a20
      g_chain_of := PySem.W.mg_of X G a21
      g_pattern_of := PySem.W.mg_of X G a24
      g_pattern_told := PySem.W.mg_of X G a25
      g_is_fraction := PySem.W.mg_of X G a26
      g_is_number := PySem.W.mg_of X G a27
      g_is_resistance := PySem.W.mg_of X G a28
      g_check_pattern := PySem.W.mg_of X G a29
      g_check_resistance := PySem.W.mg_of X G a30
      g_common := PySem.W.mg_of X G a32
      g_lowest := PySem.W.mg_of X G a33
      g_pair_of := PySem.W.mg_of X G a34
      g_ladder_told := PySem.W.mg_of X G a36
      g_sign_of := PySem.W.mg_of X G a37
      g_compare := PySem.W.mg_of X G a38
      g_led := PySem.W.mg_of X G a39
      g_shows_bound := PySem.W.mg_of X G a40
      g_shows_most := PySem.W.mg_of X G a41
      g_difference := PySem.W.mg_of X G a42
      g_is_never_below := PySem.W.mg_of X G a43
      g_shows_never := PySem.W.mg_of X G a44
      g_shown := PySem.W.mg_of X G a45
      g_shows_more := PySem.W.mg_of X G a46
      g_is_rails := PySem.W.mg_of X G a47
      g_is_rungs := PySem.W.mg_of X G a48
      g_root_below := PySem.W.mg_of X G a49
      g_normal := PySem.W.mg_of X G a50
      g_limit_of := PySem.W.mg_of X G a52
      g_shows_limit := PySem.W.mg_of X G a55
      g_accepts := PySem.W.mg_of X G a56
      g__law_is_whole := PySem.W.mg_of X G a57
      g__law_is_row := PySem.W.mg_of X G a58
      g__law_is_load := PySem.W.mg_of X G a59
      g__law_never := PySem.W.mg_of X G a60
      g__law_is_number := PySem.W.mg_of X G a61
      g__law_frac := PySem.W.mg_of X G a62
      g__law_sign := PySem.W.mg_of X G a63
      g__law_due := PySem.W.mg_of X G a64
      g__law_right := PySem.W.mg_of X G a65
      g__law_src := PySem.W.mg_of X G a66
      g__law_cell := PySem.W.mg_of X G a67
      g_law := PySem.W.mg_of X G a68
      m_Pattern := ⟨mkC1, a22_1, i22, kpC1⟩
      m_Row := ⟨mkC0, a23_0, i23, kpC0⟩
      m_Ladder := ⟨mkC5, a35_5, i35, kpC5⟩
      m_Exact := ⟨mkC2, a51_2, i51, kpC2⟩
      p_Ladder_Ladder_limit := ⟨_, ⟨a53_5, b53_5, d53_5, ⟨_, e53_5⟩⟩⟩
      p_Exact_Exact_equation := ⟨_, ⟨a54_2, b54_2, d54_2, ⟨_, e54_2⟩⟩⟩
      f__law_pick := ⟨_, fun_mk (st := st__law_pick) l0 c0 k0⟩
      f__law_even := ⟨_, fun_mk (st := st__law_even) l1 c1 k1⟩
      f__law_anyrow := ⟨_, fun_mk (st := st__law_anyrow) l2 c2 k2⟩
      f__law_some_row := ⟨_, fun_mk (st := st__law_some_row) l3 c3 k3⟩
      f__law_anyload := ⟨_, fun_mk (st := st__law_anyload) l4 c4 k4⟩
      f__law_near := ⟨_, fun_mk (st := st__law_near) l5 c5 k5⟩
      f__law_crossing := ⟨_, fun_mk (st := st__law_crossing) l6 c6 k6⟩
      f__law_led := ⟨_, fun_mk (st := st__law_led) l7 c7 k7⟩
      f__law_isqrt := ⟨_, fun_mk (st := st__law_isqrt) l8 c8 k8⟩
      f__law_lowest := ⟨_, fun_mk (st := st__law_lowest) l9 c9 k9⟩
      f__law_limit := ⟨_, fun_mk (st := st__law_limit) l10 c10 k10⟩
      f__law_told_limit := ⟨_, fun_mk (st := st__law_told_limit) l11 c11 k11⟩
      f__law_after := ⟨_, fun_mk (st := st__law_after) l12 c12 k12⟩
      f__law_case := ⟨_, fun_mk (st := st__law_case) l13 c13 k13⟩
      f__law_anyodd := ⟨_, fun_mk (st := st__law_anyodd) l14 c14 k14⟩
      f__law_bent := ⟨_, fun_mk (st := st__law_bent) l15 c15 k15⟩
      f_is_integer := ⟨_, fun_mk (st := st_is_integer) l16 c16 k16⟩
      f_is_between := ⟨_, fun_mk (st := st_is_between) l17 c17 k17⟩
      f_is_piece := ⟨_, fun_mk (st := st_is_piece) l18 c18 k18⟩
      f_check_pieces := ⟨_, fun_mk (st := st_check_pieces) l19 c19 k19⟩
      f_joined := ⟨_, fun_mk (st := st_joined) l20 c20 k20⟩
      f_chain_of := ⟨_, fun_mk (st := st_chain_of) l21 c21 k21⟩
      f_PatternX_initX := ⟨_, fun_mk (st := st_PatternX_initX) l22 c22 k22⟩
      f_RowX_initX := ⟨_, fun_mk (st := st_RowX_initX) l23 c23 k23⟩
      f_pattern_of := ⟨_, fun_mk (st := st_pattern_of) l24 c24 k24⟩
      f_pattern_told := ⟨_, fun_mk (st := st_pattern_told) l25 c25 k25⟩
      f_is_fraction := ⟨_, fun_mk (st := st_is_fraction) l26 c26 k26⟩
      f_is_number := ⟨_, fun_mk (st := st_is_number) l27 c27 k27⟩
      f_is_resistance := ⟨_, fun_mk (st := st_is_resistance) l28 c28 k28⟩
      f_check_pattern := ⟨_, fun_mk (st := st_check_pattern) l29 c29 k29⟩
      f_check_resistance := ⟨_, fun_mk (st := st_check_resistance) l30 c30 k30⟩
      f_RunX_initX := ⟨_, fun_mk (st := st_RunX_initX) l31 c31 k31⟩
      f_common := ⟨_, fun_mk (st := st_common) l32 c32 k32⟩
      f_lowest := ⟨_, fun_mk (st := st_lowest) l33 c33 k33⟩
      f_pair_of := ⟨_, fun_mk (st := st_pair_of) l34 c34 k34⟩
      u_LadderX_initX := ⟨⟨_, _, _, _, _, _, _, _, l35⟩, c35, k35, ⟨_, _, _, la35⟩, ⟨_, _, _, _, _, _, lb35, lc35, ld35⟩, ⟨_, le35⟩, lf35, lg35, lh35, li35, tpa, tsn⟩
      f_ladder_told := ⟨_, fun_mk (st := st_ladder_told) l36 c36 k36⟩
      f_sign_of := ⟨_, fun_mk (st := st_sign_of) l37 c37 k37⟩
      f_compare := ⟨_, fun_mk (st := st_compare) l38 c38 k38⟩
      f_led := ⟨_, fun_mk (st := st_led) l39 c39 k39⟩
      f_shows_bound := ⟨_, fun_mk (st := st_shows_bound) l40 c40 k40⟩
      f_shows_most := ⟨_, fun_mk (st := st_shows_most) l41 c41 k41⟩
      f_difference := ⟨_, fun_mk (st := st_difference) l42 c42 k42⟩
      f_is_never_below := ⟨_, fun_mk (st := st_is_never_below) l43 c43 k43⟩
      f_shows_never := ⟨_, fun_mk (st := st_shows_never) l44 c44 k44⟩
      f_shown := ⟨_, fun_mk (st := st_shown) l45 c45 k45⟩
      f_shows_more := ⟨_, fun_mk (st := st_shows_more) l46 c46 k46⟩
      f_is_rails := ⟨_, fun_mk (st := st_is_rails) l47 c47 k47⟩
      f_is_rungs := ⟨_, fun_mk (st := st_is_rungs) l48 c48 k48⟩
      f_root_below := ⟨_, fun_mk (st := st_root_below) l49 c49 k49⟩
      f_normal := ⟨_, fun_mk (st := st_normal) l50 c50 k50⟩
      f_ExactX_initX := ⟨_, fun_mk (st := st_ExactX_initX) l51 c51 k51⟩
      f_limit_of := ⟨_, fun_mk (st := st_limit_of) l52 c52 k52⟩
      f_Ladder_limit := ⟨_, fun_mk (st := st_Ladder_limit) l53 c53 k53⟩
      f_Exact_equation := ⟨_, fun_mk (st := st_Exact_equation) l54 c54 k54⟩
      f_shows_limit := ⟨_, fun_mk (st := st_shows_limit) l55 c55 k55⟩
      f_accepts := ⟨_, fun_mk (st := st_accepts) l56 c56 k56⟩
      f__law_is_whole := ⟨_, fun_mk (st := st__law_is_whole) l57 c57 k57⟩
      f__law_is_row := ⟨_, fun_mk (st := st__law_is_row) l58 c58 k58⟩
      f__law_is_load := ⟨_, fun_mk (st := st__law_is_load) l59 c59 k59⟩
      f__law_never := ⟨_, fun_mk (st := st__law_never) l60 c60 k60⟩
      f__law_is_number := ⟨_, fun_mk (st := st__law_is_number) l61 c61 k61⟩
      f__law_frac := ⟨_, fun_mk (st := st__law_frac) l62 c62 k62⟩
      f__law_sign := ⟨_, fun_mk (st := st__law_sign) l63 c63 k63⟩
      f__law_due := ⟨_, fun_mk (st := st__law_due) l64 c64 k64⟩
      f__law_right := ⟨_, fun_mk (st := st__law_right) l65 c65 k65⟩
      f__law_src := ⟨_, fun_mk (st := st__law_src) l66 c66 k66⟩
      f__law_cell := ⟨_, fun_mk (st := st__law_cell) l67 c67 k67⟩
      f_law := ⟨_, fun_mk (st := st_law) l68 c68 k68⟩
      z_abs := PySem.W.mg_none_of X G z_abs
      z_all := PySem.W.mg_none_of X G z_all
      z_any := PySem.W.mg_none_of X G z_any
      z_bool := PySem.W.mg_none_of X G z_bool
      z_divmod := PySem.W.mg_none_of X G z_divmod
      z_enumerate := PySem.W.mg_none_of X G z_enumerate
      z_int := PySem.W.mg_none_of X G z_int
      z_isinstance := PySem.W.mg_none_of X G z_isinstance
      z_len := PySem.W.mg_none_of X G z_len
      z_list := PySem.W.mg_none_of X G z_list
      z_max := PySem.W.mg_none_of X G z_max
      z_min := PySem.W.mg_none_of X G z_min
      z_range := PySem.W.mg_none_of X G z_range
      z_repr := PySem.W.mg_none_of X G z_repr
      z_str := PySem.W.mg_none_of X G z_str
      z_super := PySem.W.mg_none_of X G z_super
      z_tuple := PySem.W.mg_none_of X G z_tuple
      c_MOST_JOINED := fun _ => glob_int (PySem.W.mg_of X G v_MOST_JOINED)
      c_MOST_OHMS := fun _ => glob_int (PySem.W.mg_of X G v_MOST_OHMS)
      c_WORDS := fun _ => glob_tup (PySem.W.mg_of X G v_WORDS) ⟨_, _, _, w_WORDS, rfl, rfl, (by have := r_WORDS.length; rw [← Array.length_toList, ← this]; decide), r_WORDS⟩ (fun _ => ⟨_, _, rfl, rfl, ⟨_, _, rfl, rfl, rfl⟩⟩)
      c_MOST_PIECES := fun _ => glob_int (PySem.W.mg_of X G v_MOST_PIECES)
      c_NOTHING := fun _ => glob_tup (PySem.W.mg_of X G v_NOTHING) ⟨_, _, _, w_NOTHING, rfl, rfl, (by have := r_NOTHING.length; rw [← Array.length_toList, ← this]; decide), r_NOTHING⟩ (fun _ => ⟨_, _, rfl, rfl, ⟨_, _, rfl, rfl, ⟨_, _, rfl, rfl, ⟨_, _, rfl, rfl, rfl⟩⟩⟩⟩)
      c_OPEN := fun _ => glob_tup (PySem.W.mg_of X G v_OPEN) ⟨_, _, _, w_OPEN, rfl, rfl, (by have := r_OPEN.length; rw [← Array.length_toList, ← this]; decide), r_OPEN⟩ (fun _ => ⟨_, _, rfl, rfl, ⟨_, _, rfl, rfl, rfl⟩⟩)
      c_GREATEST := fun _ => glob_int (PySem.W.mg_of X G v_GREATEST)
      c_MOST := fun _ => glob_int (PySem.W.mg_of X G v_MOST)
      fe_shows_limit := rfl
      fe_shows_more := rfl
      fe_shows_never := rfl
      fe_shows_most := rfl
      k_JUDGES := PySem.W.mg_of X G n_JUDGES_
      kd_JUDGES := fun _ => ⟨⟨es_JUDGES, n_JUDGES, ⟨w_JUDGES, He.keysLit_of h_JUDGES, lo_JUDGES⟩, h_JUDGES⟩, (val_cons (fun e he => by cases he; exact ⟨_, .ref P_JUDGES_F_JUDGES_0, v_JUDGES_F_JUDGES_0, rfl, fun wd => ⟨P_JUDGES_F_JUDGES_0, [V.int 5, V.ref F_JUDGES_0], rfl, .inr ⟨_, _, _, w_JUDGES_F_JUDGES_0, rfl, rfl, (by have := r_JUDGES_F_JUDGES_0.length; rw [← Array.length_toList, ← this]; exact (show 2 ≤ sizeLine by decide)), r_JUDGES_F_JUDGES_0⟩, ⟨_, _, rfl, rfl, _, _, rfl, rfl, rfl⟩⟩⟩) (val_cons (fun e he => by cases he; exact ⟨_, .ref P_JUDGES_41, v_JUDGES_41, rfl, fun wd => ⟨P_JUDGES_41, [V.int 4, V.ref f41], rfl, .inr ⟨_, _, _, w_JUDGES_41, rfl, rfl, (by have := r_JUDGES_41.length; rw [← Array.length_toList, ← this]; exact (show 2 ≤ sizeLine by decide)), r_JUDGES_41⟩, ⟨_, _, rfl, rfl, _, _, rfl, rfl, rfl⟩⟩⟩) (val_cons (fun e he => by cases he; exact ⟨_, .ref P_JUDGES_F_JUDGES_2, v_JUDGES_F_JUDGES_2, rfl, fun wd => ⟨P_JUDGES_F_JUDGES_2, [V.int 4, V.ref F_JUDGES_2], rfl, .inr ⟨_, _, _, w_JUDGES_F_JUDGES_2, rfl, rfl, (by have := r_JUDGES_F_JUDGES_2.length; rw [← Array.length_toList, ← this]; exact (show 2 ≤ sizeLine by decide)), r_JUDGES_F_JUDGES_2⟩, ⟨_, _, rfl, rfl, _, _, rfl, rfl, rfl⟩⟩⟩) (val_cons (fun e he => by cases he; exact ⟨_, .ref P_JUDGES_F_JUDGES_3, v_JUDGES_F_JUDGES_3, rfl, fun wd => ⟨P_JUDGES_F_JUDGES_3, [V.int 6, V.ref F_JUDGES_3], rfl, .inr ⟨_, _, _, w_JUDGES_F_JUDGES_3, rfl, rfl, (by have := r_JUDGES_F_JUDGES_3.length; rw [← Array.length_toList, ← this]; exact (show 2 ≤ sizeLine by decide)), r_JUDGES_F_JUDGES_3⟩, ⟨_, _, rfl, rfl, _, _, rfl, rfl, rfl⟩⟩⟩) (val_cons (fun e he => by cases he; exact ⟨_, .ref P_JUDGES_44, v_JUDGES_44, rfl, fun wd => ⟨P_JUDGES_44, [V.int 3, V.ref f44], rfl, .inr ⟨_, _, _, w_JUDGES_44, rfl, rfl, (by have := r_JUDGES_44.length; rw [← Array.length_toList, ← this]; exact (show 2 ≤ sizeLine by decide)), r_JUDGES_44⟩, ⟨_, _, rfl, rfl, _, _, rfl, rfl, rfl⟩⟩⟩) (val_cons (fun e he => by cases he; exact ⟨_, .ref P_JUDGES_46, v_JUDGES_46, rfl, fun wd => ⟨P_JUDGES_46, [V.int 4, V.ref f46], rfl, .inr ⟨_, _, _, w_JUDGES_46, rfl, rfl, (by have := r_JUDGES_46.length; rw [← Array.length_toList, ← this]; exact (show 2 ≤ sizeLine by decide)), r_JUDGES_46⟩, ⟨_, _, rfl, rfl, _, _, rfl, rfl, rfl⟩⟩⟩) (val_cons (fun e he => by cases he; exact ⟨_, .ref P_JUDGES_55, v_JUDGES_55, rfl, fun wd => ⟨P_JUDGES_55, [V.int 4, V.ref f55], rfl, .inr ⟨_, _, _, w_JUDGES_55, rfl, rfl, (by have := r_JUDGES_55.length; rw [← Array.length_toList, ← this]; exact (show 2 ≤ sizeLine by decide)), r_JUDGES_55⟩, ⟨_, _, rfl, rfl, _, _, rfl, rfl, rfl⟩⟩⟩) (val_cons (fun e he => by cases he; exact ⟨_, .ref P_JUDGES_F_JUDGES_7, v_JUDGES_F_JUDGES_7, rfl, fun wd => ⟨P_JUDGES_F_JUDGES_7, [V.int 5, V.ref F_JUDGES_7], rfl, .inr ⟨_, _, _, w_JUDGES_F_JUDGES_7, rfl, rfl, (by have := r_JUDGES_F_JUDGES_7.length; rw [← Array.length_toList, ← this]; exact (show 2 ≤ sizeLine by decide)), r_JUDGES_F_JUDGES_7⟩, ⟨_, _, rfl, rfl, _, _, rfl, rfl, rfl⟩⟩⟩) (val_cons (fun e he => by cases he; exact ⟨_, .ref P_JUDGES_F_JUDGES_8, v_JUDGES_F_JUDGES_8, rfl, fun wd => ⟨P_JUDGES_F_JUDGES_8, [V.int 5, V.ref F_JUDGES_8], rfl, .inr ⟨_, _, _, w_JUDGES_F_JUDGES_8, rfl, rfl, (by have := r_JUDGES_F_JUDGES_8.length; rw [← Array.length_toList, ← this]; exact (show 2 ≤ sizeLine by decide)), r_JUDGES_F_JUDGES_8⟩, ⟨_, _, rfl, rfl, _, _, rfl, rfl, rfl⟩⟩⟩) val_nil)))))))))⟩
      isa := fun _ Y hY => by
        subst hY
        refine ⟨fun c hc => ?_, ihn, iht, fun c c' b hb => ?_, fun c t hc => ?_, fun t c hc => ?_⟩
        · have hc := of_decide_eq_true hc
          simp only [List.mem_cons, List.mem_nil_iff, or_false] at hc
          rcases hc with rfl | rfl | rfl | rfl
          · exact ⟨⟨pgC0, hdC0, poC0, saC0⟩, ccC0, moC0⟩
          · exact ⟨⟨pgC1, hdC1, poC1, saC1⟩, ccC1, moC1⟩
          · exact ⟨⟨pgC2, hdC2, poC2, saC2⟩, ccC2, moC2⟩
          · exact ⟨⟨pgC5, hdC5, poC5, saC5⟩, ccC5, moC5⟩
        · split at hb
          · next hh =>
            obtain ⟨h1, h2⟩ := hh
            simp only [List.mem_cons, List.mem_nil_iff, or_false] at h1 h2
            rcases h1 with rfl | rfl | rfl | rfl <;> rcases h2 with rfl | rfl | rfl <;> cases hb
            · exact Ev.kit_cc ic0 ty0 kk0_0 kk0_0
            · exact Ev.kit_cc ic1 ty1 kk0_1 kk1_1
            · exact Ev.kit_cc ic2 ty2 kk0_2 kk2_2
            · exact Ev.kit_cc ic0 ty0 kk1_0 kk0_0
            · exact Ev.kit_cc ic1 ty1 kk1_1 kk1_1
            · exact Ev.kit_cc ic2 ty2 kk1_2 kk2_2
            · exact Ev.kit_cc ic0 ty0 kk2_0 kk0_0
            · exact Ev.kit_cc ic1 ty1 kk2_1 kk1_1
            · exact Ev.kit_cc ic2 ty2 kk2_2 kk2_2
            · exact Ev.kit_cc ic0 ty0 kk5_0 kk0_0
            · exact Ev.kit_cc ic1 ty1 kk5_1 kk1_1
            · exact Ev.kit_cc ic2 ty2 kk5_2 kk2_2
          · cases hb
        · have hc := of_decide_eq_true hc
          simp only [List.mem_cons, List.mem_nil_iff, or_false] at hc
          rcases hc with rfl | rfl | rfl | rfl <;> cases t
          · exact Ev.kit_ct (by decide +kernel) ct0_none_
          · exact Ev.kit_ct (by decide +kernel) ct0_bool
          · exact Ev.kit_ct (by decide +kernel) ct0_int
          · exact Ev.kit_ct (by decide +kernel) ct0_str
          · exact Ev.kit_ct (by decide +kernel) ct0_tuple
          · exact Ev.kit_ct (by decide +kernel) ct0_list
          · exact Ev.kit_ct (by decide +kernel) ct0_dict
          · exact Ev.kit_ct (by decide +kernel) ct1_none_
          · exact Ev.kit_ct (by decide +kernel) ct1_bool
          · exact Ev.kit_ct (by decide +kernel) ct1_int
          · exact Ev.kit_ct (by decide +kernel) ct1_str
          · exact Ev.kit_ct (by decide +kernel) ct1_tuple
          · exact Ev.kit_ct (by decide +kernel) ct1_list
          · exact Ev.kit_ct (by decide +kernel) ct1_dict
          · exact Ev.kit_ct (by decide +kernel) ct2_none_
          · exact Ev.kit_ct (by decide +kernel) ct2_bool
          · exact Ev.kit_ct (by decide +kernel) ct2_int
          · exact Ev.kit_ct (by decide +kernel) ct2_str
          · exact Ev.kit_ct (by decide +kernel) ct2_tuple
          · exact Ev.kit_ct (by decide +kernel) ct2_list
          · exact Ev.kit_ct (by decide +kernel) ct2_dict
          · exact Ev.kit_ct (by decide +kernel) ct5_none_
          · exact Ev.kit_ct (by decide +kernel) ct5_bool
          · exact Ev.kit_ct (by decide +kernel) ct5_int
          · exact Ev.kit_ct (by decide +kernel) ct5_str
          · exact Ev.kit_ct (by decide +kernel) ct5_tuple
          · exact Ev.kit_ct (by decide +kernel) ct5_list
          · exact Ev.kit_ct (by decide +kernel) ct5_dict
        · have hc := of_decide_eq_true hc
          simp only [List.mem_cons, List.mem_nil_iff, or_false] at hc
          rcases hc with rfl | rfl | rfl | rfl <;> cases t
          · exact Ev.kit_cc ic0 ty0 tc0_none_ kk0_0
          · exact Ev.kit_cc ic0 ty0 tc0_bool kk0_0
          · exact Ev.kit_cc ic0 ty0 tc0_int kk0_0
          · exact Ev.kit_cc ic0 ty0 tc0_str kk0_0
          · exact Ev.kit_cc ic0 ty0 tc0_tuple kk0_0
          · exact Ev.kit_cc ic0 ty0 tc0_list kk0_0
          · exact Ev.kit_cc ic0 ty0 tc0_dict kk0_0
          · exact Ev.kit_cc ic1 ty1 tc1_none_ kk1_1
          · exact Ev.kit_cc ic1 ty1 tc1_bool kk1_1
          · exact Ev.kit_cc ic1 ty1 tc1_int kk1_1
          · exact Ev.kit_cc ic1 ty1 tc1_str kk1_1
          · exact Ev.kit_cc ic1 ty1 tc1_tuple kk1_1
          · exact Ev.kit_cc ic1 ty1 tc1_list kk1_1
          · exact Ev.kit_cc ic1 ty1 tc1_dict kk1_1
          · exact Ev.kit_cc ic2 ty2 tc2_none_ kk2_2
          · exact Ev.kit_cc ic2 ty2 tc2_bool kk2_2
          · exact Ev.kit_cc ic2 ty2 tc2_int kk2_2
          · exact Ev.kit_cc ic2 ty2 tc2_str kk2_2
          · exact Ev.kit_cc ic2 ty2 tc2_tuple kk2_2
          · exact Ev.kit_cc ic2 ty2 tc2_list kk2_2
          · exact Ev.kit_cc ic2 ty2 tc2_dict kk2_2
          · exact Ev.kit_cc ic5 ty5 tc5_none_ kk5_5
          · exact Ev.kit_cc ic5 ty5 tc5_bool kk5_5
          · exact Ev.kit_cc ic5 ty5 tc5_int kk5_5
          · exact Ev.kit_cc ic5 ty5 tc5_str kk5_5
          · exact Ev.kit_cc ic5 ty5 tc5_tuple kk5_5
          · exact Ev.kit_cc ic5 ty5 tc5_list kk5_5
          · exact Ev.kit_cc ic5 ty5 tc5_dict kk5_5 }
  exact ok_law T
end K72
open PySem PySem.W PyProof.Rows
set_option maxHeartbeats 0 in
theorem PySem.Challenge.cw_rungladders_k72_patterns_and_limits_judg_holds : PySem.Challenge.rw_rungladders_k72_patterns_and_limits_judg.Holds := by
  refine hd72 ?_
  k_fill
  refine Ev.end_walk (l := PySem.Challenge.rw_rungladders_k72_patterns_and_limits_judg) (n := 63) (k := 26) rfl (by decide) rfl ⟨rfl, by decide, by decide⟩ (fun w h Y => Hk.cIn_of Y) ?F K72.law_true
  case F =>
    intro w mg fa h KX G hmg
    refine' K72.all_mk KX G hmg ?nC0 ?pgC0 ?hdC0 ?poC0 ?saC0 ?ccC0 ?moC0 ?naC0_told ?nC1 ?pgC1 ?hdC1 ?poC1 ?saC1 ?ccC1 ?moC1 ?naC1_row ?naC1_chain ?naC1_scale ?nC2 ?pgC2 ?hdC2 ?poC2 ?saC2 ?ccC2 ?moC2 ?naC2_triple ?nC5 ?pgC5 ?hdC5 ?poC5 ?saC5 ?ccC5 ?moC5 ?naC5_first ?naC5_pattern ?a0 ?a1 ?a2 ?a3 ?a4 ?a5 ?a6 ?a7 ?a8 ?a9 ?a10 ?a11 ?a12 ?a13 ?a14 ?a15 ?a16 ?a17 ?a18 ?a19 ?a20 ?a21 ?a24 ?a25 ?a26 ?a27 ?a28 ?a29 ?a30 ?a32 ?a33 ?a34 ?a36 ?a37 ?a38 ?a39 ?a40 ?a41 ?a42 ?a43 ?a44 ?a45 ?a46 ?a47 ?a48 ?a49 ?a50 ?a52 ?a55 ?a56 ?a57 ?a58 ?a59 ?a60 ?a61 ?a62 ?a63 ?a64 ?a65 ?a66 ?a67 ?a68 ?a22_1 ?mkC1 ?kpC1 ?i22 ?a23_0 ?mkC0 ?kpC0 ?i23 ?a35_5 ?mkC5 ?kpC5 ?i35 ?a51_2 ?mkC2 ?kpC2 ?i51 ?a53_5 ?b53_5 ?d53_5 ?e53_5 ?a54_2 ?b54_2 ?d54_2 ?e54_2 ?l0 ?c0 ?k0 ?l1 ?c1 ?k1 ?l2 ?c2 ?k2 ?l3 ?c3 ?k3 ?l4 ?c4 ?k4 ?l5 ?c5 ?k5 ?l6 ?c6 ?k6 ?l7 ?c7 ?k7 ?l8 ?c8 ?k8 ?l9 ?c9 ?k9 ?l10 ?c10 ?k10 ?l11 ?c11 ?k11 ?l12 ?c12 ?k12 ?l13 ?c13 ?k13 ?l14 ?c14 ?k14 ?l15 ?c15 ?k15 ?l16 ?c16 ?k16 ?l17 ?c17 ?k17 ?l18 ?c18 ?k18 ?l19 ?c19 ?k19 ?l20 ?c20 ?k20 ?l21 ?c21 ?k21 ?l22 ?c22 ?k22 ?l23 ?c23 ?k23 ?l24 ?c24 ?k24 ?l25 ?c25 ?k25 ?l26 ?c26 ?k26 ?l27 ?c27 ?k27 ?l28 ?c28 ?k28 ?l29 ?c29 ?k29 ?l30 ?c30 ?k30 ?l31 ?c31 ?k31 ?l32 ?c32 ?k32 ?l33 ?c33 ?k33 ?l34 ?c34 ?k34 ?l35 ?c35 ?k35 ?la35 ?lb35 ?lc35 ?ld35 ?le35 ?lf35 ?lg35 ?lh35 ?li35 ?tpa ?tsn ?l36 ?c36 ?k36 ?l37 ?c37 ?k37 ?l38 ?c38 ?k38 ?l39 ?c39 ?k39 ?l40 ?c40 ?k40 ?l41 ?c41 ?k41 ?l42 ?c42 ?k42 ?l43 ?c43 ?k43 ?l44 ?c44 ?k44 ?l45 ?c45 ?k45 ?l46 ?c46 ?k46 ?l47 ?c47 ?k47 ?l48 ?c48 ?k48 ?l49 ?c49 ?k49 ?l50 ?c50 ?k50 ?l51 ?c51 ?k51 ?l52 ?c52 ?k52 ?l53 ?c53 ?k53 ?l54 ?c54 ?k54 ?l55 ?c55 ?k55 ?l56 ?c56 ?k56 ?l57 ?c57 ?k57 ?l58 ?c58 ?k58 ?l59 ?c59 ?k59 ?l60 ?c60 ?k60 ?l61 ?c61 ?k61 ?l62 ?c62 ?k62 ?l63 ?c63 ?k63 ?l64 ?c64 ?k64 ?l65 ?c65 ?k65 ?l66 ?c66 ?k66 ?l67 ?c67 ?k67 ?l68 ?c68 ?k68 ?z_abs ?z_all ?z_any ?z_bool ?z_divmod ?z_enumerate ?z_int ?z_isinstance ?z_len ?z_list ?z_max ?z_min ?z_range ?z_repr ?z_str ?z_super ?z_tuple ?v_MOST_JOINED ?v_MOST_OHMS ?v_WORDS ?w_WORDS ?r_WORDS ?v_MOST_PIECES ?v_NOTHING ?w_NOTHING ?r_NOTHING ?v_OPEN ?w_OPEN ?r_OPEN ?v_GREATEST ?v_MOST ?n_JUDGES_ ?w_JUDGES ?h_JUDGES ?lo_JUDGES ?v_JUDGES_F_JUDGES_8 ?w_JUDGES_F_JUDGES_8 ?r_JUDGES_F_JUDGES_8 ?v_JUDGES_F_JUDGES_7 ?w_JUDGES_F_JUDGES_7 ?r_JUDGES_F_JUDGES_7 ?v_JUDGES_55 ?w_JUDGES_55 ?r_JUDGES_55 ?v_JUDGES_46 ?w_JUDGES_46 ?r_JUDGES_46 ?v_JUDGES_44 ?w_JUDGES_44 ?r_JUDGES_44 ?v_JUDGES_F_JUDGES_3 ?w_JUDGES_F_JUDGES_3 ?r_JUDGES_F_JUDGES_3 ?v_JUDGES_F_JUDGES_2 ?w_JUDGES_F_JUDGES_2 ?r_JUDGES_F_JUDGES_2 ?v_JUDGES_41 ?w_JUDGES_41 ?r_JUDGES_41 ?v_JUDGES_F_JUDGES_0 ?w_JUDGES_F_JUDGES_0 ?r_JUDGES_F_JUDGES_0 ?ihn ?iht ?ic0 ?ty0 ?kk0_0 ?kk0_1 ?kk0_2 ?ct0_none_ ?tc0_none_ ?ct0_bool ?tc0_bool ?ct0_int ?tc0_int ?ct0_str ?tc0_str ?ct0_tuple ?tc0_tuple ?ct0_list ?tc0_list ?ct0_dict ?tc0_dict ?ic1 ?ty1 ?kk1_1 ?kk1_0 ?kk1_2 ?ct1_none_ ?tc1_none_ ?ct1_bool ?tc1_bool ?ct1_int ?tc1_int ?ct1_str ?tc1_str ?ct1_tuple ?tc1_tuple ?ct1_list ?tc1_list ?ct1_dict ?tc1_dict ?ic2 ?ty2 ?kk2_2 ?kk2_0 ?kk2_1 ?ct2_none_ ?tc2_none_ ?ct2_bool ?tc2_bool ?ct2_int ?tc2_int ?ct2_str ?tc2_str ?ct2_tuple ?tc2_tuple ?ct2_list ?tc2_list ?ct2_dict ?tc2_dict ?ic5 ?ty5 ?kk5_5 ?kk5_0 ?kk5_1 ?kk5_2 ?ct5_none_ ?tc5_none_ ?ct5_bool ?tc5_bool ?ct5_int ?tc5_int ?ct5_str ?tc5_str ?ct5_tuple ?tc5_tuple ?ct5_list ?tc5_list ?ct5_dict ?tc5_dict
    (case nC0 => k_is); (case nC1 => k_is); (case nC2 => k_is); (case nC5 => k_is); (case lg35 => ks_is); (case pgC0 => k_is)
    (case hdC0 => k_is); (case poC0 => k_is); (case saC0 => k_is); (case ccC0 => k_is); (case moC0 => k_is); (case naC0_told => k_is)
    (case pgC1 => k_is); (case hdC1 => k_is); (case poC1 => k_is); (case saC1 => k_is); (case ccC1 => k_is); (case moC1 => k_is)
    (case naC1_row => k_is); (case naC1_chain => k_is); (case naC1_scale => k_is); (case pgC2 => k_is); (case hdC2 => k_is); (case poC2 => k_is)
    (case saC2 => k_is); (case ccC2 => k_is); (case moC2 => k_is); (case naC2_triple => k_is); (case pgC5 => k_is); (case hdC5 => k_is)
    (case poC5 => k_is); (case saC5 => k_is); (case ccC5 => k_is); (case moC5 => k_is); (case naC5_first => k_is); (case naC5_pattern => k_is)
    (case a0 => k_is); (case a1 => k_is); (case a2 => k_is); (case a3 => k_is); (case a4 => k_is); (case a5 => k_is)
    (case a6 => k_is); (case a7 => k_is); (case a8 => k_is); (case a9 => k_is); (case a10 => k_is); (case a11 => k_is)
    (case a12 => k_is); (case a13 => k_is); (case a14 => k_is); (case a15 => k_is); (case a16 => k_is); (case a17 => k_is)
    (case a18 => k_is); (case a19 => k_is); (case a20 => k_is); (case a21 => k_is); (case a24 => k_is); (case a25 => k_is)
    (case a26 => k_is); (case a27 => k_is); (case a28 => k_is); (case a29 => k_is); (case a30 => k_is); (case a32 => k_is)
    (case a33 => k_is); (case a34 => k_is); (case a36 => k_is); (case a37 => k_is); (case a38 => k_is); (case a39 => k_is)
    (case a40 => k_is); (case a41 => k_is); (case a42 => k_is); (case a43 => k_is); (case a44 => k_is); (case a45 => k_is)
    (case a46 => k_is); (case a47 => k_is); (case a48 => k_is); (case a49 => k_is); (case a50 => k_is); (case a52 => k_is)
    (case a55 => k_is); (case a56 => k_is); (case a57 => k_is); (case a58 => k_is); (case a59 => k_is); (case a60 => k_is)
    (case a61 => k_is); (case a62 => k_is); (case a63 => k_is); (case a64 => k_is); (case a65 => k_is); (case a66 => k_is)
    (case a67 => k_is); (case a68 => k_is); (case a22_1 => k_is); (case mkC1 => k_is); (case kpC1 => k_is); (case i22 => k_is)
    (case a23_0 => k_is); (case mkC0 => k_is); (case kpC0 => k_is); (case i23 => k_is); (case a35_5 => k_is); (case mkC5 => k_is)
    (case kpC5 => k_is); (case i35 => k_is); (case a51_2 => k_is); (case mkC2 => k_is); (case kpC2 => k_is); (case i51 => k_is)
    (case a53_5 => k_is); (case b53_5 => k_is); (case d53_5 => k_is); (case e53_5 => k_is); (case a54_2 => k_is); (case b54_2 => k_is)
    (case d54_2 => k_is); (case e54_2 => k_is); (case l0 => k_is); (case c0 => k_is); (case k0 => k_is); (case l1 => k_is)
    (case c1 => k_is); (case k1 => k_is); (case l2 => k_is); (case c2 => k_is); (case k2 => k_is); (case l3 => k_is)
    (case c3 => k_is); (case k3 => k_is); (case l4 => k_is); (case c4 => k_is); (case k4 => k_is); (case l5 => k_is)
    (case c5 => k_is); (case k5 => k_is); (case l6 => k_is); (case c6 => k_is); (case k6 => k_is); (case l7 => k_is)
    (case c7 => k_is); (case k7 => k_is); (case l8 => k_is); (case c8 => k_is); (case k8 => k_is); (case l9 => k_is)
    (case c9 => k_is); (case k9 => k_is); (case l10 => k_is); (case c10 => k_is); (case k10 => k_is); (case l11 => k_is)
    (case c11 => k_is); (case k11 => k_is); (case l12 => k_is); (case c12 => k_is); (case k12 => k_is); (case l13 => k_is)
    (case c13 => k_is); (case k13 => k_is); (case l14 => k_is); (case c14 => k_is); (case k14 => k_is); (case l15 => k_is)
    (case c15 => k_is); (case k15 => k_is); (case l16 => k_is); (case c16 => k_is); (case k16 => k_is); (case l17 => k_is)
    (case c17 => k_is); (case k17 => k_is); (case l18 => k_is); (case c18 => k_is); (case k18 => k_is); (case l19 => k_is)
    (case c19 => k_is); (case k19 => k_is); (case l20 => k_is); (case c20 => k_is); (case k20 => k_is); (case l21 => k_is)
    (case c21 => k_is); (case k21 => k_is); (case l22 => k_is); (case c22 => k_is); (case k22 => k_is); (case l23 => k_is)
    (case c23 => k_is); (case k23 => k_is); (case l24 => k_is); (case c24 => k_is); (case k24 => k_is); (case l25 => k_is)
    (case c25 => k_is); (case k25 => k_is); (case l26 => k_is); (case c26 => k_is); (case k26 => k_is); (case l27 => k_is)
    (case c27 => k_is); (case k27 => k_is); (case l28 => k_is); (case c28 => k_is); (case k28 => k_is); (case l29 => k_is)
    (case c29 => k_is); (case k29 => k_is); (case l30 => k_is); (case c30 => k_is); (case k30 => k_is); (case l31 => k_is)
    (case c31 => k_is); (case k31 => k_is); (case l32 => k_is); (case c32 => k_is); (case k32 => k_is); (case l33 => k_is)
    (case c33 => k_is); (case k33 => k_is); (case l34 => k_is); (case c34 => k_is); (case k34 => k_is); (case l35 => k_is)
    (case c35 => k_is); (case k35 => k_is); (case la35 => k_is); (case lb35 => k_is); (case lc35 => first | rfl | k_is | decide +kernel); (case ld35 => first | rfl | decide +kernel | k_is)
    (case le35 => k_is); (case lf35 => k_is); (case lh35 => k_is); (case li35 => k_is); (case tpa => k_is); (case tsn => first | rfl | decide +kernel)
    (case l36 => k_is); (case c36 => k_is); (case k36 => k_is); (case l37 => k_is); (case c37 => k_is); (case k37 => k_is)
    (case l38 => k_is); (case c38 => k_is); (case k38 => k_is); (case l39 => k_is); (case c39 => k_is); (case k39 => k_is)
    (case l40 => k_is); (case c40 => k_is); (case k40 => k_is); (case l41 => k_is); (case c41 => k_is); (case k41 => k_is)
    (case l42 => k_is); (case c42 => k_is); (case k42 => k_is); (case l43 => k_is); (case c43 => k_is); (case k43 => k_is)
    (case l44 => k_is); (case c44 => k_is); (case k44 => k_is); (case l45 => k_is); (case c45 => k_is); (case k45 => k_is)
    (case l46 => k_is); (case c46 => k_is); (case k46 => k_is); (case l47 => k_is); (case c47 => k_is); (case k47 => k_is)
    (case l48 => k_is); (case c48 => k_is); (case k48 => k_is); (case l49 => k_is); (case c49 => k_is); (case k49 => k_is)
    (case l50 => k_is); (case c50 => k_is); (case k50 => k_is); (case l51 => k_is); (case c51 => k_is); (case k51 => k_is)
    (case l52 => k_is); (case c52 => k_is); (case k52 => k_is); (case l53 => k_is); (case c53 => k_is); (case k53 => k_is)
    (case l54 => k_is); (case c54 => k_is); (case k54 => k_is); (case l55 => k_is); (case c55 => k_is); (case k55 => k_is)
    (case l56 => k_is); (case c56 => k_is); (case k56 => k_is); (case l57 => k_is); (case c57 => k_is); (case k57 => k_is)
    (case l58 => k_is); (case c58 => k_is); (case k58 => k_is); (case l59 => k_is); (case c59 => k_is); (case k59 => k_is)
    (case l60 => k_is); (case c60 => k_is); (case k60 => k_is); (case l61 => k_is); (case c61 => k_is); (case k61 => k_is)
    (case l62 => k_is); (case c62 => k_is); (case k62 => k_is); (case l63 => k_is); (case c63 => k_is); (case k63 => k_is)
    (case l64 => k_is); (case c64 => k_is); (case k64 => k_is); (case l65 => k_is); (case c65 => k_is); (case k65 => k_is)
    (case l66 => k_is); (case c66 => k_is); (case k66 => k_is); (case l67 => k_is); (case c67 => k_is); (case k67 => k_is)
    (case l68 => k_is); (case c68 => k_is); (case k68 => k_is); (case z_abs => k_is); (case z_all => k_is); (case z_any => k_is)
    (case z_bool => k_is); (case z_divmod => k_is); (case z_enumerate => k_is); (case z_int => k_is); (case z_isinstance => k_is); (case z_len => k_is)
    (case z_list => k_is); (case z_max => k_is); (case z_min => k_is); (case z_range => k_is); (case z_repr => k_is); (case z_str => k_is)
    (case z_super => k_is); (case z_tuple => k_is); (case v_MOST_JOINED => k_is); (case v_MOST_OHMS => k_is); (case v_WORDS => k_is); (case w_WORDS => k_is)
    (case r_WORDS => repeat first | exact .nil | refine .cons ⟨_, rfl⟩ ?_); (case v_MOST_PIECES => k_is); (case v_NOTHING => k_is); (case w_NOTHING => k_is); (case r_NOTHING => repeat first | exact .nil | refine .cons ⟨_, rfl⟩ ?_); (case v_OPEN => k_is)
    (case w_OPEN => k_is); (case r_OPEN => repeat first | exact .nil | refine .cons ⟨_, rfl⟩ ?_); (case v_GREATEST => k_is); (case v_MOST => k_is); (case n_JUDGES_ => k_is); (case w_JUDGES => k_is)
    (case h_JUDGES => first | rfl | kernel_rfl); (case lo_JUDGES => first | rfl | decide +kernel); (case v_JUDGES_F_JUDGES_8 => k_is); (case w_JUDGES_F_JUDGES_8 => k_is); (case r_JUDGES_F_JUDGES_8 => exact .cons ⟨_, rfl⟩ (.cons rfl .nil)); (case v_JUDGES_F_JUDGES_7 => k_is)
    (case w_JUDGES_F_JUDGES_7 => k_is); (case r_JUDGES_F_JUDGES_7 => exact .cons ⟨_, rfl⟩ (.cons rfl .nil)); (case v_JUDGES_55 => k_is); (case w_JUDGES_55 => k_is); (case r_JUDGES_55 => exact .cons ⟨_, rfl⟩ (.cons rfl .nil)); (case v_JUDGES_46 => k_is)
    (case w_JUDGES_46 => k_is); (case r_JUDGES_46 => exact .cons ⟨_, rfl⟩ (.cons rfl .nil)); (case v_JUDGES_44 => k_is); (case w_JUDGES_44 => k_is); (case r_JUDGES_44 => exact .cons ⟨_, rfl⟩ (.cons rfl .nil)); (case v_JUDGES_F_JUDGES_3 => k_is)
    (case w_JUDGES_F_JUDGES_3 => k_is); (case r_JUDGES_F_JUDGES_3 => exact .cons ⟨_, rfl⟩ (.cons rfl .nil)); (case v_JUDGES_F_JUDGES_2 => k_is); (case w_JUDGES_F_JUDGES_2 => k_is); (case r_JUDGES_F_JUDGES_2 => exact .cons ⟨_, rfl⟩ (.cons rfl .nil)); (case v_JUDGES_41 => k_is)
    (case w_JUDGES_41 => k_is); (case r_JUDGES_41 => exact .cons ⟨_, rfl⟩ (.cons rfl .nil)); (case v_JUDGES_F_JUDGES_0 => k_is); (case w_JUDGES_F_JUDGES_0 => k_is); (case r_JUDGES_F_JUDGES_0 => exact .cons ⟨_, rfl⟩ (.cons rfl .nil)); (case ihn => k_is)
    (case iht => k_is); (case ic0 => k_is); (case ty0 => k_is); (case kk0_0 => k_is); (case kk0_1 => k_is); (case kk0_2 => k_is)
    (case ct0_none_ => k_is); (case tc0_none_ => k_is); (case ct0_bool => k_is); (case tc0_bool => k_is); (case ct0_int => k_is); (case tc0_int => k_is)
    (case ct0_str => k_is); (case tc0_str => k_is); (case ct0_tuple => k_is); (case tc0_tuple => k_is); (case ct0_list => k_is); (case tc0_list => k_is)
    (case ct0_dict => k_is); (case tc0_dict => k_is); (case ic1 => k_is); (case ty1 => k_is); (case kk1_1 => k_is); (case kk1_0 => k_is)
    (case kk1_2 => k_is); (case ct1_none_ => k_is); (case tc1_none_ => k_is); (case ct1_bool => k_is); (case tc1_bool => k_is); (case ct1_int => k_is)
    (case tc1_int => k_is); (case ct1_str => k_is); (case tc1_str => k_is); (case ct1_tuple => k_is); (case tc1_tuple => k_is); (case ct1_list => k_is)
    (case tc1_list => k_is); (case ct1_dict => k_is); (case tc1_dict => k_is); (case ic2 => k_is); (case ty2 => k_is); (case kk2_2 => k_is)
    (case kk2_0 => k_is); (case kk2_1 => k_is); (case ct2_none_ => k_is); (case tc2_none_ => k_is); (case ct2_bool => k_is); (case tc2_bool => k_is)
    (case ct2_int => k_is); (case tc2_int => k_is); (case ct2_str => k_is); (case tc2_str => k_is); (case ct2_tuple => k_is); (case tc2_tuple => k_is)
    (case ct2_list => k_is); (case tc2_list => k_is); (case ct2_dict => k_is); (case tc2_dict => k_is); (case ic5 => k_is); (case ty5 => k_is)
    (case kk5_5 => k_is); (case kk5_0 => k_is); (case kk5_1 => k_is); (case kk5_2 => k_is); (case ct5_none_ => k_is); (case tc5_none_ => k_is)
    (case ct5_bool => k_is); (case tc5_bool => k_is); (case ct5_int => k_is); (case tc5_int => k_is); (case ct5_str => k_is); (case tc5_str => k_is)
    (case ct5_tuple => k_is); (case tc5_tuple => k_is); (case ct5_list => k_is); (case tc5_list => k_is); (case ct5_dict => k_is); (case tc5_dict => k_is)
