import PyProof.Rows.All
import Wide.All
import OpenK.AllK
import Wide.FinOn
import HandS.Text
import HandS.Comp
import HandS.Iter
import HandS.Ends
import HandS.ExcOwn
import HandS.WideBits
import HandS.Wide
import HandS.TupAny
import HandS.TupMul
import HandS.Words
import HandS.Property
import HandS.TryOnly
import HandS.IsInst
import HandS.FStr
import HandS.RaiseMore
import PyProof.ReprRoads
import HandS.Deep
import HandS.Style
import HandS.Star
import HandS.ClsMeth
import HandS.SlotsOwn
import KE.GoesEnum
import HandS.EndBits
import PyProof.InstNe
import KE.KCallOwn
import KE.KFmtOwn
import HandS.Nested
import KE.KSuper
import HandS.Flt
import KE.DatumOrd
import HandS.More
import PyProof.NeKinds
import HandS.GenList
import PyProof.FactsAll.dict
import HandS.HeadHook3
import KE.RegKSuper
import HandS.Zip
import HandS.SortInts
import PyProof.SliceList
import HandS.Lambda
import HandS.ExcCtx
import HandS.HotCalls
import HandS.ExcIs
import HandS.ExcField
import HandS.ExcInit
import HandS.EndTab
import PyProof.P3In
import HandS.Small
import PyProof.Rows.Range3
import PyProof.EqAt
import KE.KIsAll
import KE.KExcInit
import PySem.Challenge.RW_rungladders_k14_ladders_refused
set_option Elab.async false
set_option linter.all false
local macro_rules | `(tactic| leaf_len) => `(tactic| first | exact Or.inl rfl | exact Or.inr (Or.inl rfl) | exact Or.inr (Or.inr rfl))
local macro_rules | `(tactic| mem_news) => `(tactic| first | exact Or.inl rfl | exact Or.inr rfl)
set_option maxRecDepth 100000
set_option maxHeartbeats 0
namespace Hk
open PySem PySem.W
noncomputable def pk (os : List Obj) : List Nat → Nat → List (Option Obj) :=
  List.rec (motive := fun _ => List Nat → Nat → List (Option Obj)) (fun _ _ => []) (fun o _ ih as i => match as with
    | [] => []
    | a :: as' => match Nat.beq a i with
      | true => alive o :: ih as' (Nat.succ i)
      | false => ih (a :: as') (Nat.succ i)) os
theorem pk_of : ∀ (os : List Obj) (as : List Nat) (i : Nat) (pre : List Obj), pre.length = i → (pk os as i).length = as.length → as.map (fun a => (pre ++ os)[a]?.bind alive) = pk os as i
  | [], as, i, pre, _, h => by
    have h : 0 = as.length := h
    obtain rfl : as = [] := List.length_eq_zero_iff.mp h.symm
    rfl
  | o :: os, [], i, pre, _, _ => rfl
  | o :: os, a :: as, i, pre, hp, h => by
    have e : pk (o :: os) (a :: as) i = match Nat.beq a i with
      | true => alive o :: pk os as (Nat.succ i)
      | false => pk os (a :: as) (Nat.succ i) := rfl
    rw [e] at h ⊢
    have ap : pre ++ o :: os = (pre ++ [o]) ++ os := by rw [List.append_assoc]; rfl
    cases q : Nat.beq a i with
    | true =>
      rw [q] at h
      have ai : a = i := Nat.eq_of_beq_eq_true q
      subst ai hp
      have ih := pk_of os as (Nat.succ pre.length) (pre ++ [o]) (by rw [List.length_append]; rfl) (Nat.succ.inj h)
      show _ :: _ = alive o :: pk os as (Nat.succ pre.length)
      rw [← ih, ap]
      congr 1
      rw [← ap]
      show (pre ++ o :: os)[pre.length]?.bind alive = alive o
      rw [List.getElem?_append_right (Nat.le_refl _), Nat.sub_self]
      rfl
    | false =>
      rw [q] at h
      have ih := pk_of os (a :: as) (Nat.succ i) (pre ++ [o]) (by rw [List.length_append, hp]; rfl) h
      show _ = pk os (a :: as) (Nat.succ i)
      rw [← ih, ap]
theorem get_alive (h : Heap) (a : Nat) : h.get? a = h.objs.toList[a]?.bind alive := by
  unfold Heap.get?
  rw [Array.getElem?_toList]
  rcases h.objs[a]? with _ | ⟨c, d, dt, sl⟩
  · rfl
  · cases dt <;> rfl
theorem hk_of {K : Params → Frag} {as : List Addr} (e : ∀ P, as = (K P).map (·.1)) (w : World) (s : Shared) (x : pk s.heap.objs.toList as 0 = (K w.params).map fun p => some p.2) : InK K w s.heap := by
  refine InK.of e w s ?_
  have l : (pk s.heap.objs.toList as 0).length = as.length := by
    rw [x, List.length_map]
    conv => rhs; rw [e w.params]
    rw [List.length_map]
  rw [← x, ← pk_of s.heap.objs.toList as 0 [] rfl l]
  exact List.map_congr_left fun a _ => get_alive _ a
noncomputable def cHook (K : Params → Frag) (as : List Addr) (e : ∀ P, as = (K P).map (·.1)) : Hook :=
  ⟨List (Option Obj), fun s => pk s.heap.objs.toList as 0, fun w => (K w.params).map fun p => some p.2, InK K, hk_of e, InK.keeps⟩
theorem cIn_of {K : Params → Frag} {as : List Addr} {e : ∀ P, as = (K P).map (·.1)} {w : World} {h : Heap} (Y : (cHook K as e).says w h) : (K w.params).In h := Y
end Hk
local macro_rules
  | `(tactic| o_head ($f:ident $k $a $p)) => if f.getId.eraseMacroScopes == `Hk.cHook then Lean.Macro.throwUnsupported else `(tactic| o_head (Hk.cHook $k $a $p))
def PySem.W.Fast.tw5787840356660935264 : Nat := 0
def PySem.W.Fast.tw17824401698616454593 : Nat := 0
def PySem.W.Fast.tw1676680691700006817 : Nat := 0
def PySem.W.Fast.tw4567501104494275810 : Nat := 0
def PySem.W.Fast.tw7963863683961080194 : Nat := 0
def PySem.W.Fast.tw2945272684408265346 : Nat := 0
def PySem.W.Fast.tw17405255995049586499 : Nat := 0
def PySem.W.Fast.tw1299779222243565925 : Nat := 0
def PySem.W.Fast.tw1860611916487584327 : Nat := 0
def PySem.W.Fast.tw5850154997689746152 : Nat := 0
def PySem.W.Fast.tw9723381340160346249 : Nat := 0
def PySem.W.Fast.tw15179028424647271721 : Nat := 0
def PySem.W.Fast.tw5274537533560580457 : Nat := 0
def PySem.W.Fast.tw15619823489790437898 : Nat := 0
def PySem.W.Fast.tw17095639142798359370 : Nat := 0
def PySem.W.Fast.tw17393938306300043469 : Nat := 0
def PySem.W.Fast.tw8437807889163548081 : Nat := 0
def PySem.W.Fast.tw14971178645936335537 : Nat := 0
def PySem.W.Fast.tw11281732569921369299 : Nat := 0
def PySem.W.Fast.tw16388413138216394996 : Nat := 0
def PySem.W.Fast.tw13983124956636078740 : Nat := 0
def PySem.W.Fast.tw13867332738879683637 : Nat := 0
def PySem.W.Fast.tw17472546234709825685 : Nat := 0
def PySem.W.Fast.tw17567089127682505589 : Nat := 0
def PySem.W.Fast.tw9133838137046449238 : Nat := 0
def PySem.W.Fast.tw5272264563366942903 : Nat := 0
def PySem.W.Fast.tw3423616760642425367 : Nat := 0
def PySem.W.Fast.tw144016336414808759 : Nat := 0
def PySem.W.Fast.tw3370397967266220184 : Nat := 0
def PySem.W.Fast.tw4143078232604396920 : Nat := 0
def PySem.W.Fast.tw3038155914669488792 : Nat := 0
def PySem.W.Fast.tw10328195336557187898 : Nat := 0
def PySem.W.Fast.tw7520114021513070075 : Nat := 0
def PySem.W.Fast.tw18037052220736044539 : Nat := 0
def PySem.W.Fast.tw12858302948757259133 : Nat := 0
def PySem.W.Fast.tw15461130392796436446 : Nat := 0
def PySem.W.Fast.tw10791037447803125503 : Nat := 0
open_top hd14 for PySem.Challenge.rw_rungladders_k14_ladders_refused
set_option maxRecDepth 100000
namespace Ev
open PySem L2
inductive TyN where
  | none_ | bool | int | str | tuple | list | dict
  deriving DecidableEq
def TyN.name : TyN → String
  | .none_ => "NoneType" | .bool => "bool" | .int => "int" | .str => "str" | .tuple => "tuple" | .list => "list" | .dict => "dict"
inductive D where
  | non | bl (b : Bool) | int (i : Int) | str (x : Str)
  | tup (ds : List D) | lst (ds : List D) | scr (ds : List D)
  | dct (ks : List Key) (ds : List D)
  | ins (c : Nat) (ds : List D)
  | ref (n : Nat)
  | ty (t : TyN) | cls (c : Nat)
  | raw (u : V) (dd : Addr) (fs : List Str) (ds : List D)
  deriving Inhabited
inductive Ob where
  | lst (ds : List D) | dct (ks : List Key) (ds : List D) | ins (c : Nat) (ds : List D)
  | tbl (j : Nat)
  deriving Inhabited
structure Exn where
  cls : Nat
  arg : Option D
  deriving Inhabited
structure Sg where
  K : PySem.W.Frag
  ca : Nat → Addr
  fn : Nat → List Str
  xc : Nat → Value
  xf : Nat → Str
  gd : Bool := true
  ta : Nat → Addr := fun _ => 0
  tq : Nat → Str := fun _ => Str.empty
structure Wd where
  m : List Addr
  F : Addr → Prop
  H : Hp
  x : Option Addr := none
def RdF (w : Wd) (a : Addr) (o : HO) : Prop := w.F a ∧ Rd w.H a o
def KTup (K : PySem.W.Frag) (a : Addr) (xs : List V) : Prop := ∃ (o : Obj) (its : Array Value) (n : Nat), K.lookup a = some o ∧ o.cls = .type "tuple" ∧ o.data = .seq its n ∧ its.size ≤ sizeLine ∧ Vals xs its.toList
def KLst (K : PySem.W.Frag) (a : Addr) (xs : List V) : Prop := ∃ (o : Obj) (its : Array Value) (n : Nat), K.lookup a = some o ∧ o.cls = .type "list" ∧ o.dict = none ∧ o.data = .seq its n ∧ its.size ≤ sizeLine ∧ Vals xs its.toList
mutual
def RepV (G : Sg) (w : Wd) : D → V → Prop
  | .non, v => v = .non
  | .bl b, v => v = .bl b
  | .int i, v => v = .int i
  | .str x, v => v = .str x
  | .tup ds, v => ∃ a vs, v = .ref a ∧ (RdF w a (.tup vs) ∨ KTup G.K a vs) ∧ RepVs G w ds vs
  | .lst ds, v => ∃ a vs, v = .ref a ∧ w.F a ∧ w.H a = some (.lst vs) ∧ RepVs G w ds vs
  | .scr ds, v => ∃ a vs, v = .ref a ∧ (RdF w a (.lst vs) ∨ KLst G.K a vs) ∧ RepVs G w ds vs
  | .dct ks ds, v => ∃ a vs, v = .ref a ∧ w.F a ∧ w.H a = some (.dK (ks.zip vs)) ∧ ks.length = vs.length ∧ RepVs G w ds vs
  | .ins c ds, v => ∃ a dx vs, v = .ref a ∧ w.F a ∧ w.H a = some (.ins (G.ca c) dx ((G.fn c).zip vs)) ∧ vs.length ≤ (G.fn c).length ∧ RepVs G w ds vs
  | .ref n, v => ∃ a, v = .ref a ∧ w.m[n]? = some a
  | .ty t, v => v = .ty t.name
  | .cls c, v => v = .ref (G.ca c)
  | .raw u dd fs ds, v => v = u ∧ ∃ vs, (fs = [] ∨ (w.F dd ∧ w.H dd = some (.xd (fs.zip vs)))) ∧ RepVs G w ds vs
def RepVs (G : Sg) (w : Wd) : List D → List V → Prop
  | [], vs => vs = []
  | d :: ds, vs => ∃ v r, vs = v :: r ∧ RepV G w d v ∧ RepVs G w ds r
end
def TabM (w : Wd) (a : Addr) (q : Str) : Prop := a ∈ w.m ∧ ∃ ps : Array Value, w.H a = some (.tbl ps) ∧ TriplesOk ps.toList ∧ ∀ (pos : Pos) (cv : Value), codeAmong pos ps.toList = some cv → ∃ c, cv = .ref c ∧ w.F c ∧ w.H c = some (LamX.CodeO c q)
def RepO (G : Sg) (w : Wd) (a : Addr) : Ob → Prop
  | .lst ds => ∃ vs, w.H a = some (.lst vs) ∧ RepVs G w ds vs
  | .dct ks ds => ∃ vs, w.H a = some (.dK (ks.zip vs)) ∧ ks.length = vs.length ∧ RepVs G w ds vs
  | .ins c ds => ∃ dx vs, w.H a = some (.ins (G.ca c) dx ((G.fn c).zip vs)) ∧ vs.length ≤ (G.fn c).length ∧ RepVs G w ds vs
  | .tbl j => a = G.ta j ∧ TabM w a (G.tq j)
def RepX (G : Sg) (w : Wd) (e : Exn) (cls : Value) (x : Option Addr) : Prop :=
  cls = G.xc e.cls ∧ match e.arg with
    | none => True
    | some d => ∃ a v, x = some a ∧ w.F a ∧ w.H a = some (.xd [(G.xf e.cls, v)]) ∧ RepV G w d v
structure Ext (w w' : Wd) : Prop where
  m : ∃ r, w'.m = w.m ++ r
  F : ∀ a, w.F a → w'.F a
  H : ∀ b o, b ∉ w.m → w.H b = some o → w'.H b = some o
  nm : ∀ b, b ∈ w'.m → b ∈ w.m ∨ w.H b = none
  nF : ∀ b, w'.F b → w.F b ∨ w.H b = none
  al : ∀ b, w'.H b = none → w.H b = none
theorem Ext.refl (w : Wd) : Ext w w := ⟨⟨[], by simp⟩, fun _ h => h, fun _ _ _ h => h, fun _ h => .inl h, fun _ h => .inl h, fun _ h => h⟩
theorem Ext.trans {w w1 w2 : Wd} (a : Ext w w1) (b : Ext w1 w2) : Ext w w2 := by
  obtain ⟨r, er⟩ := a.m
  obtain ⟨r', er'⟩ := b.m
  refine ⟨⟨r ++ r', by rw [er', er, List.append_assoc]⟩, fun x h => b.F x (a.F x h), fun x o hm h => b.H x o (fun z => ?_) (a.H x o hm h), fun x h => ?_, fun x h => ?_, fun x h => a.al x (b.al x h)⟩
  · rcases a.nm x z with z | z
    · exact hm z
    · rw [h] at z; cases z
  · rcases b.nm x h with z | z
    · exact a.nm x z
    · exact .inr (a.al x z)
  · rcases b.nF x h with z | z
    · exact a.nF x z
    · exact .inr (a.al x z)
structure Stay (w w' : Wd) : Prop where
  m : ∃ r, w'.m = w.m ++ r
  F : ∀ a, w.F a → w'.F a
  H : ∀ a o, w.F a → w.H a = some o → w'.H a = some o
theorem Stay.refl (w : Wd) : Stay w w := ⟨⟨[], by simp⟩, fun _ h => h, fun _ _ _ h => h⟩
theorem Stay.trans {w w1 w2 : Wd} (a : Stay w w1) (b : Stay w1 w2) : Stay w w2 := by
  obtain ⟨r, er⟩ := a.m
  obtain ⟨r', er'⟩ := b.m
  exact ⟨⟨r ++ r', by rw [er', er, List.append_assoc]⟩, fun x h => b.F x (a.F x h), fun x o f h => b.H x o (a.F x f) (a.H x o f h)⟩
theorem Ext.stay {w w' : Wd} (e : Ext w w') (dj : ∀ a, w.F a → a ∉ w.m) : Stay w w' := ⟨e.m, e.F, fun a o f h => e.H a o (dj a f) h⟩
section
variable {G : Sg} {w w' : Wd}
theorem RdF.stay (e : Stay w w') {a : Addr} {o : HO} (h : RdF w a o) : RdF w' a o := by
  obtain ⟨f, h⟩ := h
  refine ⟨e.F a f, ?_⟩
  rcases h with h | ⟨u, h⟩
  · exact .inl (e.H a _ f h)
  · exact .inr ⟨u, e.H a _ f h⟩
mutual
theorem RepV.stay (e : Stay w w') : ∀ (d : D) (v : V), RepV G w d v → RepV G w' d v
  | .non, _, h => h
  | .bl _, _, h => h
  | .int _, _, h => h
  | .str _, _, h => h
  | .tup ds, _, h => by
    obtain ⟨a, vs, e1, h1, h2⟩ := h
    exact ⟨a, vs, e1, h1.imp (fun z => z.stay e) id, RepVs.stay e ds vs h2⟩
  | .lst ds, _, h => by
    obtain ⟨a, vs, e1, f, h1, h2⟩ := h
    exact ⟨a, vs, e1, e.F a f, e.H a _ f h1, RepVs.stay e ds vs h2⟩
  | .scr ds, _, h => by
    obtain ⟨a, vs, e1, h1, h2⟩ := h
    exact ⟨a, vs, e1, h1.imp (fun z => z.stay e) id, RepVs.stay e ds vs h2⟩
  | .dct ks ds, _, h => by
    obtain ⟨a, vs, e1, f, h1, h2, h3⟩ := h
    exact ⟨a, vs, e1, e.F a f, e.H a _ f h1, h2, RepVs.stay e ds vs h3⟩
  | .ins c ds, _, h => by
    obtain ⟨a, dx, vs, e1, f, h1, h2, h3⟩ := h
    exact ⟨a, dx, vs, e1, e.F a f, e.H a _ f h1, h2, RepVs.stay e ds vs h3⟩
  | .ref n, _, h => by
    obtain ⟨a, e1, h1⟩ := h
    obtain ⟨r, er⟩ := e.m
    refine ⟨a, e1, ?_⟩
    rw [er, List.getElem?_append_left (List.getElem?_eq_some_iff.mp h1).1]
    exact h1
  | .ty _, _, h => h
  | .cls _, _, h => h
  | .raw u dd fs ds, _, h => by
    obtain ⟨e1, vs, h1, h2⟩ := h
    exact ⟨e1, vs, h1.imp id fun z => ⟨e.F dd z.1, e.H dd _ z.1 z.2⟩, RepVs.stay e ds vs h2⟩
theorem RepVs.stay (e : Stay w w') : ∀ (ds : List D) (vs : List V), RepVs G w ds vs → RepVs G w' ds vs
  | [], _, h => h
  | d :: ds, _, h => by
    obtain ⟨v, r, e1, h1, h2⟩ := h
    exact ⟨v, r, e1, RepV.stay e d v h1, RepVs.stay e ds r h2⟩
end
theorem RepV.mono (e : Ext w w') (dj : ∀ a, w.F a → a ∉ w.m) (d : D) (v : V) : RepV G w d v → RepV G w' d v := RepV.stay (e.stay dj) d v
theorem RepVs.mono (e : Ext w w') (dj : ∀ a, w.F a → a ∉ w.m) (ds : List D) (vs : List V) : RepVs G w ds vs → RepVs G w' ds vs := RepVs.stay (e.stay dj) ds vs
theorem RepO.mono (e : Ext w w') (dj : ∀ a, w.F a → a ∉ w.m) {a : Addr} (ha : a ∉ w.m) : ∀ (o : Ob), RepO G w a o → RepO G w' a o
  | .lst ds, ⟨vs, h1, h2⟩ => ⟨vs, e.H a _ ha h1, RepVs.mono e dj _ _ h2⟩
  | .dct ks ds, ⟨vs, h1, h2, h3⟩ => ⟨vs, e.H a _ ha h1, h2, RepVs.mono e dj _ _ h3⟩
  | .ins c ds, ⟨dx, vs, h1, h2, h3⟩ => ⟨dx, vs, e.H a _ ha h1, h2, RepVs.mono e dj _ _ h3⟩
  | .tbl j, ⟨_, h1, _⟩ => absurd h1 ha
theorem RepVs.length : ∀ {ds : List D} {vs : List V}, RepVs G w ds vs → ds.length = vs.length
  | [], _, h => by cases (show _ = _ from h); rfl
  | _ :: ds, _, ⟨_, _, e, _, h⟩ => by rw [e, List.length_cons, List.length_cons, RepVs.length h]
theorem RepVs.get : ∀ {ds : List D} {vs : List V} {i : Nat} {d : D}, RepVs G w ds vs → ds[i]? = some d → ∃ v, vs[i]? = some v ∧ RepV G w d v
  | [], _, _, _, _, e => by simp at e
  | d :: ds, _, 0, _, ⟨v, r, e, h, _⟩, q => by
    subst e
    simp at q
    subst q
    exact ⟨v, rfl, h⟩
  | _ :: ds, _, i + 1, _, ⟨v, r, e, _, h⟩, q => by
    subst e
    simpa using RepVs.get (i := i) h (by simpa using q)
theorem RepVs.append : ∀ {ds es : List D} {vs us : List V}, RepVs G w ds vs → RepVs G w es us → RepVs G w (ds ++ es) (vs ++ us)
  | [], _, _, _, h, q => by cases (show _ = _ from h); exact q
  | d :: ds, _, _, _, ⟨v, r, e, h, t⟩, q => by subst e; exact ⟨v, _, rfl, h, RepVs.append t q⟩
theorem RepVs.take : ∀ (n : Nat) {ds : List D} {vs : List V}, RepVs G w ds vs → RepVs G w (ds.take n) (vs.take n)
  | 0, _, _, _ => rfl
  | n + 1, [], _, h => by cases (show _ = _ from h); rfl
  | n + 1, d :: ds, _, ⟨v, r, e, h, t⟩ => by subst e; exact ⟨v, _, rfl, h, RepVs.take n t⟩
theorem RepVs.drop : ∀ (n : Nat) {ds : List D} {vs : List V}, RepVs G w ds vs → RepVs G w (ds.drop n) (vs.drop n)
  | 0, _, _, h => h
  | n + 1, [], _, h => by cases (show _ = _ from h); rfl
  | n + 1, d :: ds, _, ⟨v, r, e, h, t⟩ => by subst e; exact RepVs.drop n t
theorem RepVs.reverse : ∀ {ds : List D} {vs : List V}, RepVs G w ds vs → RepVs G w ds.reverse vs.reverse
  | [], _, h => by cases (show _ = _ from h); rfl
  | d :: ds, _, ⟨v, r, e, h, t⟩ => by
    subst e
    rw [List.reverse_cons, List.reverse_cons]
    exact RepVs.append (RepVs.reverse t) ⟨v, [], rfl, h, rfl⟩
theorem RepVs.set : ∀ (i : Nat) {ds : List D} {vs : List V} {d : D} {v : V}, RepVs G w ds vs → RepV G w d v → RepVs G w (ds.set i d) (vs.set i v)
  | _, [], _, _, _, h, _ => by cases (show _ = _ from h); rfl
  | 0, d :: ds, _, _, _, ⟨v, r, e, h, t⟩, q => by subst e; exact ⟨_, _, rfl, q, t⟩
  | i + 1, d :: ds, _, _, _, ⟨v, r, e, h, t⟩, q => by subst e; exact ⟨_, _, rfl, h, RepVs.set i t q⟩
theorem RepVs.one {d : D} {v : V} (h : RepV G w d v) : RepVs G w [d] [v] := ⟨v, [], rfl, h, rfl⟩
theorem RepVs.rep : ∀ (k : Nat) {ds : List D} {vs : List V}, RepVs G w ds vs → RepVs G w (List.replicate k ds).flatten (List.replicate k vs).flatten
  | 0, _, _, _ => rfl
  | k + 1, _, _, h => by
    rw [List.replicate_succ, List.replicate_succ, List.flatten_cons, List.flatten_cons]
    exact RepVs.append h (RepVs.rep k h)
end
structure RepS (G : Sg) (w : Wd) (S : List Ob) : Prop where
  len : w.m.length = S.length
  nd : w.m.Nodup
  dj : ∀ a, w.F a → a ∉ w.m
  fh : ∀ a, w.F a → w.H a ≠ none
  ob : ∀ (n : Nat) (a : Addr) (o : Ob), w.m[n]? = some a → S[n]? = some o → RepO G w a o
inductive SV where
  | no | val (d : D) | own (o : Ob)
  deriving Inhabited
structure R (G : Sg) (w0 w : Wd) (sd : List SV) (S : List Ob) (σ : St) : Prop where
  ex : Ext w0 w
  st : RepS G w S
  ln : σ.length = sd.length
  vl : ∀ (i : Nat) (d : D), sd[i]? = some (.val d) → ∃ v, σ[i]? = some (some v) ∧ RepV G w d v
  ow : ∀ (i : Nat) (o : Ob), sd[i]? = some (.own o) → ∃ a, σ[i]? = some (some (.ref a)) ∧ RepO G w a o ∧ ¬ w.F a ∧ a ∉ w.m ∧ w0.H a = none
  ap : ∀ (i j : Nat) (o o' : Ob) (a : Addr), sd[i]? = some (.own o) → sd[j]? = some (.own o') → σ[i]? = some (some (.ref a)) → σ[j]? = some (some (.ref a)) → i = j
  sf : ∀ a o, w0.x = some a → sd[0]? = some (.own o) → σ[0]? = some (some (.ref a))
theorem RepO.there {G : Sg} {w : Wd} {a : Addr} {o : Ob} (h : RepO G w a o) : w.H a ≠ none := by
  cases o with
  | lst ds => obtain ⟨_, e, _⟩ := h; rw [e]; exact fun z => nomatch z
  | dct ks ds => obtain ⟨_, e, _⟩ := h; rw [e]; exact fun z => nomatch z
  | ins c ds => obtain ⟨_, _, e, _⟩ := h; rw [e]; exact fun z => nomatch z
  | tbl j => obtain ⟨_, _, _, e, _⟩ := h; rw [e]; exact fun z => nomatch z
theorem R.step {G : Sg} {w0 w w1 : Wd} {sd : List SV} {S S1 : List Ob} {σ : St} (r : R G w0 w sd S σ) (e : Ext w w1) (s : RepS G w1 S1) : R G w0 w1 sd S1 σ := by
  refine ⟨r.ex.trans e, s, r.ln, fun i d h => ?_, fun i o h => ?_, r.ap, r.sf⟩
  · obtain ⟨v, h1, h2⟩ := r.vl i d h
    exact ⟨v, h1, RepV.mono e r.st.dj d v h2⟩
  · obtain ⟨a, h1, h2, h3, h4, h5⟩ := r.ow i o h
    refine ⟨a, h1, RepO.mono e r.st.dj h4 o h2, fun z => ?_, fun z => ?_, h5⟩
    · rcases e.nF a z with z | z
      · exact h3 z
      · exact h2.there z
    · rcases e.nm a z with z | z
      · exact h4 z
      · exact h2.there z
def M (α : Type) : Type := List Ob → Option (Except Exn α × List Ob)
namespace M
variable {α β γ : Type}
def pure (a : α) : M α := fun S => some (.ok a, S)
def err (e : Exn) : M α := fun S => some (.error e, S)
def stuck : M α := fun _ => none
def bind (f : M α) (k : α → M β) : M β := fun S => match f S with
  | none => none
  | some (.error e, S1) => some (.error e, S1)
  | some (.ok a, S1) => k a S1
theorem bind_assoc (f : M α) (k : α → M β) (l : β → M γ) : bind (bind f k) l = bind f fun a => bind (k a) l := by
  funext S
  unfold bind
  rcases f S with _ | ⟨_ | _, _⟩ <;> rfl
theorem bind_ite (c : Prop) [Decidable c] (f g : M α) (k : α → M β) : bind (if c then f else g) k = if c then bind f k else bind g k := by split <;> rfl
end M
def FinG {α β : Type} (G : Sg) (rep : Wd → α → β → Prop) (W : Value → Option Addr → Hp → Prop) (w : Wd) (Q : β → Hp → Prop) : Option (Except Exn α × List Ob) → Prop
  | none => False
  | some (.ok d, S) => ∀ w' v, Ext w w' → RepS G w' S → rep w' d v → Q v w'.H
  | some (.error e, S) => ∀ w' cls x, Ext w w' → RepS G w' S → RepX G w' e cls x → W cls x w'.H
section
variable {α β γ δ : Type} {G : Sg} {rep : Wd → α → β → Prop} {rep' : Wd → γ → δ → Prop} {W : Value → Option Addr → Hp → Prop} {w w1 : Wd} {Q : β → Hp → Prop} {Q' : δ → Hp → Prop}
theorem FinG.ext {r : Option (Except Exn α × List Ob)} (e : Ext w w1) (h : FinG G rep W w Q r) : FinG G rep W w1 Q r := by
  rcases r with _ | ⟨_ | _, _⟩
  · exact h
  · exact fun w' c x e' => h w' c x (e.trans e')
  · exact fun w' v e' => h w' v (e.trans e')
theorem fin_pure {a : α} {b : β} {S : List Ob} (h : FinG G rep W w Q (M.pure a S)) (s : RepS G w S) (r : rep w a b) : Q b w.H := h w b (Ext.refl w) s r
end
def teG {α β : Type} (G : Sg) (rep : Wd → α → β → Prop) (W : WX) (f : List SV → M α) : St → Hp → (β → Hp → Prop) → Prop := fun σ H Q =>
  ∃ w0 w sd S, w.H = H ∧ R G w0 w sd S σ ∧ FinG G rep (fun c x H => W c x σ H) w Q (f sd S)
def repB : Wd → Bool → Bool → Prop := fun _ a b => b = a
abbrev teV (G : Sg) (W : WX) (f : List SV → M D) : TE := teG G (RepV G) W f
abbrev teB (G : Sg) (W : WX) (f : List SV → M Bool) : TT := teG G repB W f
abbrev teA (G : Sg) (W : WX) (f : List SV → M (List D)) : TA := teG G (RepVs G) W f
abbrev PV (G : Sg) (X : Cx) (W : WX) (e : Expr) (f : List SV → M D) : Prop := PE X e (teV G W f)
abbrev PB (G : Sg) (X : Cx) (W : WX) (e : Expr) (f : List SV → M Bool) : Prop := PT X e (teB G W f)
abbrev PL (G : Sg) (X : Cx) (W : WX) (es : List Expr) (f : List SV → M (List D)) : Prop := PA X es (teA G W f)
theorem PE.imp {X : Cx} {e : Expr} {t t' : TE} (h : PE X e t) (i : ∀ σ H Q, t' σ H Q → t σ H Q) : PE X e t' := ⟨fun p s σ H Q I q => h.run p s σ H Q I (i σ H Q q)⟩
theorem PT.imp {X : Cx} {e : Expr} {t t' : TT} (h : PT X e t) (i : ∀ σ H Q, t' σ H Q → t σ H Q) : PT X e t' := ⟨fun p s σ H Q I q => h.run p s σ H Q I (i σ H Q q)⟩
theorem PW.imp {X : Cx} {e : Expr} {t t' : TT} (h : PW X e t) (i : ∀ σ H Q, t' σ H Q → t σ H Q) : PW X e t' := ⟨fun wh p s σ H Q I q => h.run wh p s σ H Q I (i σ H Q q)⟩
theorem PA.imp {X : Cx} {e : List Expr} {t t' : TA} (h : PA X e t) (i : ∀ σ H Q, t' σ H Q → t σ H Q) : PA X e t' := ⟨fun ps p s σ H Q I q => h.run ps p s σ H Q I (i σ H Q q)⟩
theorem PS.imp {X : Cx} {e : Stmt} {t t' : TS} (h : PS X e t) (i : ∀ D σ H, t' D σ H → t D σ H) : PS X e t' := ⟨fun p s σ H D I q => h.run p s σ H D I (i D σ H q)⟩
theorem PSs.imp {X : Cx} {e : List Stmt} {t t' : TS} (h : PSs X e t) (i : ∀ D σ H, t' D σ H → t D σ H) : PSs X e t' := ⟨fun p s σ H D I q => h.run p s σ H D I (i D σ H q)⟩
theorem fin_step {α β γ δ : Type} {G : Sg} {rep : Wd → α → β → Prop} {rep' : Wd → γ → δ → Prop} {W : Value → Option Addr → Hp → Prop} {w : Wd} {Q : β → Hp → Prop} {Q' : δ → Hp → Prop} {f : M α} {k : α → M γ} {S : List Ob}
    (h : FinG G rep' W w Q' (M.bind f k S)) (c : ∀ w1 S1 d v, Ext w w1 → RepS G w1 S1 → rep w1 d v → FinG G rep' W w1 Q' (k d S1) → Q v w1.H) : FinG G rep W w Q (f S) := by
  unfold M.bind at h
  rcases hf : f S with _ | ⟨_ | d, S1⟩
  · rw [hf] at h; exact h
  · rw [hf] at h; exact h
  · rw [hf] at h
    exact fun w' v e s r => c w' S1 d v e s r (FinG.ext e h)
end Ev
set_option maxRecDepth 100000
set_option maxHeartbeats 2000000
namespace Ev
open PySem L2
theorem RepO.to {G : Sg} {w w' : Wd} {a : Addr} (h : w'.H a = w.H a) (e : Stay w w') : ∀ {o : Ob}, RepO G w a o → RepO G w' a o
  | .lst _, ⟨vs, h1, h2⟩ => ⟨vs, h.trans h1, RepVs.stay e _ _ h2⟩
  | .dct _ _, ⟨vs, h1, h2, h3⟩ => ⟨vs, h.trans h1, h2, RepVs.stay e _ _ h3⟩
  | .ins _ _, ⟨dx, vs, h1, h2, h3⟩ => ⟨dx, vs, h.trans h1, h2, RepVs.stay e _ _ h3⟩
  | .tbl _, ⟨e1, m, ps, h1, h2, h3⟩ => ⟨e1, by obtain ⟨r, er⟩ := e.m; rw [er]; exact List.mem_append_left _ m, ps, h.trans h1, h2, fun pos cv hc => by
    obtain ⟨c, z1, z2, z3⟩ := h3 pos cv hc
    exact ⟨c, z1, e.F c z2, e.H c _ z2 z3⟩⟩
theorem RepS.there {G : Sg} {w : Wd} {S : List Ob} (s : RepS G w S) {a : Addr} (h : a ∈ w.m) : w.H a ≠ none := by
  obtain ⟨n, hn⟩ := List.getElem?_of_mem h
  have l : n < S.length := by rw [← s.len]; exact (List.getElem?_eq_some_iff.mp hn).1
  exact (s.ob n a S[n] hn (List.getElem?_eq_getElem l)).there
def Wd.frz (w : Wd) (p : Addr) (o : HO) : Wd := ⟨w.m, fun a => w.F a ∨ a = p, upd w.H p o, w.x⟩
def Wd.new (w : Wd) (p : Addr) (o : HO) : Wd := ⟨w.m, w.F, upd w.H p o, w.x⟩
section
variable {G : Sg} {w : Wd} {S : List Ob} {p : Addr} {o : HO}
theorem Ext.frz (hp : w.H p = none) : Ext w (w.frz p o) := by
  refine ⟨⟨[], by simp [Wd.frz]⟩, fun _ h => .inl h, fun b u _ h => ?_, fun _ h => .inl h, fun b h => ?_, fun b h => ?_⟩
  · show upd w.H p o b = some u
    rw [upd_ne (ne_of_none h hp)]; exact h
  · rcases h with h | h
    · exact .inl h
    · exact .inr (h ▸ hp)
  · have h : upd w.H p o b = none := h
    by_cases e : b = p
    · rw [e]; exact hp
    · rw [upd_ne e] at h; exact h
theorem Ext.new (hp : w.H p = none) : Ext w (w.new p o) := by
  have e := Ext.frz (o := o) hp
  exact ⟨e.m, fun _ h => h, e.H, e.nm, fun _ h => .inl h, e.al⟩
theorem RepS.frz (s : RepS G w S) (hp : w.H p = none) : RepS G (w.frz p o) S := by
  refine ⟨s.len, s.nd, fun a h => ?_, fun a h => ?_, fun n a u h1 h2 => ?_⟩
  · rcases h with h | h
    · exact s.dj a h
    · exact fun z => s.there z (h ▸ hp)
  · show upd w.H p o a ≠ none
    by_cases e : a = p
    · rw [e, upd_same]; exact fun z => nomatch z
    · rw [upd_ne e]
      rcases h with h | h
      · exact s.fh a h
      · exact absurd h e
  · have ne : a ≠ p := fun z => s.there (List.mem_of_getElem? h1) (z ▸ hp)
    exact RepO.to (upd_ne ne) ((Ext.frz hp).stay s.dj) (s.ob n a u h1 h2)
theorem RepS.new (s : RepS G w S) (hp : w.H p = none) : RepS G (w.new p o) S := by
  refine ⟨s.len, s.nd, s.dj, fun a h => ?_, fun n a u h1 h2 => ?_⟩
  · show upd w.H p o a ≠ none
    rw [upd_ne (fun e => s.fh a h (by rw [e]; exact hp))]
    exact s.fh a h
  · have ne : a ≠ p := fun z => s.there (List.mem_of_getElem? h1) (z ▸ hp)
    exact RepO.to (upd_ne ne) ((Ext.new hp).stay s.dj) (s.ob n a u h1 h2)
end
def getv (i : Nat) : List SV → M D := fun sd => match sd[i]? with
  | some (.val d) => M.pure d
  | _ => M.stuck
def repL (G : Sg) (n : Nat) : Wd → List D → List V → Prop := fun w ds vs => RepVs G w ds vs ∧ vs.length = n
abbrev PLn (G : Sg) (X : Cx) (W : WX) (n : Nat) (es : List Expr) (f : List SV → M (List D)) : Prop := PA X es (teG G (repL G n) W f)
def notStar : Expr → Bool
  | .Starred _ _ => false
  | _ => true
theorem starEach_cons {e : Expr} {es : List Expr} {env : Env} (h : notStar e = true) : starEach (e :: es) env = (false, eval e env) :: starEach es env := by
  cases e <;> first | rfl | cases h
theorem starEach_all {env : Env} : ∀ {es : List Expr}, es.all notStar = true → ∀ pos, (backTo pos (starEach es env)).any (·.1) = false
  | [], _, _ => rfl
  | e :: es, h, pos => by
    simp only [List.all_cons, Bool.and_eq_true] at h
    rw [starEach_cons h.1]
    show (false || (backTo pos (starEach es env)).any (·.1)) = false
    rw [starEach_all h.2]
    rfl
section
variable {G : Sg} {X : Cx} {W : WX}
theorem v_var {i : Nat} {x : Str} {pos : Pos} (hN : X.N[i]? = some x) (hv : Vis X.env.scope x) (hd : (x == ("__debug__" : Str)) = false) (hcd : (x == ("__classdict__" : Str)) = false) : PV G X W (.Name x pos) (getv i) := by
  refine PE.imp (pe_var hN hv hd hcd) fun σ H Q h => ?_
  obtain ⟨w0, w, sd, S, e, r, q⟩ := h
  subst e
  unfold getv at q
  rcases hx : sd[i]? with _ | _ | d | o
  · rw [hx] at q; exact False.elim q
  · rw [hx] at q; exact False.elim q
  · rw [hx] at q
    obtain ⟨v, h1, h2⟩ := r.vl i d hx
    exact ⟨v, h1, fin_pure q r.st h2⟩
  · rw [hx] at q; exact False.elim q
theorem v_lit {e : Expr} {v : V} {d : D} (h : PE X e (tC v)) (r : ∀ w S, RepS G w S → RepV G w d v) : PV G X W e (fun _ => M.pure d) := by
  refine PE.imp h fun σ H Q h => ?_
  obtain ⟨w0, w, sd, S, e, rr, q⟩ := h
  subst e
  exact fin_pure q rr.st (r w S rr.st)
theorem l_nil : PLn G X W 0 [] (fun _ => M.pure []) := by
  refine PA.imp pa_nil fun σ H Q h => ?_
  obtain ⟨w0, w, sd, S, e, r, q⟩ := h
  subst e
  exact fin_pure q r.st ⟨rfl, rfl⟩
theorem l_cons {n : Nat} {e : Expr} {es : List Expr} {f : List SV → M D} {g : List SV → M (List D)} (he : PV G X W e f) (hr : PLn G X W n es g) (hs : notStar e = true) :
    PLn G X W (n + 1) (e :: es) (fun sd => M.bind (f sd) fun d => M.bind (g sd) fun ds => M.pure (d :: ds)) := by
  refine PA.imp (pa_cons he hr (starEach_cons hs)) fun σ H Q h => ?_
  obtain ⟨w0, w, sd, S, e, r, q⟩ := h
  refine ⟨w0, w, sd, S, e, r, fin_step q fun w1 S1 d v e1 s1 rv q1 => ⟨w0, w1, sd, S1, rfl, r.step e1 s1, fin_step q1 fun w2 S2 ds vs e2 s2 rvs q2 => ?_⟩⟩
  exact fin_pure q2 s2 ⟨⟨v, vs, rfl, RepV.mono e2 s1.dj d v rv, rvs.1⟩, by rw [List.length_cons, rvs.2]⟩
theorem v_tup {n : Nat} {es : List Expr} {g : List SV → M (List D)} {x1 : Nat} {pos : Pos} (h : PLn G X W n es g) (hn : n ≤ sizeLine) : PV G X W (.Tuple es x1 pos) (fun sd => M.bind (g sd) fun ds => M.pure (.tup ds)) := by
  refine PE.imp (pe_tup h) fun σ H Q h => ?_
  obtain ⟨w0, w, sd, S, e, r, q⟩ := h
  refine ⟨w0, w, sd, S, e, r, fin_step q fun w1 S1 ds vs e1 s1 rv q1 => ⟨by rw [rv.2]; exact hn, fun p hp => ?_⟩⟩
  exact q1 (w1.frz p (.tup vs)) _ (Ext.frz hp) (s1.frz hp) ⟨p, vs, rfl, .inl ⟨.inr rfl, .inl upd_same⟩, RepVs.mono (Ext.frz hp) s1.dj _ _ rv.1⟩
theorem v_lst {n : Nat} {es : List Expr} {g : List SV → M (List D)} {pos : Pos} (h : PLn G X W n es g) (hn : n ≤ sizeLine) : PV G X W (.List es pos) (fun sd => M.bind (g sd) fun ds => M.pure (.lst ds)) := by
  refine PE.imp (pe_lst h) fun σ H Q h => ?_
  obtain ⟨w0, w, sd, S, e, r, q⟩ := h
  refine ⟨w0, w, sd, S, e, r, fin_step q fun w1 S1 ds vs e1 s1 rv q1 => ⟨by rw [rv.2]; exact hn, fun p hp => ?_⟩⟩
  exact q1 (w1.frz p (.lst vs)) _ (Ext.frz hp) (s1.frz hp) ⟨p, vs, rfl, .inr rfl, upd_same, RepVs.mono (Ext.frz hp) s1.dj _ _ rv.1⟩
def rD2 (G : Sg) (g : D → D → M D) : R2 := fun v u H Q => ∃ W w S d e, w.H = H ∧ RepS G w S ∧ RepV G w d v ∧ RepV G w e u ∧ FinG G (RepV G) W w Q (g d e S)
theorem v_bin {op : Operator} {g : D → D → M D} {a b : Expr} {fa fb : List SV → M D} {pos : Pos} (ho : OpR X (binaryOp op) (rD2 G g)) (ha : PV G X W a fa) (hb : PV G X W b fb) :
    PV G X W (.BinOp a op b pos) (fun sd => M.bind (fa sd) fun x => M.bind (fb sd) fun y => g x y) := by
  refine PE.imp (pe_op ho ha hb) fun σ H Q h => ?_
  obtain ⟨w0, w, sd, S, e, r, q⟩ := h
  refine ⟨w0, w, sd, S, e, r, fin_step q fun w1 S1 d v e1 s1 rv q1 => ⟨w0, w1, sd, S1, rfl, r.step e1 s1, fin_step q1 fun w2 S2 d2 v2 e2 s2 rv2 q2 => ?_⟩⟩
  exact ⟨_, w2, S2, d, d2, rfl, s2, RepV.mono e2 s1.dj d v rv, rv2, q2⟩
theorem v_cmp {op : CmpOp} {g : D → D → M D} {a b : Expr} {fa fb : List SV → M D} {pos : Pos} (ho : OpR X (compareOp op) (rD2 G g)) (ha : PV G X W a fa) (hb : PV G X W b fb) (hm : behindInMarks op b = false) :
    PV G X W (.Compare a [op] [b] pos) (fun sd => M.bind (fa sd) fun x => M.bind (fb sd) fun y => g x y) := by
  refine PE.imp (pe_cmpR ho ha hb hm) fun σ H Q h => ?_
  obtain ⟨w0, w, sd, S, e, r, q⟩ := h
  refine ⟨w0, w, sd, S, e, r, fin_step q fun w1 S1 d v e1 s1 rv q1 => ⟨w0, w1, sd, S1, rfl, r.step e1 s1, fin_step q1 fun w2 S2 d2 v2 e2 s2 rv2 q2 => ?_⟩⟩
  exact ⟨_, w2, S2, d, d2, rfl, s2, RepV.mono e2 s1.dj d v rv, rv2, q2⟩
def toB : D → M Bool
  | .bl b => M.pure b
  | _ => M.stuck
theorem toB_fin {W' : Value → Option Addr → Hp → Prop} {w : Wd} {Q : Bool → Hp → Prop} {d : D} {v : V} {S : List Ob} (h : FinG G repB W' w Q (toB d S)) (s : RepS G w S) (r : RepV G w d v) : ∃ k, v = .bl k ∧ Q k w.H := by
  cases d with
  | bl b =>
    cases (show v = .bl b from r)
    exact ⟨b, rfl, fin_pure h s rfl⟩
  | _ => exact False.elim h
theorem b_cmp {op : CmpOp} {g : D → D → M D} {a b : Expr} {fa fb : List SV → M D} {pos : Pos} (ho : OpR X (compareOp op) (rD2 G g)) (ha : PV G X W a fa) (hb : PV G X W b fb) (hm : behindInMarks op b = false) :
    PB G X W (.Compare a [op] [b] pos) (fun sd => M.bind (fa sd) fun x => M.bind (fb sd) fun y => M.bind (g x y) toB) := by
  refine PT.imp (pt_cmpR ho ha hb hm) fun σ H Q h => ?_
  obtain ⟨w0, w, sd, S, e, r, q⟩ := h
  refine ⟨w0, w, sd, S, e, r, fin_step q fun w1 S1 d v e1 s1 rv q1 => ⟨w0, w1, sd, S1, rfl, r.step e1 s1, fin_step q1 fun w2 S2 d2 v2 e2 s2 rv2 q2 => ?_⟩⟩
  exact ⟨_, w2, S2, d, d2, rfl, s2, RepV.mono e2 s1.dj d v rv, rv2, fin_step q2 fun w3 S3 d3 v3 e3 s3 rv3 q3 => toB_fin q3 s3 rv3⟩
theorem b_val {e : Expr} {f : List SV → M D} (h : PV G X W e f) (he : ∀ whole, isTrue e X.env whole = (do let v ← whole; standAt e.pos; holding [v] (truthy v))) : PB G X W e (fun sd => M.bind (f sd) toB) := by
  refine PT.imp (pt_val h he) fun σ H Q h => ?_
  obtain ⟨w0, w, sd, S, e, r, q⟩ := h
  exact ⟨w0, w, sd, S, e, r, fin_step q fun w1 S1 d v e1 s1 rv q1 => toB_fin q1 s1 rv⟩
theorem b_not {a : Expr} {f : List SV → M Bool} {pos : Pos} (ha : PB G X W a f) : PB G X W (.UnaryOp .Not a pos) (fun sd => M.bind (f sd) fun b => M.pure (!b)) := by
  refine PT.imp (pt_not ha) fun σ H Q h => ?_
  obtain ⟨w0, w, sd, S, e, r, q⟩ := h
  exact ⟨w0, w, sd, S, e, r, fin_step q fun w1 S1 d v e1 s1 rv q1 => by cases rv; exact fin_pure q1 s1 rfl⟩
abbrev PBW (G : Sg) (X : Cx) (W : WX) (e : Expr) (f : List SV → M Bool) : Prop := PW X e (teB G W f)
theorem w_and1 {a : Expr} {f : List SV → M Bool} {pos : Pos} (ha : PB G X W a f) : PBW G X W (.BoolOp .And [a] pos) f := pw_and1 ha
theorem w_or1 {a : Expr} {f : List SV → M Bool} {pos : Pos} (ha : PB G X W a f) : PBW G X W (.BoolOp .Or [a] pos) f := pw_or1 ha
theorem w_and {a b : Expr} {rest : List Expr} {f g : List SV → M Bool} {pos : Pos} (ha : PB G X W a f) (hb : PBW G X W (.BoolOp .And (b :: rest) pos) g) :
    PBW G X W (.BoolOp .And (a :: b :: rest) pos) (fun sd => M.bind (f sd) fun k => if k = true then g sd else M.pure false) := by
  refine PW.imp (pw_and ha hb) fun σ H Q h => ?_
  obtain ⟨w0, w, sd, S, e, r, q⟩ := h
  refine ⟨w0, w, sd, S, e, r, fin_step q fun w1 S1 d v e1 s1 rv q1 => ?_⟩
  cases (show v = d from rv)
  cases d with
  | true => exact ⟨w0, w1, sd, S1, rfl, r.step e1 s1, q1⟩
  | false => exact fin_pure q1 s1 rfl
theorem w_or {a b : Expr} {rest : List Expr} {f g : List SV → M Bool} {pos : Pos} (ha : PB G X W a f) (hb : PBW G X W (.BoolOp .Or (b :: rest) pos) g) :
    PBW G X W (.BoolOp .Or (a :: b :: rest) pos) (fun sd => M.bind (f sd) fun k => if k = true then M.pure true else g sd) := by
  refine PW.imp (pw_or ha hb) fun σ H Q h => ?_
  obtain ⟨w0, w, sd, S, e, r, q⟩ := h
  refine ⟨w0, w, sd, S, e, r, fin_step q fun w1 S1 d v e1 s1 rv q1 => ?_⟩
  cases (show v = d from rv)
  cases d with
  | true => exact fin_pure q1 s1 rfl
  | false => exact ⟨w0, w1, sd, S1, rfl, r.step e1 s1, q1⟩
theorem v_one {op : BoolOp} {a : Expr} {f : List SV → M D} {pos : Pos} (ha : PV G X W a f) : PV G X W (.BoolOp op [a] pos) f := pe_one ha
theorem v_and {a b : Expr} {rest : List Expr} {f g : List SV → M D} {pos : Pos} (ha : PV G X W a f) (hb : PV G X W (.BoolOp .And (b :: rest) pos) g) :
    PV G X W (.BoolOp .And (a :: b :: rest) pos) (fun sd => M.bind (f sd) fun d => M.bind (toB d) fun k => if k = true then g sd else M.pure (.bl false)) := by
  refine PE.imp (pe_and ha hb) fun σ H Q h => ?_
  obtain ⟨w0, w, sd, S, e, r, q⟩ := h
  refine ⟨w0, w, sd, S, e, r, fin_step q fun w1 S1 d v e1 s1 rv q1 => ?_⟩
  cases d with
  | bl b =>
    cases (show v = .bl b from rv)
    refine ⟨b, rfl, ?_⟩
    cases b with
    | true => exact ⟨w0, w1, sd, S1, rfl, r.step e1 s1, q1⟩
    | false => exact fin_pure (b := V.bl false) q1 s1 rfl
  | _ => exact False.elim q1
theorem v_not {a : Expr} {f : List SV → M D} {pos : Pos} (ha : PV G X W a f) : PV G X W (.UnaryOp .Not a pos) (fun sd => M.bind (f sd) fun d => M.bind (toB d) fun k => M.pure (.bl (!k))) := by
  refine PE.imp (pe_not ha) fun σ H Q h => ?_
  obtain ⟨w0, w, sd, S, e, r, q⟩ := h
  refine ⟨w0, w, sd, S, e, r, fin_step q fun w1 S1 d v e1 s1 rv q1 => ?_⟩
  cases d with
  | bl b =>
    cases (show v = .bl b from rv)
    exact ⟨b, rfl, fin_pure (b := V.bl (!b)) q1 s1 rfl⟩
  | _ => exact False.elim q1
theorem v_ite {c a b : Expr} {f : List SV → M Bool} {fa fb : List SV → M D} {pos : Pos} (hc : PB G X W c f) (ha : PV G X W a fa) (hb : PV G X W b fb) : PV G X W (.IfExp c a b pos) (fun sd => M.bind (f sd) fun k => if k = true then fa sd else fb sd) := by
  refine PE.imp (pe_ifExp hc ha hb) fun σ H Q h => ?_
  obtain ⟨w0, w, sd, S, e, r, q⟩ := h
  refine ⟨w0, w, sd, S, e, r, fin_step q fun w1 S1 d v e1 s1 rv q1 => ?_⟩
  cases (show v = d from rv)
  cases d with
  | true => exact ⟨w0, w1, sd, S1, rfl, r.step e1 s1, q1⟩
  | false => exact ⟨w0, w1, sd, S1, rfl, r.step e1 s1, q1⟩
end
end Ev
set_option maxRecDepth 100000
set_option maxHeartbeats 2000000
namespace Ev
open PySem L2
theorem OpR.imp {X : Cx} {f : Value → Value → Sem Value} {r r' : R2} (h : OpR X f r) (i : ∀ v u H Q, r' v u H Q → r v u H Q) : OpR X f r' := fun pins s σ H x y v u Q I rx ry q => h pins s σ H x y v u Q I rx ry (i _ _ _ _ q)
section
variable {G : Sg} {X : Cx} {w : Wd} {a : Addr} {vs : List V}
theorem sqT_of (cK : G.K = X.K) (h : RdF w a (.tup vs) ∨ KTup G.K a vs) : SqT X.K w.H a vs := by
  rw [← cK]
  exact h.imp (fun z => z.2) id
theorem sqL_of (cK : G.K = X.K) (h : RdF w a (.lst vs) ∨ KLst G.K a vs) : SqL X.K w.H a vs := by
  rw [← cK]
  exact h.imp (fun z => z.2) id
end
def lim : Nat := 16777216
theorem lim_eq : lim = sizeLine := by decide
def dAdd : D → D → M D
  | .int i, .int j => M.pure (.int (i + j))
  | .str x, .str y => if x.length + y.length ≤ lim then M.pure (.str (x ++ y)) else M.stuck
  | .lst a, .lst b => if a.length + b.length ≤ lim then M.pure (.lst (a ++ b)) else M.stuck
  | .tup a, .tup b => if a.length + b.length ≤ lim then M.pure (.tup (a ++ b)) else M.stuck
  | _, _ => M.stuck
def dSub : D → D → M D
  | .int i, .int j => M.pure (.int (i - j))
  | _, _ => M.stuck
def mulOk (i j : Int) : Bool := decide ((Builtin.Int.intBits i : Int) + (Builtin.Int.intBits j : Int) ≤ 134217728)
theorem mulOk_of {i j : Int} (h : mulOk i j = true) : CMulX i j := by
  have z : (Builtin.Int.intBits i : Int) + (Builtin.Int.intBits j : Int) ≤ 134217728 := of_decide_eq_true h
  exact z
theorem mulOk_by {i j : Int} {a b : Nat} (ha : i.natAbs < 2 ^ a) (hb : j.natAbs < 2 ^ b) (h : a + b ≤ 134217728) : mulOk i j = true := by
  unfold mulOk
  exact decide_eq_true (mulx_ok ha hb h)
def dMul : D → D → M D
  | .int i, .int j => if mulOk i j = true then M.pure (.int (i * j)) else M.stuck
  | .lst a, .int k => if a.length * k.toNat ≤ lim ∧ -(2 ^ 63) ≤ k ∧ k < 2 ^ 63 then M.pure (.lst (List.replicate k.toNat a).flatten) else M.stuck
  | .tup a, .int k => if 2 ≤ k ∧ k ≤ 1000 ∧ a.length ≤ 1000 ∧ a.isEmpty = false then M.pure (.tup (List.replicate k.toNat a).flatten) else M.stuck
  | _, _ => M.stuck
def divOk (j : Int) : Bool := decide (0 < j) && decide (j.natAbs.log2 < 9000)
def dFdiv : D → D → M D
  | .int i, .int j => if divOk j = true then M.pure (.int (i / j)) else M.stuck
  | _, _ => M.stuck
def dMod : D → D → M D
  | .int i, .int j => if 0 < j then M.pure (.int (i % j)) else M.stuck
  | _, _ => M.stuck
def dPow : D → D → M D
  | .int i, .int j => if 0 ≤ j ∧ j ≤ 1000000 ∧ i.natAbs < 2 ^ 64 then M.pure (.int (i ^ j.toNat)) else M.stuck
  | _, _ => M.stuck
def dCmpI (p : Int → Int → Bool) : D → D → M D
  | .int i, .int j => M.pure (.bl (p i j))
  | _, _ => M.stuck
section
variable {G : Sg} {X : Cx}
theorem FinG.ite {α β : Type} {rep : Wd → α → β → Prop} {W : Value → Option Addr → Hp → Prop} {w : Wd} {Q : β → Hp → Prop} {c : Prop} [Decidable c] {f : M α} {S : List Ob} (h : FinG G rep W w Q ((if c then f else M.stuck) S)) : c ∧ FinG G rep W w Q (f S) := by
  by_cases hc : c
  · rw [if_pos hc] at h; exact ⟨hc, h⟩
  · rw [if_neg hc] at h; exact h.elim
theorem o_int {f : Value → Value → Sem Value} {C : Int → Int → Prop} {g : Int → Int → V} {g' : Int → Int → D} {dg : D → D → M D} (h : OpR X f (rI C g)) (hg : ∀ w i j, RepV G w (g' i j) (g i j))
    (hd : ∀ d e S W w Q, FinG G (RepV G) W w Q (dg d e S) → ∃ i j, d = .int i ∧ e = .int j ∧ C i j ∧ dg d e S = M.pure (g' i j) S) : OpR X f (rD2 G dg) := by
  refine OpR.imp h fun v u H Q q => ?_
  obtain ⟨W, w, S, d, e, rfl, s, r1, r2, q⟩ := q
  obtain ⟨i, j, rfl, rfl, c, eq⟩ := hd d e S W w Q q
  rw [eq] at q
  exact ⟨i, j, r1, r2, c, fin_pure q s (hg w i j)⟩
theorem o_int0 {f : Value → Value → Sem Value} {g : Int → Int → V} {g' : Int → Int → D} {dg : D → D → M D} (h : OpR X f (rI0 g)) (hg : ∀ w i j, RepV G w (g' i j) (g i j))
    (hd : ∀ d e S W w Q, FinG G (RepV G) W w Q (dg d e S) → ∃ i j, d = .int i ∧ e = .int j ∧ dg d e S = M.pure (g' i j) S) : OpR X f (rD2 G dg) := by
  refine OpR.imp h fun v u H Q q => ?_
  obtain ⟨W, w, S, d, e, rfl, s, r1, r2, q⟩ := q
  obtain ⟨i, j, rfl, rfl, eq⟩ := hd d e S W w Q q
  rw [eq] at q
  exact ⟨i, j, r1, r2, fin_pure q s (hg w i j)⟩
theorem o_cmpI {op : CmpOp} {p : Int → Int → Bool} (h : OpR X (compareOp op) (rI0 fun i j => .bl (p i j))) : OpR X (compareOp op) (rD2 G (dCmpI p)) :=
  o_int0 (g' := fun i j => .bl (p i j)) h (fun _ _ _ => rfl) fun d e S W w Q q => by
    cases d <;> cases e <;> first | exact ⟨_, _, rfl, rfl, rfl⟩ | exact q.elim
theorem o_lt : OpR X (compareOp .Lt) (rD2 G (dCmpI fun i j => decide (i < j))) := o_cmpI op_lt
theorem o_le : OpR X (compareOp .LtE) (rD2 G (dCmpI fun i j => decide (i ≤ j))) := o_cmpI op_le
theorem o_gt : OpR X (compareOp .Gt) (rD2 G (dCmpI fun i j => decide (j < i))) := o_cmpI op_gt
theorem o_ge : OpR X (compareOp .GtE) (rD2 G (dCmpI fun i j => decide (j ≤ i))) := o_cmpI op_ge
theorem o_fdiv : OpR X (binaryOp .FloorDiv) (rD2 G dFdiv) := o_int (g' := fun i j => .int (i / j)) (C := fun i j => CDivW i j) op_fdivW (fun _ _ _ => rfl) fun d e S W w Q q => by
    cases d <;> cases e <;> first
      | exact q.elim
      | (obtain ⟨c, q⟩ := FinG.ite q
         refine ⟨_, _, rfl, rfl, ?_, congrFun (if_pos c) S⟩
         unfold divOk at c
         rw [Bool.and_eq_true] at c
         exact ⟨of_decide_eq_true c.1, of_decide_eq_true c.2⟩)
instance {i j : Int} : Decidable (CDivW i j) := by unfold CDivW; infer_instance
theorem o_mod : OpR X (binaryOp .Mod) (rD2 G dMod) := o_int (g' := fun i j => .int (i % j)) (C := fun _ j => 0 < j) op_mod (fun _ _ _ => rfl) fun d e S W w Q q => by
    cases d <;> cases e <;> first
      | exact q.elim
      | (obtain ⟨c, q⟩ := FinG.ite q
         exact ⟨_, _, rfl, rfl, c, congrFun (if_pos c) S⟩)
instance {i j : Int} : Decidable (CPow i j) := by unfold CPow; infer_instance
theorem o_pow : OpR X (binaryOp .Pow) (rD2 G dPow) := o_int (g' := fun i j => .int (i ^ j.toNat)) (C := CPow) op_pow (fun _ _ _ => rfl) fun d e S W w Q q => by
    cases d <;> cases e <;> first
      | exact q.elim
      | (obtain ⟨c, q⟩ := FinG.ite q
         exact ⟨_, _, rfl, rfl, c, congrFun (if_pos c) S⟩)
theorem o_add (cK : G.K = X.K) : OpR X (binaryOp .Add) (rD2 G dAdd) := by
  refine OpR.imp (op_add.or (op_add_str.or (op_cat.or op_catA))) fun v u H Q q => ?_
  obtain ⟨W, w, S, d, e, rfl, s, r1, r2, q⟩ := q
  cases d <;> cases e <;> first | exact q.elim | skip
  · exact .inl ⟨_, _, r1, r2, fin_pure (b := V.int _) q s rfl⟩
  · obtain ⟨c, q⟩ := FinG.ite q
    exact .inr (.inl ⟨_, _, r1, r2, by rw [← lim_eq]; exact c, fin_pure (b := V.str _) q s rfl⟩)
  · rename_i ds es
    obtain ⟨c, q⟩ := FinG.ite q
    obtain ⟨a, va, ea, ha, ra⟩ := r1
    obtain ⟨b, vb, eb, hb, rb⟩ := r2
    rw [ra.length, rb.length, lim_eq] at c
    refine .inr (.inr (.inr ⟨a, b, va, vb, ea, eb, sqT_of cK ha, sqT_of cK hb, c, fun e => ?_, fun n e => ?_, fun _ _ p hp => ?_⟩))
    · subst e
      have e : ds = [] := List.eq_nil_of_length_eq_zero (by rw [ra.length]; rfl)
      subst e
      exact fin_pure q s ⟨b, vb, rfl, hb, rb⟩
    · subst e
      have e : es = [] := List.eq_nil_of_length_eq_zero (by rw [rb.length]; rfl)
      subst e
      rw [List.append_nil] at q
      exact fin_pure q s ⟨a, va, rfl, ha, ra⟩
    · exact q (w.frz p (.tup (va ++ vb))) _ (Ext.frz hp) (s.frz hp) ⟨p, _, rfl, .inl ⟨.inr rfl, .inl upd_same⟩, RepVs.mono (Ext.frz hp) s.dj _ _ (RepVs.append ra rb)⟩
  · rename_i ds es
    obtain ⟨c, q⟩ := FinG.ite q
    obtain ⟨a, va, ea, fa, ha, ra⟩ := r1
    obtain ⟨b, vb, eb, fb, hb, rb⟩ := r2
    rw [ra.length, rb.length, lim_eq] at c
    refine .inr (.inr (.inl ⟨a, b, va, vb, ea, eb, ha, hb, c, fun p hp => ?_⟩))
    exact q (w.frz p (.lst (va ++ vb))) _ (Ext.frz hp) (s.frz hp) ⟨p, _, rfl, .inr rfl, upd_same, RepVs.mono (Ext.frz hp) s.dj _ _ (RepVs.append ra rb)⟩
instance {i j : Int} : Decidable (CMulW i j) := by unfold CMulW; infer_instance
theorem o_mul (cK : G.K = X.K) : OpR X (binaryOp .Mult) (rD2 G dMul) := by
  refine OpR.imp (op_mulX.or (op_rep.or op_repT)) fun v u H Q q => ?_
  obtain ⟨W, w, S, d, e, rfl, s, r1, r2, q⟩ := q
  cases d <;> cases e <;> first | exact q.elim | skip
  · obtain ⟨c, q⟩ := FinG.ite q
    exact .inl ⟨_, _, r1, r2, mulOk_of c, fin_pure (b := V.int _) q s rfl⟩
  · rename_i ds k
    have q : FinG G (RepV G) W w Q ((if 2 ≤ k ∧ k ≤ 1000 ∧ ds.length ≤ 1000 ∧ ds.isEmpty = false then M.pure (.tup (List.replicate k.toNat ds).flatten) else M.stuck) S) := q
    obtain ⟨⟨c1, c2, c, c3⟩, q⟩ := FinG.ite q
    obtain ⟨a, va, ea, ha, ra⟩ := r1
    rw [ra.length] at c
    refine .inr (.inr ⟨a, k, va, ea, r2, sqT_of cK ha, fun e => ?_, c1, c2, c, fun p hp => ?_⟩)
    · subst e
      have e : ds = [] := List.eq_nil_of_length_eq_zero (by rw [ra.length]; rfl)
      rw [e] at c3
      cases c3
    · exact q (w.frz p _) _ (Ext.frz hp) (s.frz hp) ⟨p, _, rfl, .inl ⟨.inr rfl, .inl upd_same⟩, RepVs.mono (Ext.frz hp) s.dj _ _ (RepVs.rep _ ra)⟩
  · rename_i ds k
    obtain ⟨⟨c, c1, c2⟩, q⟩ := FinG.ite q
    obtain ⟨a, va, ea, fa, ha, ra⟩ := r1
    rw [ra.length, lim_eq] at c
    refine .inr (.inl ⟨a, k, va, ea, r2, ha, c1, c2, c, fun p hp => ?_⟩)
    exact q (w.frz p _) _ (Ext.frz hp) (s.frz hp) ⟨p, _, rfl, .inr rfl, upd_same, RepVs.mono (Ext.frz hp) s.dj _ _ (RepVs.rep _ ra)⟩
end
end Ev
set_option maxRecDepth 100000
set_option maxHeartbeats 2000000
namespace Ev
open PySem PySem.Spec PyProof.Rows L2
structure Rm (b : Bool) (k : Nat) (A : Around) : Prop where
  room : Room k A
  gd : b = true → A.guards = some []
theorem Rm.mono {b : Bool} {j k : Nat} {A : Around} (h : Rm b k A) (l : j ≤ k) : Rm b j A := ⟨h.room.mono l, h.gd⟩
theorem Rm.deeper {b : Bool} {k : Nat} {A : Around} (h : Rm b (k + 1) A) (env : Env) : Rm b k (A.deeper env) := ⟨h.room.deeper env, h.gd⟩
theorem Rm.in1 {b : Bool} {k : Nat} {A : Around} (h : Rm b (k + 1) A) : Rm b k A.in1 := ⟨h.room.in1, h.gd⟩
theorem make_guards {A : Around} {C : Addr} {us : List Value} {kw : List (Str × Value)} (h : A.guards = some []) :
    (A.under (.builtin "type.__call__" ⟨.ref C :: us, kw⟩)).guards = some [] := by
  show pushGuards (Code.guards (.builtin "type.__call__" ⟨.ref C :: us, kw⟩)) A.guards = some []
  rw [h]
  have e : Code.guards (.builtin "type.__call__" ⟨.ref C :: us, kw⟩) = [] := by
    show (if guardIds.contains "type.__call__" = true then _ else _) = _
    rw [if_neg (by decide +kernel)]
  rw [e]
  rfl
theorem Rm.make {b : Bool} {k : Nat} {A : Around} (h : Rm b (k + 1) A) (C : Addr) (us : List Value) (kw : List (Str × Value)) :
    Rm b k (A.under (.builtin "type.__call__" ⟨.ref C :: us, kw⟩)) := ⟨h.room.make C us kw, fun z => make_guards (h.gd z)⟩
structure Gn (P : Program) (w : World) (K : PySem.W.Frag) (mg : Str → Option Value) (base : Heap) (b : Bool) (k : Nat) (f : Addr) (fd : FuncData) (ps : List Str) (sp : Sp) : Prop where
  len : ∀ vs H Q E, sp vs H Q E → vs.length = ps.length
  run : ∀ (A : Around) (fr : List Env) (s : Shared) (H : Hp) (args : Args) (us : List Value) (vs : List V) (Q : VK) (E : XK),
    Rm b k A → Env0 P w K mg base A fr s H → BindsTo s fd args (ps.zip us) → Vals vs us → sp vs H Q E →
    codeAny (model P w) A (.call (.ref f) args) (CR (L2N.CX P w) fr P w H s Q E) s
section
variable {P : Program} {w : World} {K : PySem.W.Frag} {mg : Str → Option Value} {base : Heap} {b : Bool} {j k : Nat} {f : Addr} {fd : FuncData} {sp : Sp} {N ps : List Str}
theorem Gn.mono (F : Gn P w K mg base b j f fd ps sp) (h : j ≤ k) : Gn P w K mg base b k f fd ps sp :=
  ⟨F.len, fun A fr s H args us vs Q E hr => F.run A fr s H args us vs Q E (hr.mono h)⟩
theorem gn_of {name qual : Str} {params : Arguments} {body : List Stmt} {scope : Scope} {dV kV doc pm cdv ct oc : Value} {an od : Option Addr} {osl : Array (Option Value)}
    (lk : K.lookup f = some ⟨oc, od, .func (PySem.W.fnOf name qual params body scope dV kV doc pm an cdv ct), osl⟩) (hcd : PySem.W.codeIn K cdv qual = true) (SC : FnScope N ps scope)
    (len : ∀ vs H Q E, sp vs H Q E → vs.length = ps.length)
    (hb : ∀ (A : Around) (fr : List Env) (s : Shared) (H : Hp) (vs : List V) (Q : VK) (E : XK),
      Rm b k (A.deeper (envOfC qual scope s.heap.objs.size f cdv)) → sp vs H Q E →
      ∃ t, PSs (cxOf (L2N.CX P w) P w K mg base N qual scope f cdv A fr s H E) body t ∧ t { nx := fun _ H' => Q .non H', rt := Q } (start N vs) H) :
    Gn P w K mg base b (k + 1) f (PySem.W.fnOf name qual params body scope dV kV doc pm an cdv ct) ps sp := by
  refine ⟨len, ?_⟩
  intro A fr s H args us vs Q E hr e0 hbind rv hsp
  have inK : K.In s.heap := by
    refine e0.mod.kin.keeps ?_
    exact fun b o e => (e0.bs b o e).1
  have noL : s.heap.NoLimit := by
    refine e0.mod.nolimit.keeps ?_
    exact fun b o e => (e0.bs b o e).1
  have kinds : ∀ y ∈ ps.zip us, scope.names.lookup y.1 = some .local ∨
      (scope.names.lookup y.1 = some .cell ∧ ((cellsFrom (s.heap.objs.size + 1) scope.names []).lookup y.1).isSome = true) := by
    rintro ⟨n, v⟩ hy
    have hn := SC.par n (List.of_mem_zip hy).1
    exact hn.imp id fun q => ⟨q, PySem.W.cellsFrom_some _ _ _ (.inl q)⟩
  refine codeAny_call_function hr.room.depth (inK _ _ lk) rfl SC.co SC.gen rfl ?_ (hbind _ _ _ _ ?_)
  · exact PySem.W.codeRec_of inK hcd
  refine wpAny_newFunctionEnv_cells SC.kind kinds ?_
  rintro env rfl s1 x
  refine ⟨noL.keeps x.toInCall.keep, codeAny_func ?_⟩
  obtain ⟨t, ht, hq⟩ := hb A fr s H vs Q E (hr.deeper _) hsp
  have I := inv_start (CX := L2N.CX P w) (P := P) (w := w) (E := E) SC hr.room.hd e0 (len _ _ _ _ hsp) rv x
  have run := ht.run [] s1 _ H _ I hq
  refine wpAny_mono run ?_ (fun e s' hs => hs)
  intro fl s' hs
  cases fl with
  | ret u =>
    obtain ⟨v, σ', H', J, r', q⟩ := hs
    exact ⟨v, H', J.os, J.bare, J.base, J.hok, r', q⟩
  | next =>
    obtain ⟨σ', H', J, q⟩ := hs
    exact ⟨V.non, H', J.os, J.bare, J.base, J.hok, rfl, q⟩
  | brk =>
    obtain ⟨_, _, _, q⟩ := hs
    exact q.elim
  | cont =>
    obtain ⟨_, _, _, q⟩ := hs
    exact q.elim
end
def spV (G : Sg) (g : List D → M D) : Sp := fun vs H Q E => ∃ w ds S, w.H = H ∧ RepS G w S ∧ RepVs G w ds vs ∧ FinG G (RepV G) E w Q (g ds S)
abbrev PassS (X : Cx) (W : WX) : Prop := ∀ σ, PassesAt (L2N.CX X.prog X.w) X σ (WE W σ)
end Ev
set_option maxRecDepth 100000
set_option maxHeartbeats 2000000
namespace Ev
open PySem PySem.Spec PyProof.Rows L2
structure Ctx (G : Sg) (X : Cx) (W : WX) (k : Nat) : Prop where
  cK : G.K = X.K
  calm : X.calm = true
  rm : Rm G.gd (k + 1) X.A
  nd : X.N.Nodup
  px : PassS X W
  po : PassesOwn (model X.prog X.w) X.A X.env X.xe
theorem Ctx.rm0 {G : Sg} {X : Cx} {W : WX} {k : Nat} (c : Ctx G X W k) : Rm G.gd k X.A := c.rm.mono (Nat.le_succ _)
structure FnA (P : Program) (w : World) (K : PySem.W.Frag) (mg : Str → Option Value) (base : Heap) (G : Sg) (k : Nat) (f : Addr) (sem : List D → M D) : Prop where
  run : ∀ (A : Around) (fr : List Env) (s : Shared) (H : Hp) (us : List Value) (vs : List V) (Q : VK) (E : XK),
    Rm G.gd k A → Env0 P w K mg base A fr s H → Vals vs us → spV G sem vs H Q E → codeAny (model P w) A (.call (.ref f) ⟨us, []⟩) (CR (L2N.CX P w) fr P w H s Q E) s
  kp : PySem.W.keepIn K (.ref f) = true
theorem FnA.of {P : Program} {w : World} {K : PySem.W.Frag} {mg : Str → Option Value} {base : Heap} {G : Sg} {k : Nat} {f : Addr} {fd : FuncData} {ps : List Str} {sem : List D → M D} (g : Gn P w K mg base G.gd k f fd ps (spV G sem)) (b : Binds K fd ps [])
    (kp : PySem.W.keepIn K (.ref f) = true) : FnA P w K mg base G k f sem := by
  refine ⟨fun A fr s H us vs Q E hr e0 r h => ?_, kp⟩
  have hl : us.length = ps.length := r.length.symm.trans (g.len _ _ _ _ h)
  have inK : K.In s.heap := e0.mod.kin.keeps fun b o e => (e0.bs b o e).1
  have hb := b s us inK (by rw [List.append_nil]; exact hl)
  rw [List.append_nil] at hb
  exact g.run A fr s H ⟨us, []⟩ us vs Q E hr e0 hb r h
theorem FnA.mono {P : Program} {w : World} {K : PySem.W.Frag} {mg : Str → Option Value} {base : Heap} {G : Sg} {j k : Nat} {f : Addr} {sem : List D → M D} (F : FnA P w K mg base G j f sem) (h : j ≤ k) : FnA P w K mg base G k f sem :=
  ⟨fun A fr s H us vs Q E hr => F.run A fr s H us vs Q E (hr.mono h), F.kp⟩
abbrev FnX (X : Cx) (G : Sg) (k : Nat) (f : Addr) (sem : List D → M D) : Prop := FnA X.prog X.w X.K X.mg X.base G k f sem
section
variable {G : Sg} {X : Cx} {W : WX} {k n : Nat} {f : Addr} {sem : List D → M D} {x : Str} {p pos apos : Pos} {e o : Expr} {es : List Expr} {fa : List SV → M (List D)} {σ : L2.St}
theorem run_fa {pins : List (Addr × Obj)} {H : Hp} {s : Shared} {Q : VK} {us : List Value} {vs : List V} (c : Ctx G X W k) (F : FnX X G k f sem) (I : Inv X pins σ H s) (r : Vals vs us)
    (h : spV G sem vs H Q (WE W σ)) : wpAny (model X.prog X.w) X.A (call (.ref f) us) (EP X pins σ Q) X.xe s := by
  have body := F.run X.A X.stack s H us vs Q (WE W σ) c.rm0 I.env0 r h
  refine wpAny_call (codeAny_mono body ?_)
  intro res s' hq
  rcases res with e | fl
  · exact c.px σ pins H s e s' I hq
  · cases fl with
    | ret u => exact I.after hq
    | next => exact hq.elim
    | brk => exact hq.elim
    | cont => exact hq.elim
def insOf : Option Ob → Option Nat
  | some (.ins c _) => some c
  | _ => none
def clsOf (d : D) : M Nat := fun S => match d with
  | .ins c _ => some (.ok c, S)
  | .ref n => match insOf S[n]? with
    | some c => some (.ok c, S)
    | none => none
  | _ => none
theorem clsOf_rep {w : Wd} {S : List Ob} {d : D} {v : V} {c : Nat} {S' : List Ob} (s : RepS G w S) (r : RepV G w d v) (h : clsOf d S = some (.ok c, S')) : S' = S ∧ ∃ a dx vs, v = .ref a ∧ w.H a = some (.ins (G.ca c) dx ((G.fn c).zip vs)) := by
  unfold clsOf at h
  cases d with
  | ins c' ds =>
    simp only [Option.some.injEq, Prod.mk.injEq, Except.ok.injEq] at h
    obtain ⟨rfl, rfl⟩ := h
    obtain ⟨a, dx, vs, e1, _, h1, _⟩ := r
    exact ⟨rfl, a, dx, vs, e1, h1⟩
  | ref n =>
    obtain ⟨a, e1, h1⟩ := r
    rcases hn : S[n]? with _ | ⟨_ | _ | ⟨c', ds⟩ | jt⟩
    · simp [hn, insOf] at h
    · simp [hn, insOf] at h
    · simp [hn, insOf] at h
    · simp only [hn, insOf, Option.some.injEq, Prod.mk.injEq, Except.ok.injEq] at h
      obtain ⟨rfl, rfl⟩ := h
      obtain ⟨dx, vs, h2, _⟩ := s.ob n a _ h1 hn
      exact ⟨rfl, a, dx, vs, e1, h2⟩
    · simp [hn, insOf] at h
  | _ => simp at h
theorem clsOf_noerr {d : D} {S S' : List Ob} {x : Exn} : clsOf d S ≠ some (.error x, S') := by
  intro h
  unfold clsOf at h
  split at h
  · simp at h
  · split at h <;> simp at h
  · simp at h
theorem lookup_zip_none {m : Str} : ∀ {fs : List Str} {vs : List V}, m ∉ fs → (fs.zip vs).lookup m = none
  | [], _, _ => rfl
  | _ :: _, [], _ => rfl
  | f :: fs, v :: vs, h => by
    have h1 : ¬ m = f := fun e => h (by rw [e]; exact List.mem_cons_self)
    rw [List.zip_cons_cons, List.lookup_cons]
    have hb : (m == f) = false := by simpa using h1
    rw [hb]
    exact lookup_zip_none fun z => h (List.mem_cons_of_mem _ z)
theorem lookup_zip_some {m : Str} : ∀ {fs : List Str} {vs : List V} {i : Nat} {v : V}, fs.Nodup → fs[i]? = some m → vs[i]? = some v → (fs.zip vs).lookup m = some v
  | [], _, _, _, _, h, _ => by simp at h
  | _ :: _, [], _, _, _, _, h => by simp at h
  | f :: fs, u :: vs, 0, v, _, h1, h2 => by
    simp at h1 h2
    subst h1 h2
    simp
  | f :: fs, u :: vs, i + 1, v, nd, h1, h2 => by
    have nd := List.nodup_cons.mp nd
    have hm : fs[i]? = some m := by simpa using h1
    have hne : (m == f) = false := by
      have : ¬ m = f := fun e => nd.1 (e ▸ List.mem_of_getElem? hm)
      simpa using this
    rw [List.zip_cons_cons, List.lookup_cons, hne]
    exact lookup_zip_some nd.2 hm (by simpa using h2)
structure MethT (X : Cx) (G : Sg) (k : Nat) (m : Str) (tbl : Nat → Option (List D → M D)) : Prop where
  at_ : ∀ c g, tbl c = some g → ∃ f, Cls X.K (G.ca c) ∧ Meth X.K (G.ca c) m f ∧ FnX X G k f g ∧ m ∉ G.fn c
def plainBase : Expr → Bool
  | .Call (.Name _ _) [] [] _ => false
  | _ => true
theorem attr_base {env : Env} {m : Str} {whole : Sem Value} (h : plainBase o = true) : attributeBase o m env whole = whole := by
  unfold attributeBase
  split
  · cases h
  · rfl
theorem star_form {env : Env} : ∀ {l : List Expr}, l.all notStar = true → (backTo pos (starEach l env)).all (fun y => !y.1) = true
  | [], _ => rfl
  | a :: l, h => by
    have h : notStar a = true ∧ l.all notStar = true := by simpa using h
    rw [starEach_cons h.1]
    show (true && (backTo pos (starEach l env)).all (fun y => !y.1)) = true
    rw [star_form h.2]
    rfl
theorem meth_tree {env : Env} {m : Str} {args : List Expr} (hb : plainBase o = true) (hs : args.all notStar = true) (hl : args.length < 30) (hp : (apos.endLine == pos.line) = true) :
    eval (.Call (.Attribute o m apos) args [] pos) env = (do
      let ov ← eval o env
      standAt apos.atName
      let (f, first) ← holding [ov] (getMethod ov m (do return (← importBound o env).getD true))
      callWith pos f first (backTo pos (starEach args env)) (backToKw pos (keywordEach [] env))) := by
  have e1 : eval (.Call (.Attribute o m apos) args [] pos) env = (do
      let ov ← attributeBase o m env (eval o env)
      standAt apos.atName
      methodCall o m apos pos env ov (args.length + ([] : List Keyword).length) (backTo pos (starEach args env)) (backToKw pos (keywordEach [] env))) := rfl
  have few : methodCallForm (args.length + ([] : List Keyword).length) (backTo pos (starEach args env)) (backToKw pos (keywordEach [] env)) = true := by
    unfold methodCallForm
    rw [star_form hs]
    show (true && true && decide (args.length + 0 + 0 < 30)) = true
    rw [decide_eq_true (by omega)]
    rfl
  rw [e1, attr_base hb]
  unfold methodCall
  rw [few]
  have mp : methodCallPos true o env apos pos = (pure pos : Sem Pos) := by
    unfold methodCallPos
    rw [hp]
    rfl
  rw [mp]
  rfl
def pick (tbl : Nat → Option (List D → M D)) (d : D) : M (List D → M D) := M.bind (clsOf d) fun c => match tbl c with
  | some g => M.pure g
  | none => M.stuck
theorem pick_fin {α β : Type} {rep : Wd → α → β → Prop} {W' : Value → Option Addr → Hp → Prop} {w : Wd} {Q : β → Hp → Prop} {S : List Ob} {tbl : Nat → Option (List D → M D)} {d : D} {k : (List D → M D) → M α} {v : V} (s : RepS G w S) (rd : RepV G w d v)
    (h : FinG G rep W' w Q (M.bind (pick tbl d) k S)) : ∃ c g, tbl c = some g ∧ FinG G rep W' w Q (k g S) ∧ clsOf d S = some (.ok c, S) ∧ ∃ a dx vs, v = .ref a ∧ w.H a = some (.ins (G.ca c) dx ((G.fn c).zip vs)) := by
  unfold pick M.bind at h
  rcases hc : clsOf d S with _ | ⟨x | c, S2⟩
  · rw [hc] at h; exact h.elim
  · exact absurd hc clsOf_noerr
  · obtain ⟨rfl, a, dx, vs, e1, h1⟩ := clsOf_rep s rd hc
    rw [hc] at h
    simp only at h
    rcases ht : tbl c with _ | g
    · rw [ht] at h; exact h.elim
    · rw [ht] at h
      exact ⟨c, g, ht, h, rfl, a, dx, vs, e1, h1⟩
theorem v_meth {m : Str} {tbl : Nat → Option (List D → M D)} {fo : List SV → M D} (c : Ctx G X W k) (T : MethT X G k m tbl) (ho : PV G X W o fo) (ha : PLn G X W n (e :: es) fa) (hs : (e :: es).all notStar = true) (hb : plainBase o = true) (hl : (e :: es).length < 30) (hp : (apos.endLine == pos.line) = true) :
    PV G X W (.Call (.Attribute o m apos) (e :: es) [] pos) (fun sd => M.bind (fo sd) fun d => M.bind (pick tbl d) fun g => M.bind (fa sd) fun ds => g (d :: ds)) := by
  constructor
  intro pins s σ H Q I ⟨w0, w, sd, S, eH, r, q⟩
  refine PySem.W.methodCall_KW (thn (ho.run pins s σ H (fun v H1 => ∃ w1 S1 d c g a dx vs, w1.H = H1 ∧ R G w0 w1 sd S1 σ ∧ RepV G w1 d v ∧ tbl c = some g ∧ v = .ref a ∧ w1.H a = some (.ins (G.ca c) dx ((G.fn c).zip vs)) ∧
      FinG G (RepV G) (fun c x H => W c x σ H) w1 Q (M.bind (fa sd) (fun ds => g (d :: ds)) S1)) I ?_) ?_) (meth_tree hb hs hl hp)
  · refine ⟨w0, w, sd, S, eH, r, fin_step q fun w1 S1 d v e1 s1 rv q1 => ?_⟩
    obtain ⟨c', g, ht, q2, _, a, dx, vs, ev, hv⟩ := pick_fin s1 rv q1
    exact ⟨w1, S1, d, c', g, a, dx, vs, rfl, r.step e1 s1, rv, ht, ev, hv, q2⟩
  · rintro u s1 ⟨v, H1, I1, rv, w1, S1, d, c', g, a, dx, vs, eH1, r1, rd, ht, ev, hv, q1⟩
    subst eH1 ev
    obtain rfl : u = Value.ref a := rv
    obtain ⟨f, cl, hm, F, nf⟩ := T.at_ c' g ht
    refine getmeth_ok I1 hv cl hm (lookup_zip_none nf) ?_
    have hs2 : notStar e = true ∧ es.all notStar = true := by simpa using hs
    refine PySem.W.callWith_K (first := [.ref a]) (h₀ := X.base) I.ok.mod.kin hm.kp (thn (ha.run pos pins s1 σ w1.H (fun xs H2 => spV G g (.ref a :: xs) H2 Q (WE W σ)) I1 ?_) ?_) (starEach_cons hs2.1) (starEach_all hs2.2 pos)
    · refine ⟨w0, w1, sd, S1, rfl, r1, fin_step q1 fun w2 S2 ds xs e2 s2 rx q2 => ?_⟩
      exact ⟨w2, d :: ds, S2, rfl, s2, ⟨_, _, rfl, RepV.mono e2 r1.st.dj _ _ rd, rx.1⟩, q2⟩
    · rintro us s2 ⟨xs, H2, I2, rx, q2⟩
      exact ⟨I2.kIn, run_fa (us := .ref a :: us) (vs := .ref a :: xs) c F I2 (.cons rfl rx) q2⟩
def fldsOf (d : D) : M (Nat × List D) := fun S => match d with
  | .ins c ds => some (.ok (c, ds), S)
  | .ref n => match S[n]? with
    | some (.ins c ds) => some (.ok (c, ds), S)
    | _ => none
  | _ => none
theorem fldsOf_rep {w : Wd} {S : List Ob} {d : D} {v : V} {c : Nat} {ds : List D} {S' : List Ob} (s : RepS G w S) (r : RepV G w d v) (h : fldsOf d S = some (.ok (c, ds), S')) :
    S' = S ∧ ∃ a dx vs, v = .ref a ∧ w.H a = some (.ins (G.ca c) dx ((G.fn c).zip vs)) ∧ RepVs G w ds vs := by
  unfold fldsOf at h
  cases d with
  | ins c' es =>
    simp only [Option.some.injEq, Prod.mk.injEq, Except.ok.injEq] at h
    obtain ⟨⟨rfl, rfl⟩, rfl⟩ := h
    obtain ⟨a, dx, vs, e1, _, h1, _, h3⟩ := r
    exact ⟨rfl, a, dx, vs, e1, h1, h3⟩
  | ref n =>
    obtain ⟨a, e1, h1⟩ := r
    rcases hn : S[n]? with _ | ⟨_ | _ | ⟨c', es⟩ | jt⟩
    · simp [hn] at h
    · simp [hn] at h
    · simp [hn] at h
    · simp only [hn, Option.some.injEq, Prod.mk.injEq, Except.ok.injEq] at h
      obtain ⟨⟨rfl, rfl⟩, rfl⟩ := h
      obtain ⟨dx, vs, h2, _, h3⟩ := s.ob n a _ h1 hn
      exact ⟨rfl, a, dx, vs, e1, h2, h3⟩
    · simp [hn] at h
  | _ => simp at h
theorem fldsOf_noerr {d : D} {S S' : List Ob} {x : Exn} : fldsOf d S ≠ some (.error x, S') := by
  intro h
  unfold fldsOf at h
  split at h
  · simp at h
  · split at h <;> simp at h
  · simp at h
inductive At where
  | fld (i : Nat)
  | prop (g : List D → M D)
def noErr {α : Type} (f : M α) : M α := fun S => match f S with
  | some (.ok a, S') => some (.ok a, S')
  | _ => none
def attr (tbl : Nat → Option At) (d : D) : M D := M.bind (fldsOf d) fun cd => match tbl cd.1 with
  | some (.fld i) => match cd.2[i]? with
    | some x => M.pure x
    | none => M.stuck
  | some (.prop g) => noErr (g [d])
  | none => M.stuck
structure AttrT (X : Cx) (G : Sg) (k : Nat) (m : Str) (tbl : Nat → Option At) : Prop where
  fld : ∀ c i, tbl c = some (.fld i) → Cls X.K (G.ca c) ∧ NoAttr X.K (G.ca c) m ∧ (G.fn c).Nodup ∧ (G.fn c)[i]? = some m
  prop : ∀ c g, tbl c = some (.prop g) → ∃ p f, Cls X.K (G.ca c) ∧ PropOf X.K (G.ca c) m p f ∧ FnX X G k f g
theorem run_prop {pins : List (Addr × Obj)} {H : Hp} {s : Shared} {Q : VK} {b : Bool} {E' : Value → Shared → Prop} {a C dx p : Addr} {fs : List (Str × V)} {m : Str} (hr : Rm G.gd (k + 1) X.A) (I : Inv X pins σ H s) (ea : H a = some (.ins C dx fs)) (cl : Cls X.K C)
    (hp : PropOf X.K C m p f) (F : FnX X G k f sem) (h : spV G sem [.ref a] H Q (fun _ _ _ => False)) : wpAny (model X.prog X.w) X.A (getAttr (.ref a) m b) (EP X pins σ Q) E' s := by
  obtain ⟨mA, O, _, _, _, _⟩ := ins_get I.hok ea
  obtain ⟨od, J, _⟩ := O.look
  obtain ⟨rest, hrec⟩ := hp.rec_
  have I1 := I.tok (s.toks + 1)
  have hc : (PySem.W.clsIn X.K C).isSome = true := by
    obtain ⟨cd, hc, _⟩ := PySem.W.any_some cl.hd
    exact hc ▸ rfl
  have pg := PySem.W.plainGet_of (cl.get m)
  have body := F.run X.A.in1 X.stack { s with toks := s.toks + 1 } H [.ref a] [.ref a] Q (fun _ _ _ => False) hr.in1 I1.env0.in1 (.cons rfl .nil) h
  refine PySem.W.get_bind I.kIn J pg.1 (PySem.W.findObj_data hc hp.at_ hp.get hp.tak) pg.2 (wpAny_call (PySem.W.prop_get (s := { s with toks := s.toks + 1 }) I.kIn hrec (codeAny_mono body ?_)))
  intro res s' hq
  rcases res with er | fl
  · obtain ⟨_, _, _, _, _, _, _, _, _, _, _, _, z⟩ := hq
    exact z.elim
  · cases fl with
    | ret u =>
      obtain ⟨v, H', I3, rv, q3⟩ := I1.after hq
      show wpAny _ _ (handedOut u) _ _ _
      rw [PySem.W.handedOut_of (handed_of rv)]
      exact wpAny_pure ⟨v, H', I3, rv, q3⟩
    | next => exact hq.elim
    | brk => exact hq.elim
    | cont => exact hq.elim
theorem noErr_fin {W' W'' : Value → Option Addr → Hp → Prop} {α β : Type} {rep : Wd → α → β → Prop} {w : Wd} {Q : β → Hp → Prop} {S : List Ob} {g : M α} (h : FinG G rep W' w Q (noErr g S)) : FinG G rep W'' w Q (g S) := by
  unfold noErr at h
  rcases hg : g S with _ | ⟨x | a, S2⟩
  · rw [hg] at h; exact h.elim
  · rw [hg] at h; exact h.elim
  · rw [hg] at h; exact h
theorem v_attr {m : Str} {tbl : Nat → Option At} {fo : List SV → M D} (c : Ctx G X W k) (T : AttrT X G k m tbl) (ho : PV G X W o fo) (hb : plainBase o = true) : PV G X W (.Attribute o m pos) (fun sd => M.bind (fo sd) (attr tbl)) := by
  constructor
  intro pins s σ H Q I ⟨w0, w, sd, S, eH, r, q⟩
  refine attr_of (attr_base hb) (thn (ho.run pins s σ H (fun v H1 => ∃ w1 S1 d, w1.H = H1 ∧ RepS G w1 S1 ∧ RepV G w1 d v ∧ FinG G (RepV G) (fun c x H => W c x σ H) w1 Q (attr tbl d S1)) I ?_) ?_)
  · exact ⟨w0, w, sd, S, eH, r, fin_step q fun w1 S1 d v e1 s1 rv q1 => ⟨w1, S1, d, rfl, s1, rv, q1⟩⟩
  · rintro u s1 ⟨v, H1, I1, rv, w1, S1, d, eH1, s1', rd, q1⟩
    subst eH1
    unfold attr M.bind at q1
    rcases hc : fldsOf d S1 with _ | ⟨x | ⟨c', ds⟩, S2⟩
    · rw [hc] at q1; exact q1.elim
    · exact absurd hc fldsOf_noerr
    · obtain ⟨rfl, a, dx, vs, ev, hv, hds⟩ := fldsOf_rep s1' rd hc
      subst ev
      obtain rfl : u = Value.ref a := rv
      rw [hc] at q1
      simp only at q1
      rcases ht : tbl c' with _ | ⟨i | g⟩
      · rw [ht] at q1; exact q1.elim
      · rw [ht] at q1
        simp only at q1
        obtain ⟨cl, na, nd, hi⟩ := T.fld c' i ht
        rcases hx : ds[i]? with _ | y
        · rw [hx] at q1; exact q1.elim
        · rw [hx] at q1
          obtain ⟨z, hz, rz⟩ := hds.get hx
          refine getattr_ok I1 hv cl na (lookup_zip_some nd hi hz) fun u2 s2 I2 r2 => ?_
          exact ⟨z, w1.H, I2, r2, fin_pure q1 s1' rz⟩
      · rw [ht] at q1
        obtain ⟨p, f, cl, hp, F⟩ := T.prop c' g ht
        exact run_prop c.rm I1 hv cl hp F ⟨w1, [d], S2, rfl, s1', ⟨_, _, rfl, rd, rfl⟩, noErr_fin q1⟩
end
end Ev
set_option maxRecDepth 100000
set_option maxHeartbeats 2000000
namespace Ev
open PySem PySem.Spec PyProof.Rows L2
inductive Out where
  | next (sd : List SV) | ret (d : D) | brk (sd : List SV) | cont (sd : List SV) | err (e : Exn) (sd : List SV)
abbrev MS : Type := List SV → List Ob → Option (Out × List Ob)
def FinS (G : Sg) (W : WX) (w0 w : Wd) (D : Ends) : Option (Out × List Ob) → Prop
  | none => False
  | some (.next sd, S) => ∀ w' σ', Stay w w' → R G w0 w' sd S σ' → D.nx σ' w'.H
  | some (.ret d, S) => ∀ w' v, Ext w0 w' → RepS G w' S → RepV G w' d v → D.rt v w'.H
  | some (.brk sd, S) => ∀ w' σ', Stay w w' → R G w0 w' sd S σ' → D.bk σ' w'.H
  | some (.cont sd, S) => ∀ w' σ', Stay w w' → R G w0 w' sd S σ' → D.ct σ' w'.H
  | some (.err e sd, S) => ∀ w' σ' cls x, Stay w w' → R G w0 w' sd S σ' → RepX G w' e cls x → W cls x σ' w'.H
def tsV (G : Sg) (W : WX) (f : MS) : TS := fun D σ H => ∃ w0 w sd S, w.H = H ∧ R G w0 w sd S σ ∧ FinS G W w0 w D (f sd S)
abbrev PSV (G : Sg) (X : Cx) (W : WX) (st : Stmt) (f : MS) : Prop := PS X st (tsV G W f)
abbrev PSsV (G : Sg) (X : Cx) (W : WX) (st : List Stmt) (f : MS) : Prop := PSs X st (tsV G W f)
theorem FinS.stay {G : Sg} {W : WX} {w0 w w1 : Wd} {D : Ends} {r : Option (Out × List Ob)} (e : Stay w w1) (h : FinS G W w0 w D r) : FinS G W w0 w1 D r := by
  rcases r with _ | ⟨_ | _ | _ | _ | _, _⟩
  · exact h
  · exact fun w' σ' s => h w' σ' (e.trans s)
  · exact h
  · exact fun w' σ' s => h w' σ' (e.trans s)
  · exact fun w' σ' s => h w' σ' (e.trans s)
  · exact fun w' σ' c x s => h w' σ' c x (e.trans s)
def exS {α : Type} (f : List SV → M α) (k : α → MS) : MS := fun sd S => match f sd S with
  | none => none
  | some (.error e, S1) => some (.err e sd, S1)
  | some (.ok d, S1) => k d sd S1
def seqS (f g : MS) : MS := fun sd S => match f sd S with
  | some (.next sd', S') => g sd' S'
  | o => o
def nextS : MS := fun sd S => some (.next sd, S)
def stuckS : MS := fun _ _ => none
section
variable {G : Sg} {X : Cx} {W : WX} {k : Nat} {w0 w : Wd} {En : Ends}
theorem exS_step {α β : Type} {rep : Wd → α → β → Prop} {f : List SV → M α} {kk : α → MS} {sd : List SV} {S : List Ob} {σ : L2.St} {Q : β → Hp → Prop} (h : FinS G W w0 w En (exS f kk sd S)) (r : R G w0 w sd S σ)
    (c : ∀ w1 S1 d v, Ext w w1 → R G w0 w1 sd S1 σ → rep w1 d v → FinS G W w0 w1 En (kk d sd S1) → Q v w1.H) : FinG G rep (fun c x H => W c x σ H) w Q (f sd S) := by
  unfold exS at h
  rcases hf : f sd S with _ | ⟨_ | d, S1⟩
  · rw [hf] at h; exact h
  · rw [hf] at h
    exact fun w' cls x e s rx => h w' σ cls x (e.stay r.st.dj) (r.step e s) rx
  · rw [hf] at h
    exact fun w' v e s rv => c w' S1 d v e (r.step e s) rv (FinS.stay (e.stay r.st.dj) h)
theorem ss_nil : PSsV G X W [] nextS := by
  refine PSs.imp pss_nil fun D σ H h => ?_
  obtain ⟨w0, w, sd, S, e, r, q⟩ := h
  subst e
  exact q w σ (Stay.refl w) r
theorem ss_cons {st : Stmt} {rest : List Stmt} {f g : MS} (h1 : PSV G X W st f) (h2 : PSsV G X W rest g) : PSsV G X W (st :: rest) (seqS f g) := by
  refine PSs.imp (pss_cons h1 h2) fun D σ H h => ?_
  obtain ⟨w0, w, sd, S, e, r, q⟩ := h
  refine ⟨w0, w, sd, S, e, r, ?_⟩
  unfold seqS at q
  rcases hf : f sd S with _ | ⟨_ | _ | _ | _ | _, S1⟩
  · rw [hf] at q; exact q
  · rw [hf] at q
    exact fun w' σ' s r' => ⟨w0, w', _, S1, rfl, r', FinS.stay s q⟩
  · rw [hf] at q; exact q
  · rw [hf] at q; exact q
  · rw [hf] at q; exact q
  · rw [hf] at q; exact q
theorem ss_never {sts : List Stmt} : PSsV G X W sts stuckS := ⟨fun _ _ _ _ _ _ ⟨_, _, _, _, _, _, q⟩ => q.elim⟩
def retS (f : List SV → M D) : MS := exS f fun d _ S => some (.ret d, S)
theorem s_ret {e : Expr} {f : List SV → M D} {pos : Pos} (h : PV G X W e f) : PSV G X W (.Return (some e) pos) (retS f) := by
  refine PS.imp (ps_ret h) fun D σ H q => ?_
  obtain ⟨w0, w, sd, S, e, r, q⟩ := q
  exact ⟨w0, w, sd, S, e, r, exS_step q r fun w1 S1 d v _ r1 rv q1 => q1 w1 v r1.ex r1.st rv⟩
def swapFree : Expr → Bool
  | .ListComp .. | .SetComp .. | .DictComp .. => false
  | _ => true
theorem swap_free {e : Expr} {t : Option Expr} {l : Nat} {env : Env} (h : swapFree e = true) : swapsWith e t l env = pure false := by
  cases e <;> first | rfl | cases h
theorem s_expr {e : Expr} {f : List SV → M D} {pos : Pos} (h : PV G X W e f) (hs : swapFree e = true) : PSV G X W (.Expr e pos) (exS f fun _ => nextS) := by
  refine PS.imp (ps_expr h (swap_free hs)) fun D σ H q => ?_
  obtain ⟨w0, w, sd, S, e, r, q⟩ := q
  exact ⟨w0, w, sd, S, e, r, exS_step q r fun w1 S1 d v _ r1 rv q1 => q1 w1 σ (Stay.refl w1) r1⟩
theorem s_if {c : Expr} {a b : List Stmt} {fc : List SV → M Bool} {fa fb : MS} {pos : Pos} (hc : PB G X W c fc) (ha : PSsV G X W a fa) (hb : PSsV G X W b fb) :
    PSV G X W (.If c a b pos) (exS fc fun k => if k = true then fa else fb) := by
  refine PS.imp (ps_if hc ha hb) fun D σ H q => ?_
  obtain ⟨w0, w, sd, S, e, r, q⟩ := q
  refine ⟨w0, w, sd, S, e, r, exS_step q r fun w1 S1 d v _ r1 rv q1 => ?_⟩
  cases (show v = d from rv)
  cases d with
  | true => exact ⟨w0, w1, sd, S1, rfl, r1, q1⟩
  | false => exact ⟨w0, w1, sd, S1, rfl, r1, q1⟩
theorem R.setv {sd : List SV} {S : List Ob} {σ : L2.St} {d : D} {v : V} (r : R G w0 w sd S σ) (rv : RepV G w d v) (i : Nat) : R G w0 w (sd.set i (.val d)) S (σ.set i (some v)) := by
  have key : ∀ {j : Nat} {x : SV}, (sd.set i (.val d))[j]? = some x → (j = i ∧ i < sd.length ∧ x = .val d) ∨ (j ≠ i ∧ sd[j]? = some x) := fun {j x} h => by
    by_cases e : i = j
    · subst e
      by_cases l : i < sd.length
      · rw [List.getElem?_set_self l] at h
        cases h
        exact .inl ⟨rfl, l, rfl⟩
      · rw [List.getElem?_eq_none (by simpa using l)] at h
        cases h
    · rw [List.getElem?_set_ne e] at h
      exact .inr ⟨fun z => e z.symm, h⟩
  refine ⟨r.ex, r.st, by rw [List.length_set, List.length_set]; exact r.ln, fun j x h => ?_, fun j o h => ?_, fun j1 j2 o o' a h1 h2 h3 h4 => ?_, fun a o e h => by
    rcases key h with ⟨_, _, e⟩ | ⟨ne, h⟩
    · cases e
    · rw [List.getElem?_set_ne (fun z => ne z.symm)]
      exact r.sf a o e h⟩
  · rcases key h with ⟨rfl, l, e⟩ | ⟨ne, h⟩
    · cases e
      exact ⟨v, List.getElem?_set_self (by rw [r.ln]; exact l), rv⟩
    · rw [List.getElem?_set_ne (fun z => ne z.symm)]
      exact r.vl j x h
  · rcases key h with ⟨_, _, e⟩ | ⟨ne, h⟩
    · cases e
    · rw [List.getElem?_set_ne (fun z => ne z.symm)]
      exact r.ow j o h
  · rcases key h1 with ⟨_, _, e⟩ | ⟨n1, h1⟩
    · cases e
    · rcases key h2 with ⟨_, _, e⟩ | ⟨n2, h2⟩
      · cases e
      · rw [List.getElem?_set_ne (fun z => n1 z.symm)] at h3
        rw [List.getElem?_set_ne (fun z => n2 z.symm)] at h4
        exact r.ap j1 j2 o o' a h1 h2 h3 h4
abbrev Tgt : Type := D → List SV → List Ob → Option (List SV × List Ob)
abbrev Tgts : Type := List D → List SV → List Ob → Option (List SV × List Ob)
def FinT (G : Sg) (w0 w : Wd) (σ : L2.St) (ts : List Nat) (Q : L2.St → Hp → Prop) : Option (List SV × List Ob) → Prop
  | none => False
  | some (sd, S) => ∀ w' σ', Stay w w' → R G w0 w' sd S σ' → (∀ i, i ∉ ts → σ'[i]? = σ[i]?) → Q σ' w'.H
def tgV (G : Sg) (ts : List Nat) (f : Tgt) : TG := fun v σ H Q => ∃ w0 w sd S d, w.H = H ∧ R G w0 w sd S σ ∧ RepV G w d v ∧ FinT G w0 w σ ts Q (f d sd S)
def tgsV (G : Sg) (ts : List Nat) (n : Nat) (f : Tgts) : TGs := fun vs σ H Q => ∃ w0 w sd S ds, w.H = H ∧ R G w0 w sd S σ ∧ RepVs G w ds vs ∧ ds.length = n ∧ FinT G w0 w σ ts Q (f ds sd S)
abbrev PGV (G : Sg) (X : Cx) (ts : List Nat) (t : Expr) (f : Tgt) : Prop := PG X t (tgV G ts f)
abbrev PGsV (G : Sg) (X : Cx) (ts : List Nat) (n : Nat) (t : List Expr) (f : Tgts) : Prop := PGs X t (tgsV G ts n f)
theorem PG.imp {t : Expr} {g g' : TG} (h : PG X t g) (i : ∀ v σ H Q, g' v σ H Q → g v σ H Q) : PG X t g' := ⟨fun p s σ H v u Q I r q => h.run p s σ H v u Q I r (i _ _ _ _ q)⟩
theorem PGs.imp {t : List Expr} {g g' : TGs} (h : PGs X t g) (i : ∀ v σ H Q, g' v σ H Q → g v σ H Q) : PGs X t g' := ⟨fun p s σ H v u Q I r q => h.run p s σ H v u Q I r (i _ _ _ _ q)⟩
theorem PG.or {t : Expr} {g g' : TG} (h : PG X t g) (h' : PG X t g') : PG X t (fun v σ H Q => g v σ H Q ∨ g' v σ H Q) := ⟨fun p s σ H v u Q I r q => q.elim (h.run p s σ H v u Q I r) (h'.run p s σ H v u Q I r)⟩
def setT (i : Nat) : Tgt := fun d sd S => some (sd.set i (.val d), S)
theorem g_name {i : Nat} {x : Str} {pos : Pos} (hN : X.N.Nodup) (hi : X.N[i]? = some x) (hx : Loc X.env.scope x) (hf : X.fn x = true ∨ X.env.scope.names.lookup x = some .local) : PGV G X [i] (.Name x pos) (setT i) := by
  refine PG.imp (pg_name hN hi hx hf) fun v σ H Q q => ?_
  obtain ⟨w0, w, sd, S, d, e, r, rv, q⟩ := q
  subst e
  refine q w (σ.set i (some v)) (Stay.refl w) (r.setv rv i) fun j hj => ?_
  rw [List.getElem?_set_ne (fun z => hj (by rw [z]; exact List.mem_cons_self))]
theorem gs_nil : PGsV G X [] 0 [] (fun _ sd S => some (sd, S)) := by
  refine PGs.imp pgs_nil fun vs σ H Q q => ?_
  obtain ⟨w0, w, sd, S, ds, e, r, rv, hl, q⟩ := q
  subst e
  have ed : ds = [] := List.eq_nil_of_length_eq_zero hl
  subst ed
  exact ⟨rv, q w σ (Stay.refl w) r fun _ _ => rfl⟩
def consT (f : Tgt) (g : Tgts) : Tgts := fun ds sd S => match ds with
  | [] => none
  | d :: ds => match f d sd S with
    | none => none
    | some (sd1, S1) => g ds sd1 S1
theorem assignEach_cons {e : Expr} {es : List Expr} {env : Env} (h : notStar e = true) : assignEach (e :: es) env = (false, assign e env) :: assignEach es env := by
  cases e <;> first | rfl | cases h
theorem gs_cons {ts us : List Nat} {n : Nat} {e : Expr} {es : List Expr} {f : Tgt} {g : Tgts} (h1 : PGV G X ts e f) (h2 : PGsV G X us n es g) (hs : notStar e = true) : PGsV G X (ts ++ us) (n + 1) (e :: es) (consT f g) := by
  refine PGs.imp (pgs_cons h1 h2 (by rw [assignEach_cons hs]; rfl)) fun vs σ H Q q => ?_
  obtain ⟨w0, w, sd, S, ds, e, r, rv, hl, q⟩ := q
  subst e
  cases ds with
  | nil => exact q.elim
  | cons d ds =>
    obtain ⟨v, vr, ev, rd, rr⟩ := rv
    refine ⟨v, vr, ev, w0, w, sd, S, d, rfl, r, rd, ?_⟩
    unfold consT at q
    simp only at q
    rcases hf : f d sd S with _ | ⟨sd1, S1⟩
    · rw [hf] at q; exact q
    · rw [hf] at q
      simp only at q
      intro w1 σ1 s1 r1 k1
      refine ⟨w0, w1, sd1, S1, ds, rfl, r1, RepVs.stay s1 _ _ rr, by simpa using hl, ?_⟩
      rcases hg : g ds sd1 S1 with _ | ⟨sd2, S2⟩
      · rw [hg] at q; exact q
      · rw [hg] at q
        intro w2 σ2 s2 r2 k2
        refine q w2 σ2 (s1.trans s2) r2 fun i hi => ?_
        rw [k2 i (fun z => hi (List.mem_append_right _ z)), k1 i (fun z => hi (List.mem_append_left _ z))]
def tupT (n : Nat) (g : Tgts) : Tgt := fun d sd S => match d with
  | .tup ds => if ds.length = n then g ds sd S else none
  | .lst ds => if ds.length = n then g ds sd S else none
  | _ => none
theorem assignEach_len {env : Env} : ∀ {es : List Expr}, es.all notStar = true → (assignEach es env).length = es.length ∧ (assignEach es env).findIdx? (·.1) = none
  | [], _ => ⟨rfl, rfl⟩
  | e :: es, h => by
    have h : notStar e = true ∧ es.all notStar = true := by simpa using h
    obtain ⟨h1, h2⟩ := assignEach_len (env := env) h.2
    rw [assignEach_cons h.1]
    refine ⟨by rw [List.length_cons, List.length_cons, h1], ?_⟩
    rw [List.findIdx?_cons]
    show (if false = true then _ else _) = none
    rw [if_neg Bool.false_ne_true, h2]
    rfl
theorem g_tup {ts : List Nat} {es : List Expr} {j n : Nat} {g : Tgts} {pos : Pos} (cK : G.K = X.K) (hc : X.calm = true) (h : PGsV G X ts n es g) (hs : es.all notStar = true) (hn : es.length = n) : PGV G X ts (.Tuple es j pos) (tupT n g) := by
  have hl := assignEach_len (env := X.env) hs
  refine PG.imp (PG.or (pg_tup hc h (hl.1.trans hn) hl.2) (pg_lst hc h (hl.1.trans hn) hl.2)) fun v σ H Q q => ?_
  obtain ⟨w0, w, sd, S, d, e, r, rv, q⟩ := q
  subst e
  cases d with
  | tup ds =>
    obtain ⟨a, vs, ev, ha, rs⟩ := rv
    by_cases hd : ds.length = n
    · simp only [tupT, if_pos hd] at q
      exact .inl ⟨a, vs, ev, sqT_of cK ha, by rw [← rs.length]; exact hd, w0, w, sd, S, ds, rfl, r, rs, hd, q⟩
    · simp only [tupT, if_neg hd] at q
      exact q.elim
  | lst ds =>
    obtain ⟨a, vs, ev, fa, ha, rs⟩ := rv
    by_cases hd : ds.length = n
    · simp only [tupT, if_pos hd] at q
      exact .inr ⟨a, vs, ev, .of ha, by rw [← rs.length]; exact hd, w0, w, sd, S, ds, rfl, r, rs, hd, q⟩
    · simp only [tupT, if_neg hd] at q
      exact q.elim
  | _ => exact q.elim
def asgS (f : List SV → M D) (t : Tgt) : MS := exS f fun d sd S => match t d sd S with
  | some (sd', S') => some (.next sd', S')
  | none => none
theorem asg_fin {ts : List Nat} {t : Tgt} {d : D} {sd : List SV} {S : List Ob} {σ : L2.St} {v : V} (q : FinS G W w0 w En (match t d sd S with | some (sd', S') => some (.next sd', S') | none => none)) (r : R G w0 w sd S σ) (rv : RepV G w d v) : tgV G ts t v σ w.H En.nx := by
  refine ⟨w0, w, sd, S, d, rfl, r, rv, ?_⟩
  rcases ht : t d sd S with _ | ⟨sd1, S1⟩
  · rw [ht] at q; exact q
  · rw [ht] at q
    exact fun w' σ' s r' _ => q w' σ' s r'
theorem s_asg {ts : List Nat} {tg e : Expr} {f : List SV → M D} {t : Tgt} {pos : Pos} (he : PV G X W e f) (hg : PGV G X ts tg t) (hs : swapsWithSole [tg] e pos.line X.env = pure false) (hw : swappedStores [tg] e X.env = pure none) (hst : notStar tg = true) :
    PSV G X W (.Assign [tg] e pos) (asgS f t) := by
  refine PS.imp (ps_asg he hg hs hw (by rw [assignEach_cons hst]; rfl)) fun D σ H q => ?_
  obtain ⟨w0, w, sd, S, e, r, q⟩ := q
  exact ⟨w0, w, sd, S, e, r, exS_step q r fun w1 S1 d v e1 r1 rv q1 => asg_fin q1 r1 rv⟩
theorem s_set {i : Nat} {x : Str} {e : Expr} {f : List SV → M D} {pos pos' : Pos} (c : Ctx G X W k) (hi : X.N[i]? = some x) (hx : Loc X.env.scope x) (he : PV G X W e f) (hs : swapFree e = true) (hf : X.fn x = true ∨ X.env.scope.names.lookup x = some .local) :
    PSV G X W (.Assign [.Name x pos'] e pos) (asgS f (setT i)) := by
  refine PS.imp (ps_set c.nd hi hx he (swap_free hs) hf) fun D σ H q => ?_
  obtain ⟨w0, w, sd, S, e, r, q⟩ := q
  exact ⟨w0, w, sd, S, e, r, exS_step q r fun w1 S1 d v e1 r1 rv q1 => q1 w1 (σ.set i (some v)) (Stay.refl w1) (r1.setv rv i)⟩
def parS (i j : Nat) (f : List SV → M (List D)) : MS := exS f fun ds sd S => match ds with
  | [a, b] => some (.next ((sd.set i (.val a)).set j (.val b)), S)
  | _ => none
theorem s_par {n i j : Nat} {x y : Str} {a b : Expr} {f : List SV → M (List D)} {px py pt pos : Pos} {kt k2 : Nat} {pt2 : Pos} (c : Ctx G X W k) (hi : X.N[i]? = some x) (hj : X.N[j]? = some y) (hij : i ≠ j)
    (hx : X.env.scope.names.lookup x = some .local) (hy : X.env.scope.names.lookup y = some .local) (ha : PLn G X W n [a, b] f) (hw : swappedStores [.Tuple [.Name x px, .Name y py] kt pt] (.Tuple [a, b] k2 pt2) X.env = pure (some [x, y])) :
    PSV G X W (.Assign [.Tuple [.Name x px, .Name y py] kt pt] (.Tuple [a, b] k2 pt2) pos) (parS i j f) := by
  refine PS.imp (ps_par c.calm c.nd hi hj hij hx hy ha hw rfl) fun D σ H q => ?_
  obtain ⟨w0, w, sd, S, e, r, q⟩ := q
  refine ⟨w0, w, sd, S, e, r, exS_step q r fun w1 S1 ds vs e1 r1 rv q1 => ?_⟩
  rcases ds with _ | ⟨d1, _ | ⟨d2, _ | ⟨d3, ds⟩⟩⟩
  · exact q1.elim
  · exact q1.elim
  · obtain ⟨⟨v1, t1, e1, h1, v2, t2, e2, h2, e3⟩, _⟩ := rv
    subst e1 e2
    cases (show t2 = [] from e3)
    exact ⟨v1, v2, rfl, q1 w1 _ (Stay.refl w1) ((r1.setv h1 i).setv h2 j)⟩
  · exact q1.elim
end
end Ev
set_option maxRecDepth 100000
set_option maxHeartbeats 2000000
namespace Ev
open PySem PySem.Spec PyProof.Rows L2
structure Yld (G : Sg) (w : Wd) (ds : List D) (J : It) : Prop where
  stop : ∀ w' i, Stay w w' → ds.length ≤ i → J.stop i w'.H
  go : ∀ w' i, Stay w w' → i < ds.length → J.go i w'.H
  yld : ∀ w' i d x H' S, Stay w w' → RepS G w' S → ds[i]? = some d → J.yld i w'.H x H' → ∃ w'', w''.H = H' ∧ Ext w' w'' ∧ RepS G w'' S ∧ RepV G w'' d x
abbrev PIV (G : Sg) (X : Cx) (W : WX) (tg iter : Expr) (f : List SV → M (List D)) : Prop := PI X tg iter (fun σ H Rr => teG G (Yld G) W f σ H Rr)
theorem PI.imp {X : Cx} {t e : Expr} {g g' : TI} (h : PI X t e g) (i : ∀ σ H Q, g' σ H Q → g σ H Q) : PI X t e g' := ⟨fun p s σ H R I q => h.run p s σ H R I (i _ _ _ q)⟩
def seqOf : D → M (List D)
  | .lst ds => M.pure ds
  | .tup ds => M.pure ds
  | .scr ds => M.pure ds
  | _ => M.stuck
section
variable {G : Sg} {X : Cx} {W : WX} {k : Nat} {w : Wd}
theorem RepVs.get_len {ds : List D} {vs : List V} (h : RepVs G w ds vs) {i : Nat} : i < ds.length → ∃ v, vs[i]? = some v := fun hi => by
  obtain ⟨v, e, _⟩ := h.get (List.getElem?_eq_getElem hi)
  exact ⟨v, e⟩
theorem yld_list (cK : G.K = X.K) {ds : List D} {vs : List V} {a : Addr} (h : RdF w a (.lst vs) ∨ KLst G.K a vs) (r : RepVs G w ds vs) : Yld G w ds (Itl X.K a) := by
  have sq : ∀ w', Stay w w' → SqL X.K w'.H a vs := fun w' s => sqL_of cK (h.imp (fun z => z.stay s) id)
  refine ⟨fun w' i s hi => ⟨vs, sq w' s, by rw [← r.length]; exact hi⟩, fun w' i s hi => ?_, fun w' i d x H' S s st hd hy => ?_⟩
  · obtain ⟨v, e⟩ := r.get_len hi
    exact ⟨vs, v, sq w' s, e⟩
  · obtain ⟨e, hx⟩ := hy
    obtain ⟨v, ev, rv⟩ := r.get hd
    have := hx vs (sq w' s)
    rw [ev] at this
    cases this
    exact ⟨w', e.symm, Ext.refl _, st, RepV.stay s _ _ rv⟩
theorem yld_tup (cK : G.K = X.K) {ds : List D} {vs : List V} {a : Addr} (h : RdF w a (.tup vs) ∨ KTup G.K a vs) (r : RepVs G w ds vs) : Yld G w ds (Itt X.K a) := by
  have sq : ∀ w', Stay w w' → SqT X.K w'.H a vs := fun w' s => sqT_of cK (h.imp (fun z => z.stay s) id)
  refine ⟨fun w' i s hi => ⟨vs, sq w' s, by rw [← r.length]; exact hi⟩, fun w' i s hi => ?_, fun w' i d x H' S s st hd hy => ?_⟩
  · obtain ⟨v, e⟩ := r.get_len hi
    exact ⟨vs, v, sq w' s, e⟩
  · obtain ⟨e, hx⟩ := hy
    obtain ⟨v, ev, rv⟩ := r.get hd
    have := hx vs (sq w' s)
    rw [ev] at this
    cases this
    exact ⟨w', e.symm, Ext.refl _, st, RepV.stay s _ _ rv⟩
theorem PI.or {t e : Expr} {g g' : TI} (h : PI X t e g) (h' : PI X t e g') : PI X t e (fun σ H Q => g σ H Q ∨ g' σ H Q) := ⟨fun p s σ H R I q => q.elim (h.run p s σ H R I) (h'.run p s σ H R I)⟩
theorem i_seq {tg e : Expr} {f : List SV → M D} (c : Ctx G X W k) (he : PV G X W e f) : PIV G X W tg e (fun sd => M.bind (f sd) seqOf) := by
  refine PI.imp (PI.or (pi_list he) (pi_tup he)) fun σ H Q q => ?_
  obtain ⟨w0, w, sd, S, e, r, q⟩ := q
  rcases hf : f sd S with _ | ⟨x | d, S1⟩
  · simp only [M.bind, hf] at q; exact q.elim
  · refine .inl ⟨w0, w, sd, S, e, r, ?_⟩
    simp only [M.bind, hf] at q
    rw [hf]
    exact q
  · simp only [M.bind, hf] at q
    cases d with
    | lst ds =>
      refine .inl ⟨w0, w, sd, S, e, r, ?_⟩
      rw [hf]
      intro w' v e1 s1 rv
      obtain ⟨a, vs, ev, fa, ha, rs⟩ := rv
      have hh : RdF w' a (.lst vs) ∨ KLst G.K a vs := .inl ⟨fa, .inl ha⟩
      exact ⟨a, ev, ⟨vs, sqL_of c.cK hh⟩, q w' _ e1 s1 (yld_list c.cK hh rs)⟩
    | scr ds =>
      refine .inl ⟨w0, w, sd, S, e, r, ?_⟩
      rw [hf]
      intro w' v e1 s1 rv
      obtain ⟨a, vs, ev, hh, rs⟩ := rv
      exact ⟨a, ev, ⟨vs, sqL_of c.cK hh⟩, q w' _ e1 s1 (yld_list c.cK hh rs)⟩
    | tup ds =>
      refine .inr ⟨w0, w, sd, S, e, r, ?_⟩
      rw [hf]
      intro w' v e1 s1 rv
      obtain ⟨a, vs, ev, hh, rs⟩ := rv
      exact ⟨a, ev, ⟨vs, sqT_of c.cK hh⟩, q w' _ e1 s1 (yld_tup c.cK hh rs)⟩
    | _ => exact q.elim
def rngD (lo : Int) (n : Nat) : List D := (List.range n).map fun i => .int (lo + (i : Nat))
theorem yld_rng {lo : Int} {n : Nat} : Yld G w (rngD lo n) (Itr lo n) := by
  have hl : (rngD lo n).length = n := by unfold rngD; rw [List.length_map, List.length_range]
  refine ⟨fun w' i s hi => by rw [hl] at hi; exact hi, fun w' i s hi => by rw [hl] at hi; exact hi, fun w' i d x H' S s st hd hy => ?_⟩
  obtain ⟨e1, e2⟩ := hy
  refine ⟨w', e1.symm, Ext.refl _, st, ?_⟩
  unfold rngD at hd
  rw [List.getElem?_map] at hd
  rcases hr : (List.range n)[i]? with _ | j
  · rw [hr] at hd; cases hd
  · rw [hr] at hd
    have hj : i = j := by
      have h2 := List.getElem?_eq_some_iff.mp hr
      obtain ⟨h3, h4⟩ := h2
      rw [List.getElem_range] at h4
      exact h4
    cases hd
    rw [hj] at e2
    exact e2
def rng1 : List D → M (List D)
  | [.int j] => if -(2 ^ 62) ≤ j ∧ j < 2 ^ 62 then M.pure (rngD 0 j.toNat) else M.stuck
  | _ => M.stuck
def rng2 : List D → M (List D)
  | [.int i, .int j] => if (-(2 ^ 62) ≤ i ∧ i < 2 ^ 62) ∧ -(2 ^ 62) ≤ j ∧ j < 2 ^ 62 then M.pure (rngD i (j - i).toNat) else M.stuck
  | _ => M.stuck
theorem i_rng1 {tg a : Expr} {n : Nat} {f : List SV → M (List D)} {p pos : Pos} (hg : Gl X "range") (hm : X.mg "range" = none) (ha : PLn G X W n [a] f) (hs : notStar a = true) : PIV G X W tg (.Call (.Name "range" p) [a] [] pos) (fun sd => M.bind (f sd) rng1) := by
  refine PI.imp (pi_range1 hg hm ha (starEach_cons hs)) fun σ H Q q => ?_
  obtain ⟨w0, w, sd, S, e, r, q⟩ := q
  refine ⟨w0, w, sd, S, e, r, fin_step q fun w1 S1 ds vs e1 s1 rv q1 => ?_⟩
  rcases ds with _ | ⟨d, _ | ⟨d2, ds⟩⟩
  · exact q1.elim
  · cases d with
    | int j =>
      obtain ⟨v, t, ev, h1, h2⟩ := rv.1
      cases (show t = [] from h2)
      cases (show v = .int j from h1)
      obtain ⟨⟨c1, c2⟩, q1⟩ := FinG.ite q1
      exact ⟨j, ev, c1, c2, fin_pure q1 s1 yld_rng⟩
    | _ => exact q1.elim
  · cases d <;> exact q1.elim
def loopS (t : Tgt) (body : MS) : List D → MS
  | [] => nextS
  | d :: ds => fun sd S => match t d sd S with
    | none => none
    | some (sd1, S1) => match body sd1 S1 with
      | some (.next sd2, S2) => loopS t body ds sd2 S2
      | some (.cont sd2, S2) => loopS t body ds sd2 S2
      | some (.brk sd2, S2) => some (.next sd2, S2)
      | o => o
def forS (f : List SV → M (List D)) (t : Tgt) (body : MS) : MS := exS f (loopS t body)
def setFree : Expr → Bool
  | .Set .. => false
  | _ => true
theorem set_free {e : Expr} {env : Env} (h : setFree e = true) : ∀ x, foldedSetIterable e env x = pure x := by
  intro x
  cases e <;> first | rfl | cases h
theorem drop_cons {α : Type} {l : List α} {i : Nat} (h : i < l.length) : ∃ d, l[i]? = some d ∧ l.drop i = d :: l.drop (i + 1) := ⟨l[i], List.getElem?_eq_getElem h, List.drop_eq_getElem_cons h⟩
theorem s_for {ts : List Nat} {tg iter : Expr} {body : List Stmt} {f : List SV → M (List D)} {t : Tgt} {fb : MS} {pos : Pos} (c : Ctx G X W k) (hi : PIV G X W tg iter f) (hg : PGV G X ts tg t) (hb : PSsV G X W body fb) (hs : setFree iter = true) :
    PSV G X W (.For tg iter body [] pos) (forS f t fb) := by
  refine PS.imp (ps_for c.po c.calm hi hg hb (set_free hs)) fun En σ H q => ?_
  obtain ⟨w0, w, sd, S, e, r, q⟩ := q
  refine ⟨w0, w, sd, S, e, r, exS_step q r fun w1 S1 ds J e1 r1 Y q1 => ?_⟩
  refine ⟨fun i m σ H => m = ds.length - i ∧ i ≤ ds.length ∧ ∃ w sd S, w.H = H ∧ Stay w1 w ∧ R G w0 w sd S σ ∧ FinS G W w0 w En (loopS t fb (ds.drop i) sd S), ⟨_, rfl, Nat.zero_le _, w1, sd, S1, rfl, Stay.refl _, r1, q1⟩, ?_⟩
  rintro i m σ2 H2 ⟨rfl, hi2, w2, sd2, S2, rfl, st2, r2, q2⟩
  by_cases hlt : i < ds.length
  · obtain ⟨d, hd, hdr⟩ := drop_cons hlt
    rw [hdr] at q2
    refine .inr ⟨Y.go w2 i st2 hlt, _, fun σ' H' hN => ⟨ds.length - (i + 1), by omega, hN⟩, fun x H' hy => ?_⟩
    obtain ⟨w3, rfl, e3, s3, rx⟩ := Y.yld w2 i d x H' S2 st2 r2.st hd hy
    have r3 := r2.step e3 s3
    refine ⟨w0, w3, sd2, S2, d, rfl, r3, rx, ?_⟩
    unfold loopS at q2
    rcases ht : t d sd2 S2 with _ | ⟨sd4, S4⟩
    · rw [ht] at q2; exact q2
    · rw [ht] at q2
      simp only at q2
      intro w4 σ4 st4 r4 _
      refine ⟨w0, w4, sd4, S4, rfl, r4, ?_⟩
      have st24 : Stay w2 w4 := (e3.stay r2.st.dj).trans st4
      rcases hb : fb sd4 S4 with _ | ⟨_ | _ | _ | _ | _, S5⟩
      · rw [hb] at q2; exact q2
      · rw [hb] at q2
        exact fun w5 σ5 st5 r5 => ⟨rfl, hlt, w5, _, S5, rfl, st2.trans (st24.trans st5), r5, FinS.stay (st24.trans st5) q2⟩
      · rw [hb] at q2; exact q2
      · rw [hb] at q2
        exact fun w5 σ5 st5 r5 => q2 w5 σ5 (st24.trans st5) r5
      · rw [hb] at q2
        exact fun w5 σ5 st5 r5 => ⟨rfl, hlt, w5, _, S5, rfl, st2.trans (st24.trans st5), r5, FinS.stay (st24.trans st5) q2⟩
      · rw [hb] at q2
        exact fun w5 σ5 cl y st5 r5 => q2 w5 σ5 cl y (st24.trans st5) r5
  · have e : i = ds.length := by omega
    subst e
    rw [List.drop_length] at q2
    exact .inl ⟨Y.stop w2 _ st2 (Nat.le_refl _), q2 w2 σ2 (Stay.refl _) r2⟩
def iterS (c : List SV → M Bool) (body : MS) : Nat → MS
  | 0 => stuckS
  | n + 1 => exS c fun b => if b = true then (fun sd S => match body sd S with
      | some (.next sd2, S2) => iterS c body n sd2 S2
      | some (.cont sd2, S2) => iterS c body n sd2 S2
      | some (.brk sd2, S2) => some (.next sd2, S2)
      | o => o) else nextS
def bigW : Nat := 2 ^ 64
def whileS (c : List SV → M Bool) (body : MS) : MS := iterS c body bigW
theorem s_while {cond : Expr} {body : List Stmt} {f : List SV → M Bool} {fb : MS} {pos : Pos} (c : Ctx G X W k) (hc : PB G X W cond f) (hb : PSsV G X W body fb) : PSV G X W (.While cond body [] pos) (whileS f fb) := by
  refine PS.imp (ps_while c.po hc hb) fun En σ H q => ?_
  obtain ⟨w0, w, sd, S, e, r, q⟩ := q
  refine ⟨fun m σ H => ∃ w sd S, w.H = H ∧ R G w0 w sd S σ ∧ FinS G W w0 w En (iterS f fb m sd S), ⟨bigW, w, sd, S, e, r, q⟩, ?_⟩
  rintro m σ1 H1 ⟨w1, sd1, S1, rfl, r1, q1⟩
  cases m with
  | zero => exact q1.elim
  | succ m =>
    unfold iterS at q1
    refine ⟨w0, w1, sd1, S1, rfl, r1, exS_step q1 r1 fun w2 S2 d v e2 r2 rv q2 => ?_⟩
    cases (show v = d from rv)
    cases d with
    | false => exact q2 w2 σ1 (Stay.refl _) r2
    | true =>
      refine ⟨_, fun σ' H' hN => ⟨m, Nat.lt_succ_self _, hN⟩, w0, w2, sd1, S2, rfl, r2, ?_⟩
      have q2 : FinS G W w0 w2 En (match fb sd1 S2 with
        | some (.next sd2, S2) => iterS f fb m sd2 S2
        | some (.cont sd2, S2) => iterS f fb m sd2 S2
        | some (.brk sd2, S2) => some (.next sd2, S2)
        | o => o) := q2
      rcases hb : fb sd1 S2 with _ | ⟨_ | _ | _ | _ | _, S5⟩
      · rw [hb] at q2; exact q2
      · rw [hb] at q2
        exact fun w5 σ5 st5 r5 => ⟨w5, _, S5, rfl, r5, FinS.stay st5 q2⟩
      · rw [hb] at q2; exact q2
      · rw [hb] at q2
        exact fun w5 σ5 st5 r5 => q2 w5 σ5 st5 r5
      · rw [hb] at q2
        exact fun w5 σ5 st5 r5 => ⟨w5, _, S5, rfl, r5, FinS.stay st5 q2⟩
      · rw [hb] at q2
        exact fun w5 σ5 cl y st5 r5 => q2 w5 σ5 cl y st5 r5
end
end Ev
set_option maxRecDepth 100000
set_option maxHeartbeats 2000000
namespace Ev
open PySem PySem.Spec PyProof.Rows L2
def Wd.wr (w : Wd) (p : Addr) (o : HO) : Wd := ⟨w.m, w.F, upd w.H p o, w.x⟩
def Wd.fz (w : Wd) (p : Addr) : Wd := ⟨w.m, fun a => w.F a ∨ a = p, w.H, w.x⟩
section
variable {G : Sg} {w w1 : Wd} {S : List Ob} {p : Addr} {o : HO}
theorem Stay.wr (h : ¬ w.F p) : Stay w (w.wr p o) := ⟨⟨[], by simp [Wd.wr]⟩, fun _ z => z, fun a u f z => by
  show upd w.H p o a = some u
  rw [upd_ne (fun e => h (by rw [← e]; exact f))]; exact z⟩
theorem RepS.wr (s : RepS G w S) (hf : ¬ w.F p) (hm : p ∉ w.m) : RepS G (w.wr p o) S := by
  refine ⟨s.len, s.nd, s.dj, fun a h => ?_, fun n a u h1 h2 => ?_⟩
  · show upd w.H p o a ≠ none
    rw [upd_ne (fun e => hf (by rw [← e]; exact h))]
    exact s.fh a h
  · have ne : a ≠ p := fun z => hm (z ▸ List.mem_of_getElem? h1)
    exact RepO.to (upd_ne ne) (Stay.wr hf) (s.ob n a u h1 h2)
theorem Ext.wr (e : Ext w1 w) (hp : w1.H p = none) : Ext w1 (w.wr p o) := by
  refine ⟨e.m, e.F, fun b u hm h => ?_, e.nm, e.nF, fun b h => ?_⟩
  · show upd w.H p o b = some u
    rw [upd_ne (fun z => by rw [z, hp] at h; cases h)]
    exact e.H b u hm h
  · have h : upd w.H p o b = none := h
    by_cases z : b = p
    · rw [z]; exact hp
    · rw [upd_ne z] at h
      exact e.al b h
theorem Stay.fz : Stay w (w.fz p) := ⟨⟨[], by simp [Wd.fz]⟩, fun _ z => .inl z, fun _ _ _ z => z⟩
theorem RepS.fz (s : RepS G w S) (hm : p ∉ w.m) (hh : w.H p ≠ none) : RepS G (w.fz p) S := by
  refine ⟨s.len, s.nd, fun a h => ?_, fun a h => ?_, fun n a u h1 h2 => RepO.to (w := w) (w' := w.fz p) rfl Stay.fz (s.ob n a u h1 h2)⟩
  · rcases h with h | h
    · exact s.dj a h
    · rw [h]; exact hm
  · rcases h with h | h
    · exact s.fh a h
    · rw [h]; exact hh
theorem Ext.fz (e : Ext w1 w) (hp : w1.H p = none) : Ext w1 (w.fz p) := by
  refine ⟨e.m, fun a h => .inl (e.F a h), e.H, e.nm, fun b h => ?_, e.al⟩
  rcases h with h | h
  · exact e.nF b h
  · exact .inr (h ▸ hp)
end
abbrev TgP : Type := D → List SV → Option (List SV)
abbrev TgPs : Type := List D → List SV → Option (List SV)
def FinP (G : Sg) (w0 w : Wd) (S : List Ob) (σ : L2.St) (ts : List Nat) (Q : L2.St → Hp → Prop) : Option (List SV) → Prop
  | none => False
  | some sd => ∀ σ', R G w0 w sd S σ' → (∀ i, i ∉ ts → σ'[i]? = σ[i]?) → σ'.length = σ.length → Q σ' w.H
def tgP (G : Sg) (ts : List Nat) (f : TgP) : TG := fun v σ H Q => ∃ w0 w sd S d, w.H = H ∧ R G w0 w sd S σ ∧ RepV G w d v ∧ FinP G w0 w S σ ts Q (f d sd)
def tgPs (G : Sg) (ts : List Nat) (n : Nat) (f : TgPs) : TGs := fun vs σ H Q => ∃ w0 w sd S ds, w.H = H ∧ R G w0 w sd S σ ∧ RepVs G w ds vs ∧ ds.length = n ∧ FinP G w0 w S σ ts Q (f ds sd)
abbrev PGP (G : Sg) (X : Cx) (ts : List Nat) (t : Expr) (f : TgP) : Prop := PG X t (tgP G ts f)
abbrev PGPs (G : Sg) (X : Cx) (ts : List Nat) (n : Nat) (t : List Expr) (f : TgPs) : Prop := PGs X t (tgPs G ts n f)
def nmP (i : Nat) : TgP := fun d sd => some (sd.set i (.val d))
def consP (f : TgP) (g : TgPs) : TgPs := fun ds sd => match ds with
  | [] => none
  | d :: ds => match f d sd with
    | none => none
    | some sd1 => g ds sd1
def tupP (n : Nat) (g : TgPs) : TgP := fun d sd => match d with
  | .tup ds => if ds.length = n then g ds sd else none
  | .lst ds => if ds.length = n then g ds sd else none
  | _ => none
section
variable {G : Sg} {X : Cx} {W : WX} {k : Nat} {w0 w : Wd}
theorem p_name {i : Nat} {x : Str} {pos : Pos} (hN : X.N.Nodup) (hi : X.N[i]? = some x) (hx : Loc X.env.scope x) (hf : X.fn x = true ∨ X.env.scope.names.lookup x = some .local) : PGP G X [i] (.Name x pos) (nmP i) := by
  refine PG.imp (pg_name hN hi hx hf) fun v σ H Q q => ?_
  obtain ⟨w0, w, sd, S, d, e, r, rv, q⟩ := q
  subst e
  refine q (σ.set i (some v)) (r.setv rv i) (fun j hj => ?_) (List.length_set ..)
  rw [List.getElem?_set_ne (fun z => hj (by rw [z]; exact List.mem_cons_self))]
theorem ps_nilP : PGPs G X [] 0 [] (fun _ sd => some sd) := by
  refine PGs.imp pgs_nil fun vs σ H Q q => ?_
  obtain ⟨w0, w, sd, S, ds, e, r, rv, hl, q⟩ := q
  subst e
  have ed : ds = [] := List.eq_nil_of_length_eq_zero hl
  subst ed
  exact ⟨rv, q σ r (fun _ _ => rfl) rfl⟩
theorem ps_consP {ts us : List Nat} {n : Nat} {e : Expr} {es : List Expr} {f : TgP} {g : TgPs} (h1 : PGP G X ts e f) (h2 : PGPs G X us n es g) (hs : notStar e = true) : PGPs G X (ts ++ us) (n + 1) (e :: es) (consP f g) := by
  refine PGs.imp (pgs_cons h1 h2 (by rw [assignEach_cons hs]; rfl)) fun vs σ H Q q => ?_
  obtain ⟨w0, w, sd, S, ds, e, r, rv, hl, q⟩ := q
  subst e
  cases ds with
  | nil => exact q.elim
  | cons d ds =>
    obtain ⟨v, vr, ev, rd, rr⟩ := rv
    refine ⟨v, vr, ev, w0, w, sd, S, d, rfl, r, rd, ?_⟩
    unfold consP at q
    simp only at q
    rcases hf : f d sd with _ | sd1
    · rw [hf] at q; exact q
    · rw [hf] at q
      simp only at q
      intro σ1 r1 k1 l1
      refine ⟨w0, w, sd1, S, ds, rfl, r1, rr, by simpa using hl, ?_⟩
      rcases hg : g ds sd1 with _ | sd2
      · rw [hg] at q; exact q
      · rw [hg] at q
        intro σ2 r2 k2 l2
        refine q σ2 r2 (fun i hi => ?_) (l2.trans l1)
        rw [k2 i (fun z => hi (List.mem_append_right _ z)), k1 i (fun z => hi (List.mem_append_left _ z))]
theorem p_tup {ts : List Nat} {es : List Expr} {j n : Nat} {g : TgPs} {pos : Pos} (cK : G.K = X.K) (hc : X.calm = true) (h : PGPs G X ts n es g) (hs : es.all notStar = true) (hn : es.length = n) : PGP G X ts (.Tuple es j pos) (tupP n g) := by
  have hl := assignEach_len (env := X.env) hs
  refine PG.imp (PG.or (pg_tup hc h (hl.1.trans hn) hl.2) (pg_lst hc h (hl.1.trans hn) hl.2)) fun v σ H Q q => ?_
  obtain ⟨w0, w, sd, S, d, e, r, rv, q⟩ := q
  subst e
  cases d with
  | tup ds =>
    obtain ⟨a, vs, ev, ha, rs⟩ := rv
    by_cases hd : ds.length = n
    · simp only [tupP, if_pos hd] at q
      exact .inl ⟨a, vs, ev, sqT_of cK ha, by rw [← rs.length]; exact hd, w0, w, sd, S, ds, rfl, r, rs, hd, q⟩
    · simp only [tupP, if_neg hd] at q
      exact q.elim
  | lst ds =>
    obtain ⟨a, vs, ev, fa, ha, rs⟩ := rv
    by_cases hd : ds.length = n
    · simp only [tupP, if_pos hd] at q
      exact .inr ⟨a, vs, ev, .of ha, by rw [← rs.length]; exact hd, w0, w, sd, S, ds, rfl, r, rs, hd, q⟩
    · simp only [tupP, if_neg hd] at q
      exact q.elim
  | _ => exact q.elim
def wipeD (sd : List SV) : List Nat → List SV
  | [] => sd
  | v :: vs => (wipeD sd vs).set v .no
theorem R.setno {sd : List SV} {S : List Ob} {σ : L2.St} (r : R G w0 w sd S σ) (i : Nat) : R G w0 w (sd.set i .no) S (σ.set i none) := by
  have key : ∀ {j : Nat} {x : SV}, (sd.set i .no)[j]? = some x → x ≠ .no → j ≠ i ∧ sd[j]? = some x := fun {j x} h hx => by
    by_cases e : i = j
    · subst e
      by_cases l : i < sd.length
      · rw [List.getElem?_set_self l] at h
        cases h
        exact absurd rfl hx
      · rw [List.getElem?_eq_none (by simpa using l)] at h
        cases h
    · rw [List.getElem?_set_ne e] at h
      exact ⟨fun z => e z.symm, h⟩
  refine ⟨r.ex, r.st, by rw [List.length_set, List.length_set]; exact r.ln, fun j x h => ?_, fun j o h => ?_, fun j1 j2 o o' a h1 h2 h3 h4 => ?_, fun a o e h => by
    obtain ⟨ne, h⟩ := key h (fun z => nomatch z)
    rw [List.getElem?_set_ne (fun z => ne z.symm)]
    exact r.sf a o e h⟩
  · obtain ⟨ne, h⟩ := key h (fun z => nomatch z)
    rw [List.getElem?_set_ne (fun z => ne z.symm)]
    exact r.vl j x h
  · obtain ⟨ne, h⟩ := key h (fun z => nomatch z)
    rw [List.getElem?_set_ne (fun z => ne z.symm)]
    exact r.ow j o h
  · obtain ⟨n1, h1⟩ := key h1 (fun z => nomatch z)
    obtain ⟨n2, h2⟩ := key h2 (fun z => nomatch z)
    rw [List.getElem?_set_ne (fun z => n1 z.symm)] at h3
    rw [List.getElem?_set_ne (fun z => n2 z.symm)] at h4
    exact r.ap j1 j2 o o' a h1 h2 h3 h4
theorem R.wipe {sd : List SV} {S : List Ob} {σ : L2.St} (r : R G w0 w sd S σ) : ∀ vs : List Nat, R G w0 w (wipeD sd vs) S (wipe σ vs)
  | [] => r
  | v :: vs => (R.wipe r vs).setno v
theorem wipe_get (σ : L2.St) : ∀ (vs : List Nat) (j : Nat), (wipe σ vs)[j]? = if j ∈ vs then (if j < σ.length then some none else none) else σ[j]?
  | [], j => by simp [wipe]
  | v :: vs, j => by
    unfold wipe
    by_cases e : v = j
    · subst e
      rw [if_pos List.mem_cons_self]
      by_cases l : v < σ.length
      · rw [List.getElem?_set_self (by rw [wipe_length]; exact l), if_pos l]
      · rw [List.getElem?_eq_none (by rw [List.length_set, wipe_length]; omega), if_neg l]
    · rw [List.getElem?_set_ne e, wipe_get σ vs j]
      have : (j ∈ v :: vs) ↔ j ∈ vs := by simp [Ne.symm e, eq_comm, show ¬ j = v from fun z => e z.symm]
      by_cases hj : j ∈ vs
      · rw [if_pos hj, if_pos (this.mpr hj)]
      · rw [if_neg hj, if_neg (fun z => hj (this.mp z))]
theorem wipe_same {σ σ' : L2.St} {ts vs : List Nat} (h : ∀ i, i ∉ ts → σ'[i]? = (wipe σ vs)[i]?) (hl : σ'.length = (wipe σ vs).length) (hs : ∀ i ∈ ts, i ∈ vs) : wipe σ' vs = wipe σ vs := by
  refine List.ext_getElem? fun j => ?_
  rw [wipe_get σ' vs j, hl, wipe_length]
  by_cases hj : j ∈ vs
  · rw [if_pos hj, wipe_get σ vs j, if_pos hj]
  · rw [if_neg hj]
    exact h j fun z => hj (hs j z)
theorem fin_split {α β γ δ : Type} {G : Sg} {rep : Wd → α → β → Prop} {rep' : Wd → γ → δ → Prop} {W W' : Value → Option Addr → Hp → Prop} {wA wB : Wd} {Q : β → Hp → Prop} {Q' : δ → Hp → Prop} {f : M α} {k : α → M γ} {S : List Ob}
    (h : FinG G rep' W wA Q' (M.bind (noErr f) k S)) (c : ∀ w' S1 d v, Ext wB w' → RepS G w' S1 → rep w' d v → FinG G rep' W wA Q' (k d S1) → Q v w'.H) : FinG G rep W' wB Q (f S) := by
  unfold M.bind noErr at h
  rcases hf : f S with _ | ⟨_ | d, S1⟩
  · rw [hf] at h; exact h.elim
  · rw [hf] at h; exact h.elim
  · rw [hf] at h
    exact fun w' v e s r => c w' S1 d v e s r h
abbrev NoW : WX := fun _ _ _ _ => False
def compS (t : TgP) (tt : List SV → M Bool) (fe : List SV → M D) (sdw : List SV) : List D → List D → M (List D)
  | [], acc => M.pure acc
  | d :: ds, acc => match t d sdw with
    | none => M.stuck
    | some sd1 => M.bind (noErr (tt sd1)) fun b => if b = true then M.bind (noErr (fe sd1)) fun y => if acc.length < lim then compS t tt fe sdw ds (acc ++ [y]) else M.stuck else compS t tt fe sdw ds acc
def lcS (fi : List SV → M (List D)) (vs : List Nat) (t : TgP) (tt : List SV → M Bool) (fe : List SV → M D) : List SV → M D := fun sd => M.bind (fi sd) fun ds => M.bind (compS t tt fe (wipeD sd vs) ds []) fun acc => M.pure (.lst acc)
abbrev PTsV (G : Sg) (X : Cx) (W : WX) (es : List Expr) (f : List SV → M Bool) : Prop := PTs X es (teB G W f)
theorem PTs.imp {X : Cx} {e : List Expr} {t t' : TT} (h : PTs X e t) (i : ∀ σ H Q, t' σ H Q → t σ H Q) : PTs X e t' := ⟨fun p s σ H Q I q => h.run p s σ H Q I (i σ H Q q)⟩
theorem t_nil : PTsV G X W [] (fun _ => M.pure true) := by
  refine PTs.imp pts_nil fun σ H Q h => ?_
  obtain ⟨w0, w, sd, S, e, r, q⟩ := h
  subst e
  exact fin_pure q r.st rfl
theorem t_one {c : Expr} {f : List SV → M Bool} (h : PB G X W c f) : PTsV G X W [c] f := pts_one h
theorem lc_read {fi : List SV → M (List D)} {ts vs : List Nat} {t : TgP} {tt : List SV → M Bool} {fe : List SV → M D} (hts : ∀ i ∈ ts, i ∈ vs) {σ : L2.St} {H : Hp} {Q : VK} (h : teV G W (lcS fi vs t tt fe) σ H Q) :
    tLc (fun σ H Rr => teG G (Yld G) W fi σ H Rr) (tgP G ts t) (teB G NoW tt) (teV G NoW fe) vs σ H Q := by
  obtain ⟨w0, w, sd, S, e, r, q⟩ := h
  refine ⟨w0, w, sd, S, e, r, fin_step q fun w1 S1 ds J e1 s1 Y q1 => ?_⟩
  intro L hL
  have r1 := (r.step e1 s1).wipe vs
  have dj1 := s1.dj
  refine ⟨fun i m H => m = ds.length - i ∧ i ≤ ds.length ∧ ∃ w2 S2 acc xs, w2.H = H ∧ Ext w1 w2 ∧ RepS G w2 S2 ∧ w2.H L = some (.lst xs) ∧ RepVs G w2 acc xs ∧ ¬ w2.F L ∧ L ∉ w2.m ∧
    FinG G (RepV G) (fun c x H => W c x σ H) w1 Q (M.bind (compS t tt fe (wipeD sd vs) (ds.drop i) acc) (fun acc => M.pure (.lst acc)) S2),
    ⟨_, rfl, Nat.zero_le _, w1.new L (.lst []), S1, [], [], rfl, Ext.new hL, s1.new hL, upd_same, rfl, fun z => s1.fh L z hL, fun z => s1.there z hL, q1⟩, ?_⟩
  rintro i m H2 ⟨rfl, hi2, w2, S2, acc, xs, rfl, e2, s2, hx2, ra, nF, nm, q2⟩
  by_cases hlt : i < ds.length
  · obtain ⟨d, hd, hdr⟩ := drop_cons hlt
    rw [hdr] at q2
    have st2 := e2.stay dj1
    refine .inr ⟨Y.go w2 i st2 hlt, _, fun H' hN => ⟨ds.length - (i + 1), by omega, hN⟩, fun x H' hy => ?_⟩
    obtain ⟨w3, rfl, e3, s3, rx⟩ := Y.yld w2 i d x H' S2 st2 s2 hd hy
    have r3 := r1.step (e2.trans e3) s3
    refine ⟨w0, w3, _, S2, d, rfl, r3, rx, ?_⟩
    unfold compS at q2
    rcases ht : t d (wipeD sd vs) with _ | sd4
    · rw [ht] at q2; exact q2.elim
    · rw [ht] at q2
      simp only at q2
      intro σ4 r4 k4 l4
      refine ⟨wipe_same k4 l4 hts, ?_⟩
      rw [M.bind_assoc] at q2
      refine ⟨w0, w3, sd4, S2, rfl, r4, ?_⟩
      refine fin_split q2 fun w5 S5 b b' e5 s5 rb q5 => ?_
      cases (show b' = b from rb)
      have hx : ∀ {wz : Wd}, Ext w3 wz → wz.H L = some (.lst xs) ∧ RepVs G wz acc xs ∧ ¬ wz.F L ∧ L ∉ wz.m := fun {wz} ez => by
        have e23 := e3.trans ez
        refine ⟨e23.H L _ nm hx2, RepVs.mono e23 s2.dj _ _ ra, fun z => ?_, fun z => ?_⟩
        · rcases e23.nF L z with z | z
          · exact nF z
          · rw [hx2] at z; cases z
        · rcases e23.nm L z with z | z
          · exact nm z
          · rw [hx2] at z; cases z
      cases b with
      | false =>
        obtain ⟨h1, h2, h3, h4⟩ := hx e5
        exact ⟨rfl, hlt, w5, S5, acc, xs, rfl, e2.trans (e3.trans e5), s5, h1, h2, h3, h4, q5⟩
      | true =>
        have q5 : FinG G (RepV G) (fun c x H => W c x σ H) w1 Q (M.bind (M.bind (noErr (fe sd4)) fun y => if acc.length < lim then compS t tt fe (wipeD sd vs) (ds.drop (i + 1)) (acc ++ [y]) else M.stuck) (fun acc => M.pure (.lst acc)) S5) := q5
        rw [M.bind_assoc] at q5
        refine ⟨w0, w5, sd4, S5, rfl, r4.step e5 s5, fin_split q5 fun w6 S6 y v e6 s6 ry q6 => ?_⟩
        obtain ⟨h1, h2, h3, h4⟩ := hx (e5.trans e6)
        rw [M.bind_ite] at q6
        obtain ⟨c6, q6⟩ := FinG.ite q6
        have e16 : Ext w1 w6 := e2.trans (e3.trans (e5.trans e6))
        refine ⟨xs, h1, by rw [← h2.length, ← lim_eq]; exact c6, rfl, hlt, w6.wr L (.lst (xs ++ [v])), S6, acc ++ [y], xs ++ [v], rfl, Ext.wr e16 hL, s6.wr h3 h4, upd_same, ?_, h3, h4, q6⟩
        exact RepVs.append (RepVs.stay (Stay.wr h3) _ _ h2) (RepVs.one (RepV.stay (Stay.wr h3) _ _ ry))
  · have e : i = ds.length := by omega
    subst e
    rw [List.drop_length] at q2
    refine .inl ⟨Y.stop w2 _ (e2.stay dj1) (Nat.le_refl _), ?_⟩
    refine q2 (w2.fz L) _ (Ext.fz e2 hL) (s2.fz nm (by rw [hx2]; exact fun z => nomatch z)) ⟨L, xs, rfl, .inr rfl, hx2, RepVs.stay Stay.fz _ _ ra⟩
theorem v_lc {elt tg iter : Expr} {ifs : List Expr} {scope : Scope} {own : List (Str × Nat)} {pos : Pos} {fi : List SV → M (List D)} {ts : List Nat} {t : TgP} {tt : List SV → M Bool} {fe : List SV → M D} (c : Ctx G X W k) (hi : PIV G X W tg iter fi) (ok : BlkOk X.N X.env.scope scope own)
    (hg : ∀ (s : Shared) (H : Hp) (C : Addr) (cl : List (Str × Addr)) (fp : List Addr), PGP G (X.blk s H scope (compEnvC scope cl C X.env) fp) ts tg t) (ht : ∀ (s : Shared) (H : Hp) (C : Addr) (cl : List (Str × Addr)) (fp : List Addr), PTsV G (X.blk s H scope (compEnvC scope cl C X.env) fp) NoW ifs tt)
    (he : ∀ (s : Shared) (H : Hp) (C : Addr) (cl : List (Str × Addr)) (fp : List Addr), PV G (X.blk s H scope (compEnvC scope cl C X.env) fp) NoW elt fe) (hs : setFree iter = true) (hts : ∀ i ∈ ts, i ∈ own.map (·.2)) :
    PV G X W (.ListComp elt [⟨tg, iter, ifs, 0⟩] scope pos) (lcS fi (own.map (·.2)) t tt fe) :=
  PE.imp (pe_lc c.calm c.nd hi ok hg ht he (set_free hs)) fun σ H Q h => lc_read hts h
theorem s_lc {i : Nat} {y : Str} {py : Pos} {elt tg iter : Expr} {ifs : List Expr} {scope : Scope} {own : List (Str × Nat)} {pos spos : Pos} {fi : List SV → M (List D)} {ts : List Nat} {t : TgP} {tt : List SV → M Bool} {fe : List SV → M D} (c : Ctx G X W k) (hy : X.N[i]? = some y) (hyl : X.env.scope.names.lookup y = some .local)
    (hsw : swapsWith (.ListComp elt [⟨tg, iter, ifs, 0⟩] scope pos) (some (.Name y py)) spos.line X.env = pure true) (hi : PIV G X W tg iter fi) (ok : BlkOk X.N X.env.scope scope own)
    (hg : ∀ (s : Shared) (H : Hp) (C : Addr) (cl : List (Str × Addr)) (fp : List Addr), PGP G (X.blk s H scope (compEnvC scope cl C X.env) fp) ts tg t) (ht : ∀ (s : Shared) (H : Hp) (C : Addr) (cl : List (Str × Addr)) (fp : List Addr), PTsV G (X.blk s H scope (compEnvC scope cl C X.env) fp) NoW ifs tt)
    (he : ∀ (s : Shared) (H : Hp) (C : Addr) (cl : List (Str × Addr)) (fp : List Addr), PV G (X.blk s H scope (compEnvC scope cl C X.env) fp) NoW elt fe) (hs : setFree iter = true) (hts : ∀ i ∈ ts, i ∈ own.map (·.2)) :
    PSV G X W (.Assign [.Name y py] (.ListComp elt [⟨tg, iter, ifs, 0⟩] scope pos) spos) (asgS (lcS fi (own.map (·.2)) t tt fe) (setT i)) := by
  refine PS.imp (ps_setLc c.calm c.nd hy hyl hsw hi ok hg ht he (set_free hs)) fun En σ H h => ?_
  obtain ⟨w0, w, sd, S, e, r, q⟩ := h
  refine lc_read (W := W) (G := G) hts (Q := fun x H1 => En.nx (σ.set i (some x)) H1) ⟨w0, w, sd, S, e, r, exS_step q r fun w1 S1 d v e1 r1 rv q1 => ?_⟩
  exact q1 w1 (σ.set i (some v)) (Stay.refl w1) (r1.setv rv i)
theorem Ctx.blk (c : Ctx G X W k) (s : Shared) (H : Hp) (scope : Scope) (cenv : Env) (fp : List Addr) : Ctx G (X.blk s H scope cenv fp) NoW k :=
  ⟨c.cK, c.calm, c.rm, c.nd, fun σ pins H s e s' I c => by
    obtain ⟨_, _, _, _, _, _, _, _, _, _, _, _, z⟩ := c
    exact z.elim, PassesOwn.never⟩
end
end Ev
set_option maxRecDepth 100000
set_option maxHeartbeats 2000000
namespace Ev
open PySem PySem.Spec PyProof.Rows L2
mutual
def toP : D → Option PyData
  | .non => some .none
  | .bl b => some (.bool b)
  | .int i => some (.int i)
  | .str x => some (.str x)
  | .tup ds => (toPs ds).map .tuple
  | .lst ds => (toPs ds).map .list
  | .scr ds => (toPs ds).map .list
  | .dct _ _ => none
  | .ins _ _ => none
  | .ref _ => none
  | .ty _ => none
  | .cls _ => none
  | .raw _ _ _ _ => none
def toPs : List D → Option (List PyData)
  | [] => some []
  | d :: ds => match toP d, toPs ds with
    | some p, some ps => some (p :: ps)
    | _, _ => none
end
section
variable {G : Sg} {X : Cx} {W : WX} {k : Nat} {w : Wd}
mutual
theorem toP_dp (cK : G.K = X.K) : ∀ (d : D) (v : V) (p : PyData), RepV G w d v → toP d = some p → Dp X.K w.H v p
  | .non, v, p, r, h => by cases h; cases (show v = .non from r); exact .non
  | .bl b, v, p, r, h => by cases h; cases (show v = .bl b from r); exact .bl b
  | .int i, v, p, r, h => by cases h; cases (show v = .int i from r); exact .int i
  | .str x, v, p, r, h => by cases h; cases (show v = .str x from r); exact .str x
  | .tup ds, v, p, r, h => by
    obtain ⟨a, vs, e, hh, rs⟩ := r
    subst e
    unfold toP at h
    obtain ⟨ps, h1, h2⟩ := Option.map_eq_some_iff.mp h
    subst h2
    exact .tup (sqT_of cK hh) (toPs_dp cK ds vs ps rs h1)
  | .lst ds, v, p, r, h => by
    obtain ⟨a, vs, e, fa, hh, rs⟩ := r
    subst e
    unfold toP at h
    obtain ⟨ps, h1, h2⟩ := Option.map_eq_some_iff.mp h
    subst h2
    exact .lst (.of hh) (toPs_dp cK ds vs ps rs h1)
  | .scr ds, v, p, r, h => by
    obtain ⟨a, vs, e, hh, rs⟩ := r
    subst e
    unfold toP at h
    obtain ⟨ps, h1, h2⟩ := Option.map_eq_some_iff.mp h
    subst h2
    exact .lst (sqL_of cK hh) (toPs_dp cK ds vs ps rs h1)
  | .dct _ _, _, _, _, h => by unfold toP at h; cases h
  | .ins _ _, _, _, _, h => by unfold toP at h; cases h
  | .ref _, _, _, _, h => by unfold toP at h; cases h
  | .ty _, _, _, _, h => by unfold toP at h; cases h
  | .cls _, _, _, _, h => by unfold toP at h; cases h
  | .raw _ _ _ _, _, _, _, h => by unfold toP at h; cases h
theorem toPs_dp (cK : G.K = X.K) : ∀ (ds : List D) (vs : List V) (ps : List PyData), RepVs G w ds vs → toPs ds = some ps → DpAll X.K w.H vs ps
  | [], vs, ps, r, h => by unfold toPs at h; cases h; cases (show vs = [] from r); exact .nil
  | d :: ds, vs, ps, r, h => by
    obtain ⟨v, t, e, h1, h2⟩ := r
    subst e
    unfold toPs at h
    rcases hp : toP d with _ | p
    · rw [hp] at h; cases h
    · rcases hq : toPs ds with _ | qs
      · rw [hp, hq] at h; cases h
      · rw [hp, hq] at h
        cases h
        exact .cons (toP_dp cK d v p h1 hp) (toPs_dp cK ds t qs h2 hq)
end
def dEq (neg : Bool) : D → D → M D
  | .int i, .int j => M.pure (.bl (if neg then !decide (i = j) else decide (i = j)))
  | .str i, .str j => M.pure (.bl (if neg then !decide (i = j) else decide (i = j)))
  | .bl i, .bl j => M.pure (.bl (if neg then !decide (i = j) else decide (i = j)))
  | d, e => match toP d, toP e with
    | some p, some q => if SeqAt.shaped p = true ∧ SeqAt.shaped q = true then M.pure (.bl (if neg then !PyData.eqv p q else PyData.eqv p q)) else M.stuck
    | _, _ => M.stuck
theorem FinG.stuck {α β : Type} {rep : Wd → α → β → Prop} {W : Value → Option Addr → Hp → Prop} {w : Wd} {Q : β → Hp → Prop} {S : List Ob} {P : Prop} (h : FinG G rep W w Q ((M.stuck : M α) S)) : P := h.elim
theorem eq_gen (cK : G.K = X.K) {W' : Value → Option Addr → Hp → Prop} {S : List Ob} {d e : D} {v u : V} {Q : VK} {neg : Bool} (s : RepS G w S) (r1 : RepV G w d v) (r2 : RepV G w e u)
    (q : FinG G (RepV G) W' w Q ((match toP d, toP e with
      | some p, some q => if SeqAt.shaped p = true ∧ SeqAt.shaped q = true then M.pure (.bl (if neg then !PyData.eqv p q else PyData.eqv p q)) else M.stuck
      | _, _ => M.stuck : M D) S)) : ∃ p q, Dp X.K w.H v p ∧ Dp X.K w.H u q ∧ SeqAt.shaped p = true ∧ SeqAt.shaped q = true ∧ Q (.bl (if neg then !PyData.eqv p q else PyData.eqv p q)) w.H := by
  rcases hp : toP d with _ | p
  · rw [hp] at q; exact q.elim
  · rcases hq : toP e with _ | p'
    · rw [hp, hq] at q; exact q.elim
    · rw [hp, hq] at q
      obtain ⟨⟨c1, c2⟩, q⟩ := FinG.ite q
      exact ⟨p, p', toP_dp cK d v p r1 hp, toP_dp cK e u p' r2 hq, c1, c2, fin_pure (b := V.bl _) q s rfl⟩
theorem o_eq (cK : G.K = X.K) (hr : Rm G.gd k X.A) : OpR X (compareOp .Eq) (rD2 G (dEq false)) := by
  refine OpR.imp (op_eq.or (op_eqD hr.room.units)) fun v u H Q q => ?_
  obtain ⟨W, w, S, d, e, rfl, s, r1, r2, q⟩ := q
  cases d <;> cases e <;> first
    | (refine .inr ?_
       obtain ⟨p, p', h1, h2, h3, h4, h5⟩ := eq_gen (neg := false) cK s r1 r2 q
       exact ⟨p, p', h1, h2, h3, h4, h5⟩)
    | (cases (show v = _ from r1)
       cases (show u = _ from r2)
       refine .inl ⟨rfl, ?_⟩
       have q2 := fin_pure (b := V.bl _) q s rfl
       simpa using q2)
theorem o_ne (cK : G.K = X.K) (hr : Rm G.gd k X.A) : OpR X (compareOp .NotEq) (rD2 G (dEq true)) := by
  refine OpR.imp (op_ne.or (op_neD hr.room.units)) fun v u H Q q => ?_
  obtain ⟨W, w, S, d, e, rfl, s, r1, r2, q⟩ := q
  cases d <;> cases e <;> first
    | (refine .inr ?_
       obtain ⟨p, p', h1, h2, h3, h4, h5⟩ := eq_gen (neg := true) cK s r1 r2 q
       exact ⟨p, p', h1, h2, h3, h4, h5⟩)
    | (cases (show v = _ from r1)
       cases (show u = _ from r2)
       refine .inl ⟨rfl, ?_⟩
       have q2 := fin_pure (b := V.bl _) q s rfl
       simpa using q2)
def isNonD : D → Bool
  | .non => true
  | .raw u _ _ _ => decide (u = .non)
  | _ => false
theorem isNon_rep {d : D} {v : V} (r : RepV G w d v) : decide (v = .non) = isNonD d := by
  cases d with
  | non => cases (show v = .non from r); rfl
  | bl b => cases (show v = .bl b from r); rfl
  | int b => cases (show v = .int b from r); rfl
  | str b => cases (show v = .str b from r); rfl
  | tup ds => obtain ⟨a, vs, e, _⟩ := r; subst e; rfl
  | lst ds => obtain ⟨a, vs, e, _⟩ := r; subst e; rfl
  | scr ds => obtain ⟨a, vs, e, _⟩ := r; subst e; rfl
  | dct ks ds => obtain ⟨a, vs, e, _⟩ := r; subst e; rfl
  | ins c ds => obtain ⟨a, dx, vs, e, _⟩ := r; subst e; rfl
  | ref n => obtain ⟨a, e, _⟩ := r; subst e; rfl
  | ty t => cases (show v = .ty t.name from r); rfl
  | cls c => cases (show v = .ref (G.ca c) from r); rfl
  | raw u dd fs ds => obtain ⟨e, _⟩ := r; subst e; rfl
def dIs (neg : Bool) : D → D → M D
  | d, .non => M.pure (.bl (if neg then !isNonD d else isNonD d))
  | _, _ => M.stuck
theorem o_is : OpR X (compareOp .Is) (rD2 G (dIs false)) := by
  refine OpR.imp op_isN fun v u H Q q => ?_
  obtain ⟨W, w, S, d, e, rfl, s, r1, r2, q⟩ := q
  cases e with
  | non =>
    have q2 := fin_pure (b := V.bl _) (show FinG G (RepV G) W w Q (M.pure (.bl (isNonD d)) S) by cases d <;> exact q) s rfl
    exact ⟨r2, by rw [isNon_rep r1]; exact q2⟩
  | _ => cases d <;> exact q.elim
def dIx (d e : D) : M D := fun S => match e with
  | .int i => match d with
    | .lst ds => match atI ds i with | some x => some (.ok x, S) | none => none
    | .tup ds => match atI ds i with | some x => some (.ok x, S) | none => none
    | .scr ds => match atI ds i with | some x => some (.ok x, S) | none => none
    | .str z => if z.length ≤ lim then (match atI z.cps.toList i with | some c => some (.ok (.str ⟨#[c]⟩), S) | none => none) else none
    | .ref n => match S[n]? with
      | some (.lst ds) => match atI ds i with | some x => some (.ok x, S) | none => none
      | _ => none
    | _ => none
  | _ => none
theorem atI_rep {ds : List D} {vs : List V} {i : Int} {x : D} (r : RepVs G w ds vs) (h : atI ds i = some x) : ∃ v, atI vs i = some v ∧ RepV G w x v := by
  unfold atI at h ⊢
  rw [r.length] at h
  obtain ⟨j, h1, h2⟩ := Option.bind_eq_some_iff.mp h
  obtain ⟨v, h3, h4⟩ := r.get h2
  exact ⟨v, by rw [h1]; exact h3, h4⟩
theorem ix_D (cK : G.K = X.K) : IxR X (rD2 G dIx) := by
  have base := (ix_list (X := X)).or ((ix_tup (X := X)).or (ix_str (X := X)))
  intro a b pins s σ H x y v u Q I rx ry q
  refine base a b pins s σ H x y v u Q I rx ry ?_
  obtain ⟨W, w, S, d, e, rfl, st, r1, r2, q⟩ := q
  unfold dIx at q
  cases e with
  | int i =>
    cases (show y = .int i from r2)
    cases d with
    | lst ds =>
      obtain ⟨p, vs, rfl, f, hh, rs⟩ := r1
      rcases hx : atI ds i with _ | z
      · simp only [hx] at q; exact q.elim
      · simp only [hx] at q
        obtain ⟨v1, h1, h2⟩ := atI_rep rs hx
        exact .inl ⟨p, vs, i, v1, rfl, rfl, .of hh, h1, fin_pure (a := z) q st h2⟩
    | tup ds =>
      obtain ⟨p, vs, rfl, hh, rs⟩ := r1
      rcases hx : atI ds i with _ | z
      · simp only [hx] at q; exact q.elim
      · simp only [hx] at q
        obtain ⟨v1, h1, h2⟩ := atI_rep rs hx
        exact .inr (.inl ⟨p, vs, i, v1, rfl, rfl, sqT_of cK hh, h1, fin_pure (a := z) q st h2⟩)
    | scr ds =>
      obtain ⟨p, vs, rfl, hh, rs⟩ := r1
      rcases hx : atI ds i with _ | z
      · simp only [hx] at q; exact q.elim
      · simp only [hx] at q
        obtain ⟨v1, h1, h2⟩ := atI_rep rs hx
        exact .inl ⟨p, vs, i, v1, rfl, rfl, sqL_of cK hh, h1, fin_pure (a := z) q st h2⟩
    | str z =>
      cases (show x = .str z from r1)
      by_cases hz : z.length ≤ lim
      · rcases hx : atI z.cps.toList i with _ | c
        · simp only [hx, if_pos hz] at q; exact q.elim
        · simp only [hx, if_pos hz] at q
          exact .inr (.inr ⟨z, i, c, rfl, rfl, by rw [← lim_eq]; exact hz, hx, fin_pure (a := D.str ⟨#[c]⟩) q st rfl⟩)
      · simp only [if_neg hz] at q; exact q.elim
    | ref n =>
      obtain ⟨p, rfl, hm⟩ := r1
      rcases hn : S[n]? with _ | ⟨ds | _ | _ | jt⟩
      · simp only [hn] at q; exact q.elim
      · simp only [hn] at q
        obtain ⟨vs, hh, rs⟩ := st.ob n p _ hm hn
        rcases hx : atI ds i with _ | z
        · simp only [hx] at q; exact q.elim
        · simp only [hx] at q
          obtain ⟨v1, h1, h2⟩ := atI_rep rs hx
          exact .inl ⟨p, vs, i, v1, rfl, rfl, .of hh, h1, fin_pure (a := z) q st h2⟩
      · simp only [hn] at q; exact q.elim
      · simp only [hn] at q; exact q.elim
      · simp only [hn] at q; exact q.elim
    | _ => exact q.elim
  | _ => exact q.elim
def notSlice : Expr → Bool
  | .Slice .. => false
  | _ => true
theorem plain_ix {b : Expr} (h : notSlice b = true) : PlainIx b := by
  intro o i
  cases b <;> first | rfl | cases h
theorem v_ix {a b : Expr} {fa fb : List SV → M D} {pos : Pos} (cK : G.K = X.K) (ha : PV G X W a fa) (hb : PV G X W b fb) (hs : notSlice b = true) : PV G X W (.Subscript a b pos) (fun sd => M.bind (fa sd) fun x => M.bind (fb sd) fun y => dIx x y) := by
  refine PE.imp (pe_ix (ix_D cK) ha hb (plain_ix hs)) fun σ H Q h => ?_
  obtain ⟨w0, w, sd, S, e, r, q⟩ := h
  refine ⟨w0, w, sd, S, e, r, fin_step q fun w1 S1 d v e1 s1 rv q1 => ⟨w0, w1, sd, S1, rfl, r.step e1 s1, fin_step q1 fun w2 S2 d2 v2 e2 s2 rv2 q2 => ?_⟩⟩
  exact ⟨_, w2, S2, d, d2, rfl, s2, RepV.mono e2 s1.dj d v rv, rv2, q2⟩
end
end Ev
set_option maxRecDepth 100000
set_option maxHeartbeats 2000000
namespace Ev
open PySem PySem.Spec PyProof.Rows L2
def rDs (G : Sg) (g : List D → M D) : List V → Hp → VK → Prop := fun vs H Q => ∃ W w S ds, w.H = H ∧ RepS G w S ∧ RepVs G w ds vs ∧ FinG G (RepV G) W w Q (g ds S)
theorem CallR.imp {X : Cx} {f : Value} {r r' : List V → Hp → VK → Prop} (h : CallR X f r) (i : ∀ vs H Q, r' vs H Q → r vs H Q) : CallR X f r' := fun pins s σ H xs us Q I rx q => h pins s σ H xs us Q I rx (i _ _ _ q)
section
variable {G : Sg} {X : Cx} {W : WX} {k n : Nat} {w : Wd} {g : List D → M D}
theorem v_callB {id : String} {x : Str} {p pos : Pos} {e : Expr} {es : List Expr} {fa : List SV → M (List D)} (hc : CallR X (.builtin id) (rDs G g)) (hg : Gl X x) (hm : X.mg x = none) (hv : bootBuiltins x = some (.builtin id)) (ha : PLn G X W n (e :: es) fa) (hs : (e :: es).all notStar = true)
    (hn : x ≠ "__name__") (hd : (x == ("__debug__" : Str)) = false) : PV G X W (.Call (.Name x p) (e :: es) [] pos) (fun sd => M.bind (fa sd) g) := by
  have hs2 : notStar e = true ∧ es.all notStar = true := by simpa using hs
  refine PE.imp (pe_callB hc hg hm hv ha hn hd (starEach_cons hs2.1) (starEach_all hs2.2 pos)) fun σ H Q h => ?_
  obtain ⟨w0, w, sd, S, e, r, q⟩ := h
  exact ⟨w0, w, sd, S, e, r, fin_step q fun w1 S1 ds vs e1 s1 rv q1 => ⟨_, w1, S1, ds, rfl, s1, rv.1, q1⟩⟩
theorem v_callTy {T : String} {x : Str} {p pos : Pos} {e : Expr} {es : List Expr} {fa : List SV → M (List D)} (hc : CallR X (.type T) (rDs G g)) (hg : Gl X x) (hm : X.mg x = none) (hv : bootBuiltins x = some (.type T)) (ha : PLn G X W n (e :: es) fa) (hs : (e :: es).all notStar = true)
    (hn : x ≠ "__name__") (hd : (x == ("__debug__" : Str)) = false) : PV G X W (.Call (.Name x p) (e :: es) [] pos) (fun sd => M.bind (fa sd) g) := by
  have hs2 : notStar e = true ∧ es.all notStar = true := by simpa using hs
  refine PE.imp (pe_callTy hc hg hm hv ha hn hd (starEach_cons hs2.1) (starEach_all hs2.2 pos)) fun σ H Q h => ?_
  obtain ⟨w0, w, sd, S, e, r, q⟩ := h
  exact ⟨w0, w, sd, S, e, r, fin_step q fun w1 S1 ds vs e1 s1 rv q1 => ⟨_, w1, S1, ds, rfl, s1, rv.1, q1⟩⟩
def on1 (g : D → M D) : List D → M D
  | [d] => g d
  | _ => M.stuck
def on2 (g : D → D → M D) : List D → M D
  | [d, e] => g d e
  | _ => M.stuck
theorem on1_of {g : D → M D} {vs : List V} {H : Hp} {Q : VK} (h : rDs G (on1 g) vs H Q) : ∃ W w S d v, w.H = H ∧ RepS G w S ∧ vs = [v] ∧ RepV G w d v ∧ FinG G (RepV G) W w Q (g d S) := by
  obtain ⟨W, w, S, ds, e, s, r, q⟩ := h
  rcases ds with _ | ⟨d, _ | ⟨d2, ds⟩⟩
  · exact q.elim
  · obtain ⟨v, t, ev, h1, h2⟩ := r
    cases (show t = [] from h2)
    exact ⟨W, w, S, d, v, e, s, ev, h1, q⟩
  · exact q.elim
theorem on2_of {g : D → D → M D} {vs : List V} {H : Hp} {Q : VK} (h : rDs G (on2 g) vs H Q) : ∃ W w S d e v u, w.H = H ∧ RepS G w S ∧ vs = [v, u] ∧ RepV G w d v ∧ RepV G w e u ∧ FinG G (RepV G) W w Q (g d e S) := by
  obtain ⟨W, w, S, ds, e, s, r, q⟩ := h
  rcases ds with _ | ⟨d, _ | ⟨d2, _ | ⟨d3, ds⟩⟩⟩
  · exact q.elim
  · exact q.elim
  · obtain ⟨v, t, ev, h1, u, t2, eu, h2, h3⟩ := r
    cases (show t2 = [] from h3)
    exact ⟨W, w, S, d, d2, v, u, e, s, by rw [ev, eu], h1, h2, q⟩
  · exact q.elim
def dLen (d : D) : M D := fun S => match d with
  | .lst ds => some (.ok (.int ds.length), S)
  | .tup ds => some (.ok (.int ds.length), S)
  | .scr ds => some (.ok (.int ds.length), S)
  | .str x => if x.length ≤ lim then some (.ok (.int x.length), S) else none
  | .ref n => match S[n]? with
    | some (.lst ds) => some (.ok (.int ds.length), S)
    | _ => none
  | _ => none
theorem c_len (cK : G.K = X.K) : CallR X (.builtin "len") (rDs G (on1 dLen)) := by
  refine CallR.imp call_len fun vs H Q h => ?_
  obtain ⟨W, w, S, d, v, rfl, s, rfl, r, q⟩ := on1_of h
  unfold dLen at q
  cases d with
  | lst ds =>
    obtain ⟨a, vs, e, f, hh, rs⟩ := r
    exact ⟨v, ds.length, rfl, by subst e; exact .inl ⟨vs, .of hh, rs.length⟩, fin_pure (a := D.int ds.length) q s rfl⟩
  | tup ds =>
    obtain ⟨a, vs, e, hh, rs⟩ := r
    exact ⟨v, ds.length, rfl, by subst e; exact .inr ⟨vs, sqT_of cK hh, rs.length⟩, fin_pure (a := D.int ds.length) q s rfl⟩
  | scr ds =>
    obtain ⟨a, vs, e, hh, rs⟩ := r
    exact ⟨v, ds.length, rfl, by subst e; exact .inl ⟨vs, sqL_of cK hh, rs.length⟩, fin_pure (a := D.int ds.length) q s rfl⟩
  | str x =>
    by_cases hz : x.length ≤ lim
    · simp only [if_pos hz] at q
      exact ⟨v, x.length, rfl, by cases (show v = .str x from r); exact ⟨by rw [← lim_eq]; exact hz, rfl⟩, fin_pure (a := D.int x.length) q s rfl⟩
    · simp only [if_neg hz] at q; exact q.elim
  | ref m =>
    obtain ⟨p, rfl, hm⟩ := r
    rcases hn : S[m]? with _ | ⟨ds | _ | _ | jt⟩
    · simp only [hn] at q; exact q.elim
    · simp only [hn] at q
      obtain ⟨vs, hh, rs⟩ := s.ob m p _ hm hn
      exact ⟨.ref p, ds.length, rfl, .inl ⟨vs, .of hh, rs.length⟩, fin_pure (a := D.int ds.length) q s rfl⟩
    · simp only [hn] at q; exact q.elim
    · simp only [hn] at q; exact q.elim
    · simp only [hn] at q; exact q.elim
  | _ => exact q.elim
def dAbs : D → M D
  | .int i => M.pure (.int (if i < 0 then -i else i))
  | _ => M.stuck
theorem c_abs : CallR X (.builtin "abs") (rDs G (on1 dAbs)) := by
  refine CallR.imp call_abs fun vs H Q h => ?_
  obtain ⟨W, w, S, d, v, rfl, s, rfl, r, q⟩ := on1_of h
  cases d with
  | int i => cases (show v = .int i from r); exact ⟨i, rfl, fin_pure q s rfl⟩
  | _ => exact q.elim
def dMax : D → D → M D
  | .int i, .int j => M.pure (.int (if j > i then j else i))
  | _, _ => M.stuck
def dMin : D → D → M D
  | .int i, .int j => M.pure (.int (if j < i then j else i))
  | _, _ => M.stuck
theorem c_max (hc : X.calm = true) : CallR X (.builtin "max") (rDs G (on2 dMax)) := by
  refine CallR.imp (call_max2 hc) fun vs H Q h => ?_
  obtain ⟨W, w, S, d, e, v, u, rfl, s, rfl, r, r', q⟩ := on2_of h
  cases d <;> cases e <;> first
    | exact q.elim
    | (cases (show v = _ from r)
       cases (show u = _ from r')
       exact ⟨_, _, rfl, fin_pure q s rfl⟩)
theorem c_min (hc : X.calm = true) : CallR X (.builtin "min") (rDs G (on2 dMin)) := by
  refine CallR.imp (call_min2 hc) fun vs H Q h => ?_
  obtain ⟨W, w, S, d, e, v, u, rfl, s, rfl, r, r', q⟩ := on2_of h
  cases d <;> cases e <;> first
    | exact q.elim
    | (cases (show v = _ from r)
       cases (show u = _ from r')
       exact ⟨_, _, rfl, fin_pure q s rfl⟩)
def dInt : D → M D
  | .int i => M.pure (.int i)
  | .bl b => M.pure (.int (if b then 1 else 0))
  | .str x => match PySem.intText? x with
    | some n => if x.length ≤ 640 then M.pure (.int n) else M.stuck
    | none => M.stuck
  | _ => M.stuck
theorem c_int : CallR X (.type "int") (rDs G (on1 dInt)) := by
  refine CallR.imp (call_int1.or call_int_str) fun vs H Q h => ?_
  obtain ⟨W, w, S, d, v, rfl, s, rfl, r, q⟩ := on1_of h
  cases d with
  | int i => cases (show v = .int i from r); exact .inl (.inl ⟨i, rfl, fin_pure q s rfl⟩)
  | bl b => cases (show v = .bl b from r); exact .inl (.inr ⟨b, rfl, fin_pure q s rfl⟩)
  | str x =>
    cases (show v = .str x from r)
    unfold dInt at q
    rcases hx : PySem.intText? x with _ | n
    · simp only [hx] at q; exact q.elim
    · simp only [hx] at q
      obtain ⟨c, q⟩ := FinG.ite q
      exact .inr ⟨x, n, rfl, hx, c, fin_pure q s rfl⟩
  | _ => exact q.elim
def strOk (i : Int) : Bool := decide (i.natAbs.log2 < 1920)
def dStr : D → M D
  | .int i => if strOk i = true then M.pure (.str (toString i : String)) else M.stuck
  | .str x => M.pure (.str x)
  | _ => M.stuck
theorem c_str : CallR X (.type "str") (rDs G (on1 dStr)) := by
  refine CallR.imp (call_str_int.or SkE.call_str_str) fun vs H Q h => ?_
  obtain ⟨W, w, S, d, v, rfl, s, rfl, r, q⟩ := on1_of h
  cases d with
  | int i =>
    cases (show v = .int i from r)
    obtain ⟨c, q⟩ := FinG.ite q
    exact .inl ⟨i, rfl, of_decide_eq_true c, fin_pure q s rfl⟩
  | str x => cases (show v = .str x from r); exact .inr ⟨x, rfl, fin_pure q s rfl⟩
  | _ => exact q.elim
def divmOk (i j : Int) : Bool := decide (0 < j) && !Builtin.divisionGoesByPylong i j
def dDivmod : D → D → M D
  | .int i, .int j => if divmOk i j = true then M.pure (.tup [.int (i / j), .int (i % j)]) else M.stuck
  | _, _ => M.stuck
theorem c_divmod : CallR X (.builtin "divmod") (rDs G (on2 dDivmod)) := by
  refine CallR.imp call_divmodW fun vs H Q h => ?_
  obtain ⟨W, w, S, d, e, v, u, rfl, s, rfl, r, r', q⟩ := on2_of h
  cases d with
  | int i =>
    cases e with
    | int j =>
      cases (show v = .int i from r)
      cases (show u = .int j from r')
      obtain ⟨c, q⟩ := FinG.ite q
      unfold divmOk at c
      simp only [Bool.and_eq_true, decide_eq_true_eq, Bool.not_eq_true'] at c
      refine ⟨i, j, rfl, c, fun p hp => ?_⟩
      exact q (w.frz p _) _ (Ext.frz hp) (s.frz hp) ⟨p, _, rfl, .inl ⟨.inr rfl, .inl upd_same⟩, ⟨_, _, rfl, rfl, _, _, rfl, rfl, rfl⟩⟩
    | _ => exact q.elim
  | _ => cases e <;> exact q.elim
def dTuple : D → M D
  | .lst ds => M.pure (.tup ds)
  | .scr ds => M.pure (.tup ds)
  | .tup ds => M.pure (.tup ds)
  | _ => M.stuck
theorem c_tuple (cK : G.K = X.K) : CallR X (.type "tuple") (rDs G (on1 dTuple)) := by
  refine CallR.imp call_tuple_of fun vs H Q h => ?_
  obtain ⟨W, w, S, d, v, rfl, s, rfl, r, q⟩ := on1_of h
  cases d with
  | lst ds =>
    obtain ⟨a, vs, e, f, hh, rs⟩ := r
    subst e
    exact ⟨a, vs, rfl, .inl ⟨.of hh, fun p hp => q (w.frz p _) _ (Ext.frz hp) (s.frz hp) ⟨p, vs, rfl, .inl ⟨.inr rfl, .inl upd_same⟩, RepVs.mono (Ext.frz hp) s.dj _ _ rs⟩⟩⟩
  | scr ds =>
    obtain ⟨a, vs, e, hh, rs⟩ := r
    subst e
    exact ⟨a, vs, rfl, .inl ⟨sqL_of cK hh, fun p hp => q (w.frz p _) _ (Ext.frz hp) (s.frz hp) ⟨p, vs, rfl, .inl ⟨.inr rfl, .inl upd_same⟩, RepVs.mono (Ext.frz hp) s.dj _ _ rs⟩⟩⟩
  | tup ds =>
    have r2 := r
    obtain ⟨a, vs, e, hh, rs⟩ := r
    subst e
    exact ⟨a, vs, rfl, .inr ⟨sqT_of cK hh, fin_pure q s r2⟩⟩
  | _ => exact q.elim
def bls : List D → Option (List Bool)
  | [] => some []
  | .bl b :: ds => (bls ds).map (b :: ·)
  | _ :: _ => none
theorem bls_rep : ∀ {ds : List D} {bs : List Bool} {vs : List V}, bls ds = some bs → RepVs G w ds vs → vs = bs.map V.bl
  | [], bs, vs, h, r => by unfold bls at h; cases h; exact r
  | .bl b :: ds, bs, vs, h, r => by
    unfold bls at h
    obtain ⟨cs, h1, h2⟩ := Option.map_eq_some_iff.mp h
    subst h2
    obtain ⟨v, t, e, h3, h4⟩ := r
    rw [e, bls_rep h1 h4]
    cases (show v = .bl b from h3)
    rfl
  | .non :: _, _, _, h, _ => by cases h
  | .int _ :: _, _, _, h, _ => by cases h
  | .str _ :: _, _, _, h, _ => by cases h
  | .tup _ :: _, _, _, h, _ => by cases h
  | .lst _ :: _, _, _, h, _ => by cases h
  | .scr _ :: _, _, _, h, _ => by cases h
  | .dct _ _ :: _, _, _, h, _ => by cases h
  | .ins _ _ :: _, _, _, h, _ => by cases h
  | .ref _ :: _, _, _, h, _ => by cases h
  | .ty _ :: _, _, _, h, _ => by cases h
  | .cls _ :: _, _, _, h, _ => by cases h
  | .raw _ _ _ _ :: _, _, _, h, _ => by cases h
def dAll : D → M D
  | .lst ds => match bls ds with
    | some bs => M.pure (.bl (bs.all id))
    | none => M.stuck
  | _ => M.stuck
def dAny : D → M D
  | .lst ds => match bls ds with
    | some bs => M.pure (.bl (bs.any id))
    | none => M.stuck
  | _ => M.stuck
theorem c_all (hc : X.calm = true) : CallR X (.builtin "all") (rDs G (on1 dAll)) := by
  refine CallR.imp (cr_all hc) fun vs H Q h => ?_
  obtain ⟨W, w, S, d, v, rfl, s, rfl, r, q⟩ := on1_of h
  cases d with
  | lst ds =>
    obtain ⟨a, vs, e, f, hh, rs⟩ := r
    unfold dAll at q
    rcases hb : bls ds with _ | bs
    · simp only [hb] at q; exact q.elim
    · simp only [hb] at q
      have ev := bls_rep hb rs
      subst e ev
      exact ⟨a, bs, rfl, .of hh, fin_pure q s rfl⟩
  | _ => exact q.elim
theorem c_any (hc : X.calm = true) : CallR X (.builtin "any") (rDs G (on1 dAny)) := by
  refine CallR.imp (cr_any hc) fun vs H Q h => ?_
  obtain ⟨W, w, S, d, v, rfl, s, rfl, r, q⟩ := on1_of h
  cases d with
  | lst ds =>
    obtain ⟨a, vs, e, f, hh, rs⟩ := r
    unfold dAny at q
    rcases hb : bls ds with _ | bs
    · simp only [hb] at q; exact q.elim
    · simp only [hb] at q
      have ev := bls_rep hb rs
      subst e ev
      exact ⟨a, bs, rfl, .of hh, fin_pure q s rfl⟩
  | _ => exact q.elim
def reprOk (p : PyData) : Bool := p.showable && !p.hasDict && decide (p.depth ≤ 60) && decide (p.shown.length ≤ lim)
def dReprP (d : D) : M D := match toP d with
  | some p => if reprOk p = true then M.pure (.str p.shown) else M.stuck
  | none => M.stuck
def dRepr : D → M D
  | .dct [] [] => M.pure (.str (PyData.dict []).shown)
  | d => dReprP d
theorem dRepr_P {d : D} (h : toP d ≠ none) : dRepr d = dReprP d := by
  cases d with
  | dct ks ds => exact absurd (by unfold toP; rfl) h
  | _ => rfl
theorem c_reprP (cK : G.K = X.K) (gd : X.A.guards = some []) (un : X.A.units + 200 < cLine) : CallR X (.builtin "repr") (rDs G (on1 dReprP)) := by
  intro pins s σ H xs us Q I rx h
  obtain ⟨W, w, S, d, v, rfl, st, rfl, r, q⟩ := on1_of h
  unfold dReprP at q
  rcases hp : toP d with _ | p
  · simp only [hp] at q; exact q.elim
  · simp only [hp] at q
    obtain ⟨c, q⟩ := FinG.ite q
    unfold reprOk at c
    simp only [Bool.and_eq_true, decide_eq_true_eq, Bool.not_eq_true'] at c
    obtain ⟨⟨⟨c1, c2⟩, c3⟩, c4⟩ := c
    obtain ⟨u, rfl, rv⟩ := vals1 rx
    have dp := toP_dp cK d v p r hp
    obtain ⟨as, rd⟩ := Dp.reads I p v u dp rv
    have fin : Q (.str p.shown) w.H := fin_pure q st rfl
    have hz : p.shown.length ≤ sizeLine := by rw [← lim_eq]; exact c4
    cases rd with
    | none => exact PySem.P.repr_of_none ⟨.str _, w.H, I.tok _, ⟨_, rfl⟩, fin⟩
    | bool b => exact PySem.P.repr_of_bool ⟨.str _, w.H, I.tok _, ⟨_, rfl⟩, fin⟩
    | int i t => exact PySem.P.repr_of_int (by simpa [PyData.showable] using c1) ⟨.str _, w.H, I.tok _, ⟨_, rfl⟩, fin⟩
    | str x t => exact PySem.P.repr_of_str ⟨.str _, w.H, I.tok _, ⟨_, rfl⟩, fin⟩ hz
    | list h1 h2 h3 h4 =>
      refine repr_of_reads' (Reads.list h1 h2 h3 h4) c1 (fun z => by rw [c2] at z; cases z) gd (by omega) (fun _ _ z => z) (fun h' u tk kp => ?_) hz
      exact ⟨.str _, w.H, I.kept (t' := tk) kp, ⟨_, rfl⟩, fin⟩
    | tuple h1 h2 h3 h4 =>
      refine repr_of_reads' (Reads.tuple h1 h2 h3 h4) c1 (fun z => by rw [c2] at z; cases z) gd (by omega) (fun _ _ z => z) (fun h' u tk kp => ?_) hz
      exact ⟨.str _, w.H, I.kept (t' := tk) kp, ⟨_, rfl⟩, fin⟩
    | dict _ _ _ _ _ => cases c2
theorem c_repr0 (cK : G.K = X.K) (gd : X.A.guards = some []) (un : X.A.units + 200 < cLine) : CallR X (.builtin "repr") (rDs G (on1 dRepr)) := by
  intro pins s σ H xs us Q I rx h
  obtain ⟨W, w, S, d, v, rfl, st, rfl, r, q⟩ := on1_of h
  have old : dRepr d = dReprP d → _ := fun e => c_reprP cK gd un pins s σ w.H [v] us Q I rx ⟨W, w, S, [d], rfl, st, ⟨v, [], rfl, r, rfl⟩, by rw [e] at q; exact q⟩
  by_cases hd : d = .dct [] []
  · subst hd
    obtain ⟨a, vs, rfl, hF, hH, hl, _⟩ := r
    obtain ⟨u, rfl, ru⟩ := rx.one
    cases (show u = Value.ref a from ru)
    obtain ⟨_, hne, ks, kv, o, es, ep, ho, hx, hdt, hk, hp, _⟩ := dk_of I.hok hH
    have e0 : ks = [] := by
      have := Paired.length kv
      rw [List.zip_nil_left] at this
      exact List.eq_nil_of_length_eq_zero this.symm
    subst e0
    have e1 : es.toList = [] := by
      have := hp.length
      exact List.eq_nil_of_length_eq_zero this
    have rd : Reads s.heap (.ref a) (.dict []) ([a] ++ []) := by
      refine Reads.dict (as := []) (bs := []) ho hx.1 hdt ?_ ?_
      · rw [e1]
        exact .nil
      · rw [e1]
        exact .nil
    have fin : Q (.str (PyData.dict []).shown) w.H := fin_pure q st rfl
    refine repr_of_reads' rd (by decide +kernel) (fun _ z => ?_) gd (by show X.A.units + (1 + 1) < cLine; omega) (fun _ _ z => z) (fun h2 u tk kp => ?_) (by decide +kernel)
    · rw [List.append_nil, List.mem_singleton] at z
      rw [← z] at hne
      simp at hne
    · exact ⟨.str _, w.H, I.kept (t' := tk) kp, ⟨_, rfl⟩, fin⟩
  · refine old ?_
    cases d with
    | dct ks ds =>
      cases ks with
      | nil =>
        cases ds with
        | nil => exact absurd rfl hd
        | cons _ _ => rfl
      | cons _ _ => rfl
    | _ => rfl
theorem c_repr (cK : G.K = X.K) (hr : Rm G.gd k X.A) (hg : G.gd = true := by rfl) : CallR X (.builtin "repr") (rDs G (on1 dRepr)) := c_repr0 cK (hr.gd hg) (by have := hr.room.un; omega)
end
end Ev
set_option maxRecDepth 100000
set_option maxHeartbeats 2000000
namespace Ev
open PySem PySem.Spec PyProof.Rows L2
section
variable {G : Sg} {X : Cx} {W : WX} {k : Nat} {w0 w w1 : Wd} {S : List Ob} {sd : List SV} {σ : L2.St}
theorem R.wr {i : Nat} {a : Addr} {o o' : Ob} {h : HO} (r : R G w0 w sd S σ) (hi : sd[i]? = some (.own o)) (ha : σ[i]? = some (some (.ref a))) (hn : RepO G (w.wr a h) a o') : R G w0 (w.wr a h) (sd.set i (.own o')) S σ := by
  obtain ⟨a', e1, _, nF, nm, n0⟩ := r.ow i o hi
  rw [ha] at e1
  cases e1
  have il : i < sd.length := (List.getElem?_eq_some_iff.mp hi).1
  have st := Stay.wr (o := h) nF
  have key : ∀ {j : Nat} {x : SV}, (sd.set i (.own o'))[j]? = some x → (j = i ∧ x = .own o') ∨ (j ≠ i ∧ sd[j]? = some x) := fun {j x} z => by
    by_cases e : i = j
    · subst e
      rw [List.getElem?_set_self il] at z
      cases z
      exact .inl ⟨rfl, rfl⟩
    · rw [List.getElem?_set_ne e] at z
      exact .inr ⟨fun q => e q.symm, z⟩
  refine ⟨Ext.wr r.ex n0, r.st.wr nF nm, by rw [List.length_set]; exact r.ln, fun j x z => ?_, fun j o2 z => ?_, fun j1 j2 o1 o2 b h1 h2 h3 h4 => ?_, fun b o2 e z => by
    rcases key z with ⟨rfl, _⟩ | ⟨_, z⟩
    · exact r.sf b _ e hi
    · exact r.sf b _ e z⟩
  · rcases key z with ⟨_, e⟩ | ⟨_, z⟩
    · cases e
    · obtain ⟨v, h1, h2⟩ := r.vl j x z
      exact ⟨v, h1, RepV.stay st _ _ h2⟩
  · rcases key z with ⟨rfl, e⟩ | ⟨ne, z⟩
    · cases e
      exact ⟨a, ha, hn, nF, nm, n0⟩
    · obtain ⟨b, h1, h2, h3, h4, h5⟩ := r.ow j o2 z
      have nab : b ≠ a := fun e => by
        subst e
        exact ne (r.ap j i o2 o b z hi h1 ha)
      exact ⟨b, h1, RepO.to (upd_ne nab) st h2, h3, h4, h5⟩
  · have f1 : ∃ p1, sd[j1]? = some (.own p1) := (key h1).elim (fun z => ⟨o, z.1 ▸ hi⟩) fun z => ⟨o1, z.2⟩
    have f2 : ∃ p2, sd[j2]? = some (.own p2) := (key h2).elim (fun z => ⟨o, z.1 ▸ hi⟩) fun z => ⟨o2, z.2⟩
    obtain ⟨p1, q1⟩ := f1
    obtain ⟨p2, q2⟩ := f2
    exact r.ap j1 j2 p1 p2 b q1 q2 h3 h4
theorem R.setown {i : Nat} {a : Addr} {o : Ob} (r : R G w0 w sd S σ) (ho : RepO G w a o) (nF : ¬ w.F a) (nm : a ∉ w.m) (n0 : w0.H a = none) (na : ∀ (j : Nat) (o' : Ob), sd[j]? = some (.own o') → σ[j]? ≠ some (some (V.ref a))) (i0 : i ≠ 0) : R G w0 w (sd.set i (.own o)) S (σ.set i (some (.ref a))) := by
  have key : ∀ {j : Nat} {x : SV}, (sd.set i (.own o))[j]? = some x → (j = i ∧ i < sd.length ∧ x = .own o) ∨ (j ≠ i ∧ sd[j]? = some x) := fun {j x} z => by
    by_cases e : i = j
    · subst e
      by_cases l : i < sd.length
      · rw [List.getElem?_set_self l] at z
        cases z
        exact .inl ⟨rfl, l, rfl⟩
      · rw [List.getElem?_eq_none (by simpa using l)] at z
        cases z
    · rw [List.getElem?_set_ne e] at z
      exact .inr ⟨fun q => e q.symm, z⟩
  refine ⟨r.ex, r.st, by rw [List.length_set, List.length_set]; exact r.ln, fun j x z => ?_, fun j o2 z => ?_, fun j1 j2 o1 o2 b h1 h2 h3 h4 => ?_, fun b o2 e z => by
    rcases key z with ⟨z, _⟩ | ⟨ne, z⟩
    · exact absurd z.symm i0
    · rw [List.getElem?_set_ne i0]
      exact r.sf b _ e z⟩
  · rcases key z with ⟨_, _, e⟩ | ⟨ne, z⟩
    · cases e
    · rw [List.getElem?_set_ne (fun q => ne q.symm)]
      exact r.vl j x z
  · rcases key z with ⟨rfl, l, e⟩ | ⟨ne, z⟩
    · cases e
      exact ⟨a, List.getElem?_set_self (by rw [r.ln]; exact l), ho, nF, nm, n0⟩
    · rw [List.getElem?_set_ne (fun q => ne q.symm)]
      exact r.ow j o2 z
  · rcases key h1 with ⟨e1, l1, _⟩ | ⟨n1, h1⟩ <;> rcases key h2 with ⟨e2, l2, _⟩ | ⟨n2, h2⟩
    · rw [e1, e2]
    · rw [e1, List.getElem?_set_self (by rw [r.ln]; exact l1)] at h3
      cases h3
      rw [List.getElem?_set_ne (fun q => n2 q.symm)] at h4
      exact absurd h4 (na j2 _ h2)
    · rw [e2, List.getElem?_set_self (by rw [r.ln]; exact l2)] at h4
      cases h4
      rw [List.getElem?_set_ne (fun q => n1 q.symm)] at h3
      exact absurd h3 (na j1 _ h1)
    · rw [List.getElem?_set_ne (fun q => n1 q.symm)] at h3
      rw [List.getElem?_set_ne (fun q => n2 q.symm)] at h4
      exact r.ap j1 j2 o1 o2 b h1 h2 h3 h4
def frzO : Ob → D
  | .lst ds => .lst ds
  | .dct ks ds => .dct ks ds
  | .ins c ds => .ins c ds
  | .tbl _ => .non
theorem R.frz {i : Nat} {o : Ob} (r : R G w0 w sd S σ) (hi : sd[i]? = some (.own o)) : ∃ a, Stay w (w.fz a) ∧ R G w0 (w.fz a) (sd.set i (.val (frzO o))) S σ ∧ σ[i]? = some (some (.ref a)) ∧ RepV G (w.fz a) (frzO o) (.ref a) := by
  obtain ⟨a, ha, ho, nF, nm, n0⟩ := r.ow i o hi
  have il : i < sd.length := (List.getElem?_eq_some_iff.mp hi).1
  have rv : RepV G (w.fz a) (frzO o) (.ref a) := by
    cases o with
    | lst ds => obtain ⟨vs, h1, h2⟩ := ho; exact ⟨a, vs, rfl, .inr rfl, h1, RepVs.stay Stay.fz _ _ h2⟩
    | dct ks ds => obtain ⟨vs, h1, h2, h3⟩ := ho; exact ⟨a, vs, rfl, .inr rfl, h1, h2, RepVs.stay Stay.fz _ _ h3⟩
    | ins c ds => obtain ⟨dx, vs, h1, h2, h3⟩ := ho; exact ⟨a, dx, vs, rfl, .inr rfl, h1, h2, RepVs.stay Stay.fz _ _ h3⟩
    | tbl j => exact absurd ho.2.1 nm
  refine ⟨a, Stay.fz, ?_, ha, rv⟩
  have key : ∀ {j : Nat} {x : SV}, (sd.set i (.val (frzO o)))[j]? = some x → (j = i ∧ x = .val (frzO o)) ∨ (j ≠ i ∧ sd[j]? = some x) := fun {j x} z => by
    by_cases e : i = j
    · subst e
      rw [List.getElem?_set_self il] at z
      cases z
      exact .inl ⟨rfl, rfl⟩
    · rw [List.getElem?_set_ne e] at z
      exact .inr ⟨fun q => e q.symm, z⟩
  refine ⟨Ext.fz r.ex n0, r.st.fz nm ho.there, by rw [List.length_set]; exact r.ln, fun j x z => ?_, fun j o2 z => ?_, fun j1 j2 o1 o2 b h1 h2 h3 h4 => ?_, fun b o2 e z => by
    rcases key z with ⟨_, e⟩ | ⟨_, z⟩
    · cases e
    · exact r.sf b _ e z⟩
  · rcases key z with ⟨rfl, e⟩ | ⟨_, z⟩
    · cases e
      exact ⟨.ref a, ha, rv⟩
    · obtain ⟨v, h1, h2⟩ := r.vl j x z
      exact ⟨v, h1, RepV.stay Stay.fz _ _ h2⟩
  · rcases key z with ⟨_, e⟩ | ⟨ne, z⟩
    · cases e
    · obtain ⟨b, h1, h2, h3, h4, h5⟩ := r.ow j o2 z
      have nab : b ≠ a := fun e => by
        subst e
        exact ne (r.ap j i o2 o b z hi h1 ha)
      exact ⟨b, h1, RepO.to (w := w) (w' := w.fz a) rfl Stay.fz h2, fun q => q.elim h3 nab, h4, h5⟩
  · rcases key h1 with ⟨_, e⟩ | ⟨n1, h1⟩
    · cases e
    · rcases key h2 with ⟨_, e⟩ | ⟨n2, h2⟩
      · cases e
      · exact r.ap j1 j2 o1 o2 b h1 h2 h3 h4
def frzS (i : Nat) : MS := fun sd S => match sd[i]? with
  | some (.own o) => some (.next (sd.set i (.val (frzO o))), S)
  | _ => none
theorem ss_frz {i : Nat} {sts : List Stmt} {f : MS} (h : PSsV G X W sts f) : PSsV G X W sts (seqS (frzS i) f) := by
  refine PSs.imp h fun En σ H q => ?_
  obtain ⟨w0, w, sd, S, e, r, q⟩ := q
  unfold seqS frzS at q
  rcases hi : sd[i]? with _ | _ | d | o
  · simp only [hi] at q; exact q.elim
  · simp only [hi] at q; exact q.elim
  · simp only [hi] at q; exact q.elim
  · simp only [hi] at q
    obtain ⟨a, st, r2, _⟩ := r.frz hi
    exact ⟨w0, w.fz a, _, S, e, r2, FinS.stay st q⟩
def FinO (G : Sg) (W : Value → Option Addr → Hp → Prop) (w : Wd) (Q : VK) : Option (Except Exn (List D) × List Ob) → Prop
  | none => False
  | some (.ok ds, S) => ∀ w' p vs, Ext w w' → RepS G w' S → w'.H p = some (.lst vs) → RepVs G w' ds vs → ¬ w'.F p → p ∉ w'.m → w.H p = none → Q (.ref p) w'.H
  | some (.error e, S) => ∀ w' cls x, Ext w w' → RepS G w' S → RepX G w' e cls x → W cls x w'.H
def teO (G : Sg) (W : WX) (f : List SV → M (List D)) : TE := fun σ H Q => ∃ w0 w sd S, w.H = H ∧ R G w0 w sd S σ ∧ FinO G (fun c x H => W c x σ H) w Q (f sd S)
abbrev PO_ (G : Sg) (X : Cx) (W : WX) (e : Expr) (f : List SV → M (List D)) : Prop := PE X e (teO G W f)
theorem FinO.ext {W : Value → Option Addr → Hp → Prop} {Q : VK} {r : Option (Except Exn (List D) × List Ob)} (e : Ext w w1) (h : FinO G W w Q r) : FinO G W w1 Q r := by
  rcases r with _ | ⟨_ | ds, S⟩
  · exact h
  · exact fun w' c x e' => h w' c x (e.trans e')
  · exact fun w' p vs e' s h1 h2 h3 h4 h5 => h w' p vs (e.trans e') s h1 h2 h3 h4 (e.al _ h5)
theorem finO_step {α β : Type} {rep : Wd → α → β → Prop} {W : Value → Option Addr → Hp → Prop} {Q : β → Hp → Prop} {Q' : VK} {f : M α} {k : α → M (List D)} (h : FinO G W w Q' (M.bind f k S))
    (c : ∀ w1 S1 d v, Ext w w1 → RepS G w1 S1 → rep w1 d v → FinO G W w1 Q' (k d S1) → Q v w1.H) : FinG G rep W w Q (f S) := by
  unfold M.bind at h
  rcases hf : f S with _ | ⟨_ | d, S1⟩
  · rw [hf] at h; exact h
  · rw [hf] at h; exact h
  · rw [hf] at h
    exact fun w' v e s r => c w' S1 d v e s r (h.ext e)
theorem finO_new {W : Value → Option Addr → Hp → Prop} {Q : VK} {ds : List D} {vs : List V} {p : Addr} (h : FinO G W w Q (M.pure ds S)) (s : RepS G w S) (r : RepVs G w ds vs) (hp : w.H p = none) : Q (.ref p) (upd w.H p (.lst vs)) :=
  h (w.new p (.lst vs)) p vs (Ext.new hp) (s.new hp) upd_same (RepVs.mono (Ext.new hp) s.dj _ _ r) (fun z => s.fh p z hp) (fun z => s.there z hp) hp
theorem o_lst {n : Nat} {es : List Expr} {g : List SV → M (List D)} {pos : Pos} (h : PLn G X W n es g) (hn : n ≤ sizeLine) : PO_ G X W (.List es pos) (fun sd => M.bind (g sd) M.pure) := by
  refine PE.imp (pe_lst h) fun σ H Q h => ?_
  obtain ⟨w0, w, sd, S, e, r, q⟩ := h
  exact ⟨w0, w, sd, S, e, r, finO_step q fun w1 S1 ds vs e1 s1 rv q1 => ⟨by rw [rv.2]; exact hn, fun p hp => finO_new q1 s1 rv.1 hp⟩⟩
def ownS (i : Nat) (f : List SV → M (List D)) : MS := exS f fun ds sd S => some (.next (sd.set i (.own (.lst ds))), S)
theorem s_own {i : Nat} {x : Str} {e : Expr} {f : List SV → M (List D)} {pos pos' : Pos} (c : Ctx G X W k) (hi : X.N[i]? = some x) (hx : Loc X.env.scope x) (he : PO_ G X W e f) (hs : swapFree e = true) (hf : X.fn x = true ∨ X.env.scope.names.lookup x = some .local) (i0 : i ≠ 0) :
    PSV G X W (.Assign [.Name x pos'] e pos) (ownS i f) := by
  refine PS.imp (ps_set c.nd hi hx he (swap_free hs) hf) fun En σ H q => ?_
  obtain ⟨w0, w, sd, S, e, r, q⟩ := q
  refine ⟨w0, w, sd, S, e, r, ?_⟩
  unfold ownS exS at q
  rcases hf : f sd S with _ | ⟨_ | ds, S1⟩
  · rw [hf] at q; exact q
  · rw [hf] at q
    exact fun w' cls x e s rx => q w' σ cls x (e.stay r.st.dj) (r.step e s) rx
  · rw [hf] at q
    intro w' p vs e1 s1 h1 h2 h3 h4 h5
    have r1 := r.step e1 s1
    refine q w' (σ.set i (some (.ref p))) (e1.stay r.st.dj) (r1.setown ⟨vs, h1, h2⟩ h3 h4 (r.ex.al _ h5) (fun j o' ho hj => ?_) i0)
    obtain ⟨a, e2, hr, _⟩ := r.ow j o' ho
    rw [hj] at e2
    cases e2
    exact hr.there h5
def newRef (o : Ob) : M D := fun S => some (.ok (.ref S.length), S ++ [o])
theorem share {o : Ob} {p : Addr} (s : RepS G w S) (ho : RepO G w p o) (nF : ¬ w.F p) (nm : p ∉ w.m) : Stay w ⟨w.m ++ [p], w.F, w.H, w.x⟩ ∧ RepS G ⟨w.m ++ [p], w.F, w.H, w.x⟩ (S ++ [o]) := by
  have st : Stay w ⟨w.m ++ [p], w.F, w.H, w.x⟩ := ⟨⟨[p], rfl⟩, fun _ z => z, fun _ _ _ z => z⟩
  refine ⟨st, by simp [s.len], ?_, fun a h => ?_, s.fh, fun n a u h1 h2 => ?_⟩
  · rw [List.nodup_append]
    exact ⟨s.nd, by simp, fun a ha b hb => by
      have : b = p := by simpa using hb
      subst this
      exact fun e => nm (e ▸ ha)⟩
  · show a ∉ w.m ++ [p]
    simp only [List.mem_append, List.mem_singleton, not_or]
    exact ⟨s.dj a h, fun e => nF (by rw [← e]; exact h)⟩
  · have h1 : (w.m ++ [p])[n]? = some a := h1
    by_cases hn : n < w.m.length
    · rw [List.getElem?_append_left hn] at h1
      rw [List.getElem?_append_left (by rw [← s.len]; exact hn)] at h2
      exact RepO.to (w := w) (w' := ⟨w.m ++ [p], w.F, w.H, w.x⟩) rfl st (s.ob n a u h1 h2)
    · rw [List.getElem?_append_right (by omega)] at h1
      rw [List.getElem?_append_right (by rw [← s.len]; omega)] at h2
      have e0 : n - w.m.length = 0 := by
        have := (List.getElem?_eq_some_iff.mp h1).1
        simp at this
        omega
      rw [e0] at h1
      rw [← s.len, e0] at h2
      simp at h1 h2
      subst h1 h2
      exact RepO.to (w := w) (w' := ⟨w.m ++ [p], w.F, w.H, w.x⟩) rfl st ho
theorem v_shr {e : Expr} {f : List SV → M (List D)} (h : PO_ G X W e f) : PV G X W e (fun sd => M.bind (f sd) fun ds => newRef (.lst ds)) := by
  refine PE.imp h fun σ H Q h => ?_
  obtain ⟨w0, w, sd, S, e, r, q⟩ := h
  refine ⟨w0, w, sd, S, e, r, ?_⟩
  have q : FinG G (RepV G) (fun c x H => W c x σ H) w Q (M.bind (f sd) (fun ds => newRef (.lst ds)) S) := q
  unfold M.bind at q
  rcases hf : f sd S with _ | ⟨_ | ds, S1⟩
  · rw [hf] at q; exact q
  · rw [hf] at q; exact q
  · rw [hf] at q
    intro w' p vs e1 s1 h1 h2 h3 h4 h5
    obtain ⟨st, s2⟩ := share (o := .lst ds) s1 ⟨vs, h1, h2⟩ h3 h4
    have q : FinG G (RepV G) (fun c x H => W c x σ H) w Q (some (.ok (.ref S1.length), S1 ++ [.lst ds])) := q
    refine q ⟨w'.m ++ [p], w'.F, w'.H, w'.x⟩ (.ref p) ⟨?_, e1.F, e1.H, fun b hb => ?_, e1.nF, e1.al⟩ s2 ⟨p, rfl, ?_⟩
    · obtain ⟨rr, er⟩ := e1.m
      exact ⟨rr ++ [p], by show w'.m ++ [p] = _; rw [er, List.append_assoc]⟩
    · have hb : b ∈ w'.m ++ [p] := hb
      rcases List.mem_append.mp hb with z | z
      · exact e1.nm b z
      · have : b = p := by simpa using z
        subst this
        exact .inr h5
    · show (w'.m ++ [p])[S1.length]? = some p
      rw [← s1.len, List.getElem?_append_right (Nat.le_refl _)]
      simp
def appS (i : Nat) (f : List SV → M D) : MS := fun sd S => match sd[i]? with
  | some (.own (.lst ds)) => if ds.length < lim then exS f (fun d sd S => some (.next (sd.set i (.own (.lst (ds ++ [d])))), S)) sd S else none
  | _ => none
theorem few_of {cpos : Pos} {es : List Expr} (hs : es.all notStar = true) (hl : es.length < 30) : ((backTo cpos (starEach es X.env)).all (fun x => !x.1) && (backToKw cpos (keywordEach [] X.env)).all (fun x => x.1.isSome)
      && decide (es.length + ([] : List Keyword).length + (if ([] : List Keyword).isEmpty then 0 else 1) < 30)) = true := by
  rw [star_form hs]
  show (true && true && decide (es.length + 0 + 0 < 30)) = true
  rw [decide_eq_true (by omega)]
  rfl
theorem s_app {i : Nat} {x : Str} {p apos pos epos : Pos} {e : Expr} {f : List SV → M D} (hN : X.N[i]? = some x) (hv : Vis X.env.scope x) (hd : (x == ("__debug__" : Str)) = false) (hcd : (x == ("__classdict__" : Str)) = false) (he : PV G X W e f) (hs : notStar e = true) (hp : (apos.endLine == pos.line) = true) :
    PSV G X W (.Expr (.Call (.Attribute (.Name x p) "append" apos) [e] [] pos) epos) (appS i f) := by
  have hs1 : [e].all notStar = true := by simpa using hs
  have base := ps_expr (pos := epos) (pe_bm (cpos := pos) (apos := apos) PySem.F.plainAttrs_list PySem.F.slot_list_append PySem.F.type_list_append mt_append (pe_var (X := X) (pos := p) hN hv hd hcd) (pa_cons he pa_nil (starEach_cons hs)) (attr_base rfl) (few_of hs1 (by simp)) hp (starEach_cons hs) rfl) rfl
  refine PS.imp base fun En σ H q => ?_
  obtain ⟨w0, w, sd, S, e, r, q⟩ := q
  subst e
  unfold appS at q
  rcases hi : sd[i]? with _ | _ | d0 | ⟨ds | ⟨ks, ds⟩ | ⟨cc, ds⟩ | jt⟩
  · simp only [hi] at q; exact q.elim
  · simp only [hi] at q; exact q.elim
  · simp only [hi] at q; exact q.elim
  · simp only [hi] at q
    by_cases hz : ds.length < lim
    · rw [if_pos hz] at q
      obtain ⟨a, ha, ⟨vs, h1, h2⟩, nF, nm, n0⟩ := r.ow i _ hi
      refine ⟨.ref a, ha, Or.inl ⟨rfl, vs, .of h1⟩, w0, w, sd, S, rfl, r, exS_step q r fun w1 S1 d v e1 r1 rv q1 => ?_⟩
      obtain ⟨a', ha', ⟨vs', h1', h2'⟩, nF', nm', _⟩ := r1.ow i _ hi
      rw [ha] at ha'
      cases ha'
      refine ⟨a, vs', v, rfl, rfl, h1', by rw [← h2'.length, ← lim_eq]; exact hz, ?_⟩
      have hn : RepO G (w1.wr a (.lst (vs' ++ [v]))) a (.lst (ds ++ [d])) := ⟨_, upd_same, RepVs.append (RepVs.stay (Stay.wr nF') _ _ h2') (RepVs.one (RepV.stay (Stay.wr nF') _ _ rv))⟩
      exact q1 (w1.wr a (.lst (vs' ++ [v]))) σ (Stay.wr nF') (r1.wr hi ha hn)
    · rw [if_neg hz] at q; exact q.elim
  · simp only [hi] at q; exact q.elim
  · simp only [hi] at q; exact q.elim
  · simp only [hi] at q; exact q.elim
end
end Ev
set_option maxRecDepth 100000
set_option maxHeartbeats 2000000
namespace Ev
open PySem PySem.Spec PyProof.Rows L2
section
variable {G : Sg} {X : Cx} {W : WX} {k : Nat} {w0 w w1 : Wd} {S : List Ob} {sd : List SV} {σ : L2.St}
theorem R.wrm {n : Nat} {a : Addr} {o' : Ob} {h : HO} (r : R G w0 w sd S σ) (hm : w.m[n]? = some a) (hn : RepO G (w.wr a h) a o') : Stay w (w.wr a h) ∧ R G w0 (w.wr a h) sd (S.set n o') σ := by
  have am : a ∈ w.m := List.mem_of_getElem? hm
  have nF : ¬ w.F a := fun z => r.st.dj a z am
  have st := Stay.wr (o := h) nF
  have hnS : n < S.length := by rw [← r.st.len]; exact (List.getElem?_eq_some_iff.mp hm).1
  have ne : ∀ {j b}, w.m[j]? = some b → j ≠ n → b ≠ a := fun {j b} hj hjn e => by
    subst e
    obtain ⟨l1, e1⟩ := List.getElem?_eq_some_iff.mp hj
    obtain ⟨l2, e2⟩ := List.getElem?_eq_some_iff.mp hm
    exact hjn ((List.getElem_inj r.st.nd).mp (e1.trans e2.symm))
  refine ⟨st, ⟨?_, ?_, r.ln, fun j x z => ?_, fun j o2 z => ?_, r.ap, r.sf⟩⟩
  · refine ⟨r.ex.m, r.ex.F, fun b u hb hu => ?_, r.ex.nm, r.ex.nF, fun b z => ?_⟩
    · have nb : b ≠ a := fun e => by
        subst e
        rcases r.ex.nm b am with z | z
        · exact hb z
        · rw [z] at hu; cases hu
      show upd w.H a h b = some u
      rw [upd_ne nb]
      exact r.ex.H b u hb hu
    · have z : upd w.H a h b = none := z
      by_cases e : b = a
      · rw [e, upd_same] at z; cases z
      · rw [upd_ne e] at z
        exact r.ex.al b z
  · refine ⟨by rw [List.length_set]; exact r.st.len, r.st.nd, r.st.dj, fun b z => ?_, fun j b u h1 h2 => ?_⟩
    · show upd w.H a h b ≠ none
      rw [upd_ne (fun e => nF (by rw [← e]; exact z))]
      exact r.st.fh b z
    · by_cases e : n = j
      · subst e
        rw [List.getElem?_set_self hnS] at h2
        cases h2
        rw [show w.m[n]? = some b from h1] at hm
        cases hm
        exact hn
      · rw [List.getElem?_set_ne e] at h2
        exact RepO.to (upd_ne (ne h1 fun z => e z.symm)) st (r.st.ob j b u h1 h2)
  · obtain ⟨v, h1, h2⟩ := r.vl j x z
    exact ⟨v, h1, RepV.stay st _ _ h2⟩
  · obtain ⟨b, h1, h2, h3, h4, h5⟩ := r.ow j o2 z
    have nb : b ≠ a := fun e => h4 (e ▸ am)
    exact ⟨b, h1, RepO.to (upd_ne nb) st h2, h3, h4, h5⟩
def itemT (fo fi : List SV → M D) : Tgt := fun d sd S => match fo sd S with
  | some (.ok (.ref n), S1) => match fi sd S1 with
    | some (.ok (.int j), S2) => match S2[n]? with
      | some (.lst ds) => match ixN ds.length j with
        | some i => some (sd, S2.set n (.lst (ds.set i d)))
        | none => none
      | _ => none
    | _ => none
  | _ => none
theorem sub_tree {o i : Expr} {pos : Pos} (hs : notSlice i = true) (v : Value) : assign (.Subscript o i pos) X.env v = (do
      let ov ← holding [v] (eval o X.env)
      let iv ← holding [v, ov] (eval i X.env)
      standAt pos
      holding [v, ov, iv] (setItem ov iv v)
      release [v, ov, iv] []) := by
  cases i <;> first | rfl | cases hs
theorem g_item {o i : Expr} {fo fi : List SV → M D} {pos : Pos} (ho : PV G X W o fo) (hi : PV G X W i fi) (hs : notSlice i = true) : PGV G X [] (.Subscript o i pos) (itemT fo fi) := by
  refine PG.imp (pg_sub ho hi set_list (sub_tree hs)) fun v σ H Q q => ?_
  obtain ⟨w0, w, sd, S, d, e, r, rd, q⟩ := q
  refine ⟨w0, w, sd, S, e, r, ?_⟩
  unfold itemT at q
  rcases hf : fo sd S with _ | ⟨x | d1, S1⟩
  · rw [hf] at q; exact q
  · rw [hf] at q; exact q.elim
  · rw [hf] at q
    cases d1 with
    | ref n =>
      simp only at q
      intro w1 v1 e1 s1 ⟨a, ev, hm⟩
      have r1 := r.step e1 s1
      refine ⟨w0, w1, sd, S1, rfl, r1, ?_⟩
      rcases hg : fi sd S1 with _ | ⟨x | d2, S2⟩
      · rw [hg] at q; exact q
      · rw [hg] at q; exact q.elim
      · rw [hg] at q
        cases d2 with
        | int j =>
          simp only at q
          intro w2 v2 e2 s2 rj
          cases (show v2 = .int j from rj)
          have r2 := r1.step e2 s2
          obtain ⟨rr, er⟩ := e2.m
          have hm2 : w2.m[n]? = some a := by
            rw [er, List.getElem?_append_left (List.getElem?_eq_some_iff.mp hm).1]; exact hm
          rcases hn : S2[n]? with _ | ⟨ds | _ | _ | jt⟩
          · simp only [hn] at q; exact q.elim
          · simp only [hn] at q
            obtain ⟨vs, hh, rs⟩ := s2.ob n a _ hm2 hn
            rcases hx : ixN ds.length j with _ | i2
            · simp only [hx] at q; exact q.elim
            · simp only [hx] at q
              have rd2 : RepV G w2 d v := RepV.mono (e1.trans e2) r.st.dj _ _ rd
              have nF : ¬ w2.F a := fun z => s2.dj a z (List.mem_of_getElem? hm2)
              have st := Stay.wr (o := .lst (vs.set i2 v)) nF
              obtain ⟨st2, r3⟩ := r2.wrm hm2 (h := .lst (vs.set i2 v)) (o' := .lst (ds.set i2 d)) ⟨_, upd_same, RepVs.set i2 (RepVs.stay st _ _ rs) (RepV.stay st _ _ rd2)⟩
              refine ⟨a, vs, j, i2, ev, rfl, hh, by rw [← rs.length]; exact hx, ?_⟩
              exact q (w2.wr a _) σ (((e1.trans e2).stay r.st.dj).trans st2) r3 fun _ _ => rfl
          · simp only [hn] at q; exact q.elim
          · simp only [hn] at q; exact q.elim
          · simp only [hn] at q; exact q.elim
        | _ => exact q.elim
    | _ => exact q.elim
theorem putF_zip {f : Str} : ∀ {fs : List Str} {vs : List V} {j : Nat} {v : V}, fs.Nodup → fs[j]? = some f → j < vs.length → putF f v (fs.zip vs) = fs.zip (vs.set j v)
  | [], _, _, _, _, h, _ => by simp at h
  | _ :: _, [], _, _, _, _, h => by simp at h
  | g :: fs, u :: vs, 0, v, _, h, _ => by
    simp at h
    subst h
    show putF g v ((g, u) :: fs.zip vs) = (g, v) :: fs.zip vs
    unfold putF
    rw [if_pos rfl]
  | g :: fs, u :: vs, j + 1, v, nd, h, hl => by
    have nd := List.nodup_cons.mp nd
    have hm : fs[j]? = some f := by simpa using h
    have hne : ¬ g = f := fun e => nd.1 (e ▸ List.mem_of_getElem? hm)
    show putF f v ((g, u) :: fs.zip vs) = (g, u) :: fs.zip (vs.set j v)
    unfold putF
    rw [if_neg hne, putF_zip nd.2 hm (by simpa using hl)]
theorem putF_new {f : Str} : ∀ {fs : List Str} {vs : List V} {v : V}, fs.Nodup → fs[vs.length]? = some f → putF f v (fs.zip vs) = fs.zip (vs ++ [v])
  | [], vs, _, _, h => by simp at h
  | g :: fs, [], v, _, h => by
    simp at h
    subst h
    show putF g v [] = [(g, v)] ++ fs.zip []
    simp [putF]
  | g :: fs, u :: vs, v, nd, h => by
    have nd := List.nodup_cons.mp nd
    have hm : fs[vs.length]? = some f := by simpa using h
    have hne : ¬ g = f := fun e => nd.1 (e ▸ List.mem_of_getElem? hm)
    show putF f v ((g, u) :: fs.zip vs) = (g, u) :: fs.zip (vs ++ [v])
    unfold putF
    rw [if_neg hne, putF_new nd.2 hm]
def putL (ds : List D) (j : Nat) (d : D) : Option (List D) := if j < ds.length then some (ds.set j d) else if j = ds.length then some (ds ++ [d]) else none
structure FldT (X : Cx) (G : Sg) (m : Str) (tbl : Nat → Option Nat) : Prop where
  at_ : ∀ c j, tbl c = some j → Cls X.K (G.ca c) ∧ NoAttr X.K (G.ca c) m ∧ (G.fn c).Nodup ∧ (G.fn c)[j]? = some m ∧ (G.fn c).length < 1000
def setFS (i : Nat) (tbl : Nat → Option Nat) (f : List SV → M D) : MS := exS f fun d sd S => match sd[i]? with
  | some (.own (.ins c ds)) => match tbl c with
    | some j => match putL ds j d with
      | some es => some (.next (sd.set i (.own (.ins c es))), S)
      | none => none
    | none => none
  | _ => none
theorem s_setF {i : Nat} {x m : Str} {p apos pos : Pos} {e : Expr} {f : List SV → M D} {tbl : Nat → Option Nat} (T : FldT X G m tbl) (hN : X.N[i]? = some x) (hv : Vis X.env.scope x) (hd : (x == ("__debug__" : Str)) = false) (hcd : (x == ("__classdict__" : Str)) = false) (he : PV G X W e f) (hs : swapFree e = true) :
    PSV G X W (.Assign [.Attribute (.Name x p) m apos] e pos) (setFS i tbl f) := by
  refine PS.imp (ps_fld (pe_var (X := X) (pos := p) hN hv hd hcd) he (swap_free hs)) fun En σ H q => ?_
  obtain ⟨w0, w, sd, S, e, r, q⟩ := q
  refine ⟨w0, w, sd, S, e, r, exS_step q r fun w1 S1 d v e1 r1 rv q1 => ?_⟩
  rcases hi : sd[i]? with _ | _ | d0 | ⟨ds | ⟨ks, ds⟩ | ⟨cc, ds⟩ | jt⟩
  · simp only [hi] at q1; exact q1.elim
  · simp only [hi] at q1; exact q1.elim
  · simp only [hi] at q1; exact q1.elim
  · simp only [hi] at q1; exact q1.elim
  · simp only [hi] at q1; exact q1.elim
  · simp only [hi] at q1
    rcases ht : tbl cc with _ | j
    · simp only [ht] at q1; exact q1.elim
    · simp only [ht] at q1
      obtain ⟨cl, na, nd, hj, hl⟩ := T.at_ cc j ht
      obtain ⟨a, ha, ⟨dx, vs, h1, h2, h3⟩, nF, nm, n0⟩ := r1.ow i _ hi
      have hlen : ((G.fn cc).zip vs).length < 1000 := by
        rw [List.length_zip]; omega
      refine ⟨.ref a, ha, a, _, dx, _, rfl, h1, cl, na, hlen, ?_⟩
      unfold putL at q1
      by_cases c1 : j < ds.length
      · simp only [if_pos c1] at q1
        rw [putF_zip nd hj (by rw [← h3.length]; exact c1)]
        have hn : RepO G (w1.wr a (.ins (G.ca cc) dx ((G.fn cc).zip (vs.set j v)))) a (.ins cc (ds.set j d)) := ⟨dx, _, upd_same, by rw [List.length_set]; exact h2, RepVs.set j (RepVs.stay (Stay.wr nF) _ _ h3) (RepV.stay (Stay.wr nF) _ _ rv)⟩
        exact q1 _ σ (Stay.wr nF) (r1.wr hi ha hn)
      · simp only [if_neg c1] at q1
        by_cases c2 : j = ds.length
        · simp only [if_pos c2] at q1
          subst c2
          rw [h3.length] at hj
          rw [putF_new nd hj]
          have hn : RepO G (w1.wr a (.ins (G.ca cc) dx ((G.fn cc).zip (vs ++ [v])))) a (.ins cc (ds ++ [d])) := ⟨dx, _, upd_same, by
            rw [List.length_append]
            exact (List.getElem?_eq_some_iff.mp hj).1, RepVs.append (RepVs.stay (Stay.wr nF) _ _ h3) (RepVs.one (RepV.stay (Stay.wr nF) _ _ rv))⟩
          exact q1 _ σ (Stay.wr nF) (r1.wr hi ha hn)
        · simp only [if_neg c2] at q1; exact q1.elim
  · simp only [hi] at q1; exact q1.elim
def ownF (i : Nat) (tbl : Nat → Option Nat) : List SV → M D := fun sd => match sd[i]? with
  | some (.own (.ins c ds)) => match tbl c with
    | some j => match ds[j]? with
      | some d => M.pure d
      | none => M.stuck
    | none => M.stuck
  | _ => M.stuck
theorem v_ownF {i : Nat} {x m : Str} {p pos : Pos} {tbl : Nat → Option Nat} (T : FldT X G m tbl) (hN : X.N[i]? = some x) (hv : Vis X.env.scope x) (hd : (x == ("__debug__" : Str)) = false) (hcd : (x == ("__classdict__" : Str)) = false) : PV G X W (.Attribute (.Name x p) m pos) (ownF i tbl) := by
  refine PE.imp (pe_fld (pe_var (X := X) (pos := p) hN hv hd hcd) (attr_base rfl)) fun σ H Q q => ?_
  obtain ⟨w0, w, sd, S, e, r, q⟩ := q
  subst e
  unfold ownF at q
  rcases hi : sd[i]? with _ | _ | d0 | ⟨ds | ⟨ks, ds⟩ | ⟨cc, ds⟩ | jt⟩
  · simp only [hi] at q; exact q.elim
  · simp only [hi] at q; exact q.elim
  · simp only [hi] at q; exact q.elim
  · simp only [hi] at q; exact q.elim
  · simp only [hi] at q; exact q.elim
  · simp only [hi] at q
    rcases ht : tbl cc with _ | j
    · simp only [ht] at q; exact q.elim
    · simp only [ht] at q
      rcases hj2 : ds[j]? with _ | d
      · simp only [hj2] at q; exact q.elim
      · simp only [hj2] at q
        obtain ⟨cl, na, nd, hj, hl⟩ := T.at_ cc j ht
        obtain ⟨a, ha, ⟨dx, vs, h1, h2, h3⟩, _⟩ := r.ow i _ hi
        obtain ⟨v, hv1, hv2⟩ := h3.get hj2
        exact ⟨.ref a, ha, a, _, dx, _, v, rfl, h1, cl, na, lookup_zip_some nd hj hv1, fin_pure q r.st hv2⟩
  · simp only [hi] at q; exact q.elim
end
end Ev
set_option maxRecDepth 100000
set_option maxHeartbeats 2000000
namespace Ev
open PySem PySem.Spec PyProof.Rows L2
def cutD {α : Type} (xs : List α) (lo hi : Option Int) : List α := (xs.drop (HT.sIx xs.length 0 lo)).take (HT.sIx xs.length xs.length hi - HT.sIx xs.length 0 lo)
section
variable {G : Sg} {X : Cx} {W : WX} {k : Nat} {w0 w w1 : Wd} {S : List Ob} {sd : List SV} {σ : L2.St}
theorem cut_rep {ds : List D} {vs : List V} {lo hi : Option Int} (r : RepVs G w ds vs) : RepVs G w (cutD ds lo hi) (cutV vs lo hi) := by
  unfold cutD cutV
  rw [r.length]
  exact RepVs.take _ (RepVs.drop _ r)
def dSl (d : D) (lo hi : Option Int) : M D := match d with
  | .lst ds => M.pure (.lst (cutD ds lo hi))
  | .scr ds => M.pure (.lst (cutD ds lo hi))
  | .tup ds => M.pure (.tup (cutD ds lo hi))
  | .str z => if z.length ≤ lim then M.pure (.str (cutS z lo hi)) else M.stuck
  | _ => M.stuck
def rSlD (G : Sg) : V → Option Int → Option Int → Hp → VK → Prop := fun v lo hi H Q => ∃ W w S d, w.H = H ∧ RepS G w S ∧ RepV G w d v ∧ FinG G (RepV G) W w Q (dSl d lo hi S)
theorem sl_D (cK : G.K = X.K) : SlR X (rSlD G) := by
  have base := (sl_list (X := X)).or ((sl_tupA (X := X)).or (sl_str (X := X)))
  intro pins s σ H x v vl vu lo hi sl Q I rx hs pl pu q
  refine base pins s σ H x v vl vu lo hi sl Q I rx hs pl pu ?_
  obtain ⟨W, w, S, d, rfl, st, r, q⟩ := q
  cases d with
  | lst ds =>
    obtain ⟨a, vs, rfl, f, hh, rs⟩ := r
    exact .inl ⟨a, vs, rfl, .of hh, fun p hp => q (w.frz p _) _ (Ext.frz hp) (st.frz hp) ⟨p, _, rfl, .inr rfl, upd_same, RepVs.mono (Ext.frz hp) st.dj _ _ (cut_rep rs)⟩⟩
  | scr ds =>
    obtain ⟨a, vs, rfl, hh, rs⟩ := r
    exact .inl ⟨a, vs, rfl, sqL_of cK hh, fun p hp => q (w.frz p _) _ (Ext.frz hp) (st.frz hp) ⟨p, _, rfl, .inr rfl, upd_same, RepVs.mono (Ext.frz hp) st.dj _ _ (cut_rep rs)⟩⟩
  | tup ds =>
    obtain ⟨a, vs, rfl, hh, rs⟩ := r
    refine .inr (.inl ⟨a, vs, rfl, sqT_of cK hh, fun hw => ?_, fun _ p hp => ?_⟩)
    · have e : cutD ds lo hi = ds := by
        unfold cutD
        rw [rs.length, hw.1, hw.2, List.drop_zero, Nat.sub_zero, ← rs.length, List.take_length]
      have q : FinG G (RepV G) W w Q (M.pure (.tup (cutD ds lo hi)) S) := q
      rw [e] at q
      exact fin_pure q st ⟨a, vs, rfl, hh, rs⟩
    · exact q (w.frz p _) _ (Ext.frz hp) (st.frz hp) ⟨p, _, rfl, .inl ⟨.inr rfl, .inl upd_same⟩, RepVs.mono (Ext.frz hp) st.dj _ _ (cut_rep rs)⟩
  | str z =>
    cases (show x = .str z from r)
    obtain ⟨c, q⟩ := FinG.ite q
    exact .inr (.inr ⟨z, rfl, by rw [← lim_eq]; exact c, fin_pure q st rfl⟩)
  | _ => exact q.elim
def repO : Wd → Option Int → Option Int → Prop := fun _ a b => b = a
abbrev POV (G : Sg) (X : Cx) (W : WX) (e : Option Expr) (f : List SV → M (Option Int)) : Prop := PO X e (fun σ H Q => teG G repO W f σ H Q)
theorem PO.imp {e : Option Expr} {t t' : TO} (h : PO X e t) (i : ∀ σ H Q, t' σ H Q → t σ H Q) : PO X e t' := ⟨fun p s σ H Q I q => h.run p s σ H Q I (i σ H Q q)⟩
theorem q_none : POV G X W none (fun _ => M.pure none) := by
  refine PO.imp po_none fun σ H Q h => ?_
  obtain ⟨w0, w, sd, S, e, r, q⟩ := h
  subst e
  exact fin_pure q r.st rfl
def toI : D → M (Option Int)
  | .int i => M.pure (some i)
  | _ => M.stuck
theorem q_some {e : Expr} {f : List SV → M D} (h : PV G X W e f) : POV G X W (some e) (fun sd => M.bind (f sd) toI) := by
  refine PO.imp (po_some h) fun σ H Q h => ?_
  obtain ⟨w0, w, sd, S, e, r, q⟩ := h
  refine ⟨w0, w, sd, S, e, r, fin_step q fun w1 S1 d v e1 s1 rv q1 => ?_⟩
  cases d with
  | int i => cases (show v = .int i from rv); exact ⟨i, rfl, fin_pure q1 s1 rfl⟩
  | _ => exact q1.elim
theorem v_slice {e : Expr} {lo hi : Option Expr} {f : List SV → M D} {fl fh : List SV → M (Option Int)} {p2 pos : Pos} (cK : G.K = X.K) (he : PV G X W e f) (hl : POV G X W lo fl) (hh : POV G X W hi fh) :
    PV G X W (.Subscript e (.Slice lo hi none p2) pos) (fun sd => M.bind (f sd) fun d => M.bind (fl sd) fun l => M.bind (fh sd) fun u => dSl d l u) := by
  refine PE.imp (pe_slice (sl_D cK) he hl hh) fun σ H Q h => ?_
  obtain ⟨w0, w, sd, S, e, r, q⟩ := h
  refine ⟨w0, w, sd, S, e, r, fin_step q fun w1 S1 d v e1 s1 rv q1 => ⟨w0, w1, sd, S1, rfl, r.step e1 s1, fin_step q1 fun w2 S2 l l' e2 s2 rl q2 => ⟨w0, w2, sd, S2, rfl, (r.step e1 s1).step e2 s2, fin_step q2 fun w3 S3 u u' e3 s3 ru q3 => ?_⟩⟩⟩
  cases (show l' = l from rl)
  cases (show u' = u from ru)
  exact ⟨_, w3, S3, d, rfl, s3, RepV.mono (e2.trans e3) s1.dj d v rv, q3⟩
def dRev : D → M D
  | .lst ds => M.pure (.lst ds.reverse)
  | .scr ds => M.pure (.lst ds.reverse)
  | _ => M.stuck
def dNeg : D → M D
  | .int i => M.pure (.int (-i))
  | _ => M.stuck
theorem v_neg {a : Expr} {f : List SV → M D} {pos : Pos} (ha : PV G X W a f) : PV G X W (.UnaryOp .USub a pos) (fun sd => M.bind (f sd) dNeg) := by
  refine PE.imp (pe_un un_neg ha) fun σ H Q h => ?_
  obtain ⟨w0, w, sd, S, e, r, q⟩ := h
  refine ⟨w0, w, sd, S, e, r, fin_step q fun w1 S1 d v e1 s1 rv q1 => ?_⟩
  cases d with
  | int i => cases (show v = .int i from rv); exact ⟨i, rfl, fin_pure q1 s1 rfl⟩
  | _ => exact q1.elim
def signIn (x z : Str) : Option Bool := match x.cps.toList with
  | [c] => some (decide (c ∈ z.cps.toList))
  | _ => none
def txts : List D → Option (List Str)
  | [] => some []
  | .str x :: ds => (txts ds).map (x :: ·)
  | _ :: _ => none
def dIn (neg : Bool) (d e : D) : M D := match e with
  | .str z => match d with
    | .str x => match signIn x z with
      | some b => M.pure (.bl (if neg then !b else b))
      | none => M.stuck
    | _ => M.stuck
  | .lst ds => match toP d, toPs ds with
    | some p, some ps => if SeqAt.shaped p = true ∧ SeqAt.shaped (.list ps) = true then M.pure (.bl (if neg then !(ps.any fun z => PyData.eqv z p) else ps.any fun z => PyData.eqv z p)) else M.stuck
    | _, _ => M.stuck
  | .tup ds => match d with
    | .str x => match txts ds with
      | some xs => M.pure (.bl (if neg then !xs.contains x else xs.contains x))
      | none => M.stuck
    | _ => M.stuck
  | _ => M.stuck
theorem strs_rep : ∀ {ds : List D} {xs : List Str} {vs : List V}, txts ds = some xs → RepVs G w ds vs → vs = xs.map V.str
  | [], xs, vs, h, r => by unfold txts at h; cases h; exact r
  | .str x :: ds, xs, vs, h, r => by
    unfold txts at h
    obtain ⟨ys, h1, h2⟩ := Option.map_eq_some_iff.mp h
    subst h2
    obtain ⟨v, t, e, h3, h4⟩ := r
    rw [e, strs_rep h1 h4]
    cases (show v = .str x from h3)
    rfl
  | .non :: _, _, _, h, _ => by cases h
  | .bl _ :: _, _, _, h, _ => by cases h
  | .int _ :: _, _, _, h, _ => by cases h
  | .tup _ :: _, _, _, h, _ => by cases h
  | .lst _ :: _, _, _, h, _ => by cases h
  | .scr _ :: _, _, _, h, _ => by cases h
  | .dct _ _ :: _, _, _, h, _ => by cases h
  | .ins _ _ :: _, _, _, h, _ => by cases h
  | .ref _ :: _, _, _, h, _ => by cases h
  | .ty _ :: _, _, _, h, _ => by cases h
  | .cls _ :: _, _, _, h, _ => by cases h
  | .raw _ _ _ _ :: _, _, _, h, _ => by cases h
theorem all_flat (xs : List Str) : (xs.map V.str).all flatV = true := by
  rw [List.all_map]
  exact List.all_eq_true.mpr fun _ _ => rfl
theorem inV_strs (x : Str) (xs : List Str) : inV (.str x) (xs.map V.str) = xs.contains x := by
  unfold inV
  induction xs with
  | nil => rfl
  | cons y ys ih =>
    rw [List.map_cons, List.any_cons, ih, List.contains_cons]
    congr 1
    show eqV (.str y) (.str x) = (x == y)
    have : eqV (.str y) (.str x) = (y == x) := by first | rfl | simp [eqV]
    rw [this]
    exact Bool.beq_comm ..
theorem o_in (cK : G.K = X.K) (hr : Rm G.gd k X.A) : OpR X (compareOp .In) (rD2 G (dIn false)) := by
  have hu : X.A.units + 65 < cLine := by have := hr.room.un; omega
  refine OpR.imp (op_in_sign.or ((op_inD hu).or op_in_seq)) fun v u H Q q => ?_
  obtain ⟨W, w, S, d, e, rfl, s, r1, r2, q⟩ := q
  unfold dIn at q
  cases e with
  | str z =>
    cases d with
    | str x =>
      cases (show v = .str x from r1)
      cases (show u = .str z from r2)
      rcases hx : signIn x z with _ | b
      · simp only [hx] at q; exact q.elim
      · simp only [hx] at q
        unfold signIn at hx
        split at hx
        · rename_i c hc
          cases hx
          refine .inl ⟨c, z, ?_, rfl, fin_pure (b := V.bl _) q s rfl⟩
          congr 1
          rcases x with ⟨⟨l⟩⟩
          have : l = [c] := hc
          rw [this]
        · cases hx
    | _ => exact q.elim
  | lst ds =>
    rcases hp : toP d with _ | p
    · simp only [hp] at q; exact q.elim
    · rcases hq : toPs ds with _ | ps
      · simp only [hp, hq] at q; exact q.elim
      · simp only [hp, hq] at q
        obtain ⟨⟨c1, c2⟩, q⟩ := FinG.ite q
        have hl : toP (.lst ds) = some (.list ps) := by show (toPs ds).map _ = _; rw [hq]; rfl
        exact .inr (.inl ⟨p, ps, toP_dp cK d v p r1 hp, toP_dp cK (.lst ds) u (.list ps) r2 hl, c1, c2, fin_pure (b := V.bl _) q s rfl⟩)
  | tup ds =>
    cases d with
    | str x =>
      cases (show v = .str x from r1)
      rcases hx : txts ds with _ | xs
      · simp only [hx] at q; exact q.elim
      · simp only [hx] at q
        obtain ⟨a, vs, e, hh, rs⟩ := r2
        have ev := strs_rep hx rs
        subst ev
        refine .inr (.inr ⟨a, _, e, .inr (sqT_of cK hh), rfl, all_flat xs, ?_⟩)
        have q2 := fin_pure (b := V.bl (xs.contains x)) q s rfl
        rw [inV_strs]
        exact q2
    | _ => exact q.elim
  | _ => exact q.elim
theorem o_notin (cK : G.K = X.K) (hr : Rm G.gd k X.A) : OpR X (compareOp .NotIn) (rD2 G (dIn true)) := by
  have hu : X.A.units + 65 < cLine := by have := hr.room.un; omega
  refine OpR.imp (op_notIn_sign.or ((op_notInD hu).or op_notIn_seq)) fun v u H Q q => ?_
  obtain ⟨W, w, S, d, e, rfl, s, r1, r2, q⟩ := q
  unfold dIn at q
  cases e with
  | str z =>
    cases d with
    | str x =>
      cases (show v = .str x from r1)
      cases (show u = .str z from r2)
      rcases hx : signIn x z with _ | b
      · simp only [hx] at q; exact q.elim
      · simp only [hx] at q
        unfold signIn at hx
        split at hx
        · rename_i c hc
          cases hx
          refine .inl ⟨c, z, ?_, rfl, fin_pure (b := V.bl _) q s rfl⟩
          congr 1
          rcases x with ⟨⟨l⟩⟩
          have : l = [c] := hc
          rw [this]
        · cases hx
    | _ => exact q.elim
  | lst ds =>
    rcases hp : toP d with _ | p
    · simp only [hp] at q; exact q.elim
    · rcases hq : toPs ds with _ | ps
      · simp only [hp, hq] at q; exact q.elim
      · simp only [hp, hq] at q
        obtain ⟨⟨c1, c2⟩, q⟩ := FinG.ite q
        have hl : toP (.lst ds) = some (.list ps) := by show (toPs ds).map _ = _; rw [hq]; rfl
        exact .inr (.inl ⟨p, ps, toP_dp cK d v p r1 hp, toP_dp cK (.lst ds) u (.list ps) r2 hl, c1, c2, fin_pure (b := V.bl _) q s rfl⟩)
  | tup ds =>
    cases d with
    | str x =>
      cases (show v = .str x from r1)
      rcases hx : txts ds with _ | xs
      · simp only [hx] at q; exact q.elim
      · simp only [hx] at q
        obtain ⟨a, vs, e, hh, rs⟩ := r2
        have ev := strs_rep hx rs
        subst ev
        refine .inr (.inr ⟨a, _, e, .inr (sqT_of cK hh), rfl, all_flat xs, ?_⟩)
        have q2 := fin_pure (b := V.bl (!xs.contains x)) q s rfl
        show Q (.bl (if true = true then !inV (.str x) (xs.map V.str) else inV (.str x) (xs.map V.str))) w.H
        rw [inV_strs]
        exact q2
    | _ => exact q.elim
  | _ => exact q.elim
end
end Ev
set_option maxRecDepth 100000
set_option maxHeartbeats 2000000
namespace Ev
open PySem PySem.Spec PyProof.Rows L2
section
variable {G : Sg} {X : Cx} {W : WX} {k : Nat} {w0 w w1 : Wd} {S : List Ob} {sd : List SV} {σ : L2.St}
def chainD (g g' : D → D → M D) (fa fb fc : List SV → M D) : List SV → M D := fun sd => M.bind (fa sd) fun x => M.bind (fb sd) fun y => M.bind (g x y) fun z => M.bind (toB z) fun k => if k = true then M.bind (fc sd) fun u => g' y u else M.pure (.bl false)
theorem toB_bind {α β : Type} {rep : Wd → α → β → Prop} {W' : Value → Option Addr → Hp → Prop} {Q : β → Hp → Prop} {d : D} {v : V} {kk : Bool → M α} (h : FinG G rep W' w Q (M.bind (toB d) kk S)) (r : RepV G w d v) : ∃ b, v = .bl b ∧ FinG G rep W' w Q (kk b S) := by
  cases d with
  | bl b => exact ⟨b, r, h⟩
  | _ => exact False.elim h
theorem chain_read {g g' : D → D → M D} {fa fb fc : List SV → M D} {H : Hp} {Q : VK} (h : teV G W (chainD g g' fa fb fc) σ H Q) : tChain (rD2 G g) (rD2 G g') (teV G W fa) (teV G W fb) (teV G W fc) σ H Q := by
  obtain ⟨w0, w, sd, S, e, r, q⟩ := h
  refine ⟨w0, w, sd, S, e, r, fin_step q fun w1 S1 d v e1 s1 rv q1 => ⟨w0, w1, sd, S1, rfl, r.step e1 s1, fin_step q1 fun w2 S2 d2 v2 e2 s2 rv2 q2 => ?_⟩⟩
  refine ⟨_, w2, S2, d, d2, rfl, s2, RepV.mono e2 s1.dj d v rv, rv2, fin_step q2 fun w3 S3 z vz e3 s3 rz q3 => ?_⟩
  obtain ⟨b, ev, q4⟩ := toB_bind q3 rz
  refine ⟨b, ev, ?_⟩
  cases b with
  | false => exact fin_pure (b := V.bl false) q4 s3 rfl
  | true =>
    refine ⟨w0, w3, sd, S3, rfl, ((r.step e1 s1).step e2 s2).step e3 s3, fin_step q4 fun w4 S4 d4 v4 e4 s4 rv4 q5 => ?_⟩
    exact ⟨_, w4, S4, d2, d4, rfl, s4, RepV.mono (e3.trans e4) s2.dj d2 v2 rv2, rv4, q5⟩
theorem marks_of {op op' : CmpOp} {b c : Expr} (h : behindInMarks op' c = false) : lastMarks [op, op'] [b, c] = false := h
theorem v_chain' {op op' : CmpOp} {g g' : D → D → M D} {a b c : Expr} {fa fb fc : List SV → M D} {pos : Pos} (ho : OpR X (compareOp op) (rD2 G g)) (ho' : OpR X (compareOp op') (rD2 G g')) (ha : PV G X W a fa) (hb : PV G X W b fb) (hc : PV G X W c fc)
    (hm : behindInMarks op' c = false) : PV G X W (.Compare a [op, op'] [b, c] pos) (chainD g g' fa fb fc) := PE.imp (pe_chain ho ho' ha hb hc (marks_of hm)) fun σ H Q h => chain_read h
theorem b_chain {op op' : CmpOp} {g g' : D → D → M D} {a b c : Expr} {fa fb fc : List SV → M D} {pos : Pos} (ho : OpR X (compareOp op) (rD2 G g)) (ho' : OpR X (compareOp op') (rD2 G g')) (ha : PV G X W a fa) (hb : PV G X W b fb) (hc : PV G X W c fc)
    (hm : behindInMarks op' c = false) : PB G X W (.Compare a [op, op'] [b, c] pos) (fun sd => M.bind (chainD g g' fa fb fc sd) toB) := by
  refine PT.imp (pt_chain ho ho' ha hb hc (marks_of hm)) fun σ H Q h => ?_
  obtain ⟨w0, w, sd, S, e, r, q⟩ := h
  exact chain_read ⟨w0, w, sd, S, e, r, fin_step q fun w1 S1 d v e1 s1 rv q1 => toB_fin q1 s1 rv⟩
theorem reps_strs : ∀ ys : List Str, RepVs G w (ys.map D.str) (ys.map V.str)
  | [] => rfl
  | y :: ys => ⟨.str y, _, rfl, rfl, reps_strs ys⟩
def isStr : D → M Str
  | .str x => M.pure x
  | _ => M.stuck
def dSplit (a : Str) : D → M D
  | .str b => if (b.length == 0) = false ∧ a.length + 2 ≤ lim then M.pure (.lst ((Txt.split a b).map .str)) else M.stuck
  | _ => M.stuck
def dJoin (a : Str) (e : D) : M D := match e with
  | .lst ds => match txts ds with
    | some ys => if (ys.map (·.length)).sum + ys.length * a.length ≤ 16777216 then M.pure (.str (Txt.join a ys)) else M.stuck
    | none => M.stuck
  | .tup ds => match txts ds with
    | some ys => if (ys.map (·.length)).sum + ys.length * a.length ≤ 16777216 then M.pure (.str (Txt.join a ys)) else M.stuck
    | none => M.stuck
  | _ => M.stuck
theorem isStr_bind {α β : Type} {rep : Wd → α → β → Prop} {W' : Value → Option Addr → Hp → Prop} {Q : β → Hp → Prop} {d : D} {v : V} {kk : Str → M α} (h : FinG G rep W' w Q (M.bind (isStr d) kk S)) (r : RepV G w d v) : ∃ b, v = .str b ∧ FinG G rep W' w Q (kk b S) := by
  cases d with
  | str b => exact ⟨b, r, h⟩
  | _ => exact False.elim h
theorem v_split {o e : Expr} {fo fe : List SV → M D} {apos pos : Pos} (ho : PV G X W o fo) (he : PV G X W e fe) (hs : notStar e = true) (hb : plainBase o = true) (hp : (apos.endLine == pos.line) = true) :
    PV G X W (.Call (.Attribute o "split" apos) [e] [] pos) (fun sd => M.bind (fo sd) fun d => M.bind (isStr d) fun a => M.bind (fe sd) fun b => dSplit a b) := by
  refine PE.imp (pe_split ho he (by rw [starEach_cons hs]; rfl) (attr_base hb) hp) fun σ H Q h => ?_
  obtain ⟨w0, w, sd, S, e, r, q⟩ := h
  refine ⟨w0, w, sd, S, e, r, fin_step q fun w1 S1 d v e1 s1 rv q1 => ?_⟩
  obtain ⟨a, ev, q2⟩ := isStr_bind q1 rv
  refine ⟨⟨a, ev⟩, w0, w1, sd, S1, rfl, r.step e1 s1, fin_step q2 fun w2 S2 d2 v2 e2 s2 rv2 q3 => ?_⟩
  cases d2 with
  | str b =>
    cases (show v2 = .str b from rv2)
    obtain ⟨⟨c1, c2⟩, q4⟩ := FinG.ite q3
    exact ⟨a, b, ev, rfl, c1, by rw [← lim_eq]; exact c2, fun p hp => q4 (w2.frz p _) _ (Ext.frz hp) (s2.frz hp) ⟨p, _, rfl, .inr rfl, upd_same, reps_strs _⟩⟩
  | _ => exact q3.elim
theorem v_join {o e : Expr} {fo fe : List SV → M D} {apos pos : Pos} (cK : G.K = X.K) (ho : PV G X W o fo) (he : PV G X W e fe) (hs : notStar e = true) (hb : plainBase o = true) (hp : (apos.endLine == pos.line) = true) :
    PV G X W (.Call (.Attribute o "join" apos) [e] [] pos) (fun sd => M.bind (fo sd) fun d => M.bind (isStr d) fun a => M.bind (fe sd) fun b => dJoin a b) := by
  refine PE.imp (pe_join ho he (by rw [starEach_cons hs]; rfl) (attr_base hb) hp) fun σ H Q h => ?_
  obtain ⟨w0, w, sd, S, e, r, q⟩ := h
  refine ⟨w0, w, sd, S, e, r, fin_step q fun w1 S1 d v e1 s1 rv q1 => ?_⟩
  obtain ⟨a, ev, q2⟩ := isStr_bind q1 rv
  refine ⟨⟨a, ev⟩, w0, w1, sd, S1, rfl, r.step e1 s1, fin_step q2 fun w2 S2 d2 v2 e2 s2 rv2 q3 => ?_⟩
  unfold dJoin at q3
  cases d2 with
  | lst ds =>
    rcases ht : txts ds with _ | ys
    · simp only [ht] at q3; exact q3.elim
    · simp only [ht] at q3
      obtain ⟨c1, q4⟩ := FinG.ite q3
      obtain ⟨p, vs, e3, f, hh, rs⟩ := rv2
      have e4 := strs_rep ht rs
      subst e4
      exact ⟨a, p, ys, ev, by rw [e3], .inl (.of hh), c1, fin_pure q4 s2 rfl⟩
  | tup ds =>
    rcases ht : txts ds with _ | ys
    · simp only [ht] at q3; exact q3.elim
    · simp only [ht] at q3
      obtain ⟨c1, q4⟩ := FinG.ite q3
      obtain ⟨p, vs, e3, hh, rs⟩ := rv2
      have e4 := strs_rep ht rs
      subst e4
      exact ⟨a, p, ys, ev, by rw [e3], .inr (sqT_of cK hh), c1, fin_pure q4 s2 rfl⟩
  | _ => exact q3.elim
def subT (a b : TyN) : Bool := a = b || (a = .bool && b = .int)
theorem kitT {K : PySem.W.Frag} (a b : TyN) : PySem.W.kitOne K (.type a.name) (.type b.name) = some (subT a b) := by
  cases a <;> cases b <;> exact kit_ty (by decide +kernel)
structure ClsT (X : Cx) (G : Sg) (known : Nat → Bool) (sub : Nat → Nat → Option Bool) : Prop where
  cl : ∀ c, known c = true → Cls X.K (G.ca c) ∧ PySem.W.findIn X.K (.ref (G.ca c)) "__class__" = some (some (.builtin "object.__class__")) ∧ PySem.W.mroIn X.K (G.ca c) (.type "object") = some true
  hn : PySem.W.specialIn X.K (.builtin "object.__class__") "__get__" = some (some (.builtin "getset_descriptor.__get__"))
  ht : PySem.W.takesIn X.K (.builtin "object.__class__") = some true
  cc : ∀ c c' b, sub c c' = some b → PySem.W.kitOne X.K (.ref (G.ca c)) (.ref (G.ca c')) = some b
  ct : ∀ c t, known c = true → PySem.W.kitOne X.K (.ref (G.ca c)) (.type (TyN.name t)) = some false
  tc : ∀ t c, known c = true → PySem.W.kitOne X.K (.type (TyN.name t)) (.ref (G.ca c)) = some false
def tyOf (d : D) : M (Sum TyN Nat) := fun S => match d with
  | .non => some (.ok (.inl .none_), S)
  | .bl _ => some (.ok (.inl .bool), S)
  | .int _ => some (.ok (.inl .int), S)
  | .str _ => some (.ok (.inl .str), S)
  | .tup _ => some (.ok (.inl .tuple), S)
  | .lst _ => some (.ok (.inl .list), S)
  | .scr _ => some (.ok (.inl .list), S)
  | .dct _ _ => some (.ok (.inl .dict), S)
  | .ins c _ => some (.ok (.inr c), S)
  | .ref n => match S[n]? with
    | some (.lst _) => some (.ok (.inl .list), S)
    | some (.dct _ _) => some (.ok (.inl .dict), S)
    | some (.ins c _) => some (.ok (.inr c), S)
    | _ => none
  | _ => none
def isaD (known : Nat → Bool) (sub : Nat → Nat → Option Bool) (t : Sum TyN Nat) : D → Option Bool
  | .ty b => match t with
    | .inl a => some (subT a b)
    | .inr c => if known c = true then some false else none
  | .cls c' => match t with
    | .inl _ => if known c' = true then some false else none
    | .inr c => if known c = true then sub c c' else none
  | _ => none
def dIsa (known : Nat → Bool) (sub : Nat → Nat → Option Bool) (d e : D) : M D := M.bind (tyOf d) fun t => match isaD known sub t e with
  | some b => M.pure (.bl b)
  | none => M.stuck
def tyV' (G : Sg) : Sum TyN Nat → Value
  | .inl t => .type t.name
  | .inr c => .ref (G.ca c)
theorem tyOf_rep {d : D} {v : V} {t : Sum TyN Nat} {S' : List Ob} {known : Nat → Bool} {sub : Nat → Nat → Option Bool} (cK : G.K = X.K) (T : ClsT X G known sub) (s : RepS G w S) (r : RepV G w d v) (h : tyOf d S = some (.ok t, S')) (hk : ∀ c, t = .inr c → known c = true) : S' = S ∧ TyX X.K w.H v (tyV' G t) := by
  have insX : ∀ {a dx : Addr} {fs : List (Str × V)} {c : Nat}, w.H a = some (.ins (G.ca c) dx fs) → known c = true → TyX X.K w.H (.ref a) (.ref (G.ca c)) := fun e hc => by
    obtain ⟨h1, h2, h3⟩ := T.cl _ hc
    exact .base (.ins e h1 h2 T.hn T.ht h3)
  unfold tyOf at h
  cases d with
  | non => cases h; cases (show v = .non from r); exact ⟨rfl, .base .non⟩
  | bl b => cases h; cases (show v = .bl b from r); exact ⟨rfl, .base (.bl b)⟩
  | int b => cases h; cases (show v = .int b from r); exact ⟨rfl, .base (.int b)⟩
  | str b => cases h; cases (show v = .str b from r); exact ⟨rfl, .base (.str b)⟩
  | tup ds =>
    cases h
    obtain ⟨a, vs, e, hh, rs⟩ := r
    subst e
    rcases hh with ⟨_, hh | ⟨o, hh⟩⟩ | ⟨o, its, n, h1, h2, _⟩
    · exact ⟨rfl, .base (.tup hh)⟩
    · exact ⟨rfl, .fTuple hh⟩
    · exact ⟨rfl, .kTuple (by rw [← cK]; exact h1) h2⟩
  | lst ds =>
    cases h
    obtain ⟨a, vs, e, f, hh, rs⟩ := r
    subst e
    exact ⟨rfl, .base (.lst hh)⟩
  | scr ds =>
    cases h
    obtain ⟨a, vs, e, hh, rs⟩ := r
    subst e
    rcases hh with ⟨_, hh | ⟨o, hh⟩⟩ | ⟨o, its, n, h1, h2, _⟩
    · exact ⟨rfl, .base (.lst hh)⟩
    · exact ⟨rfl, .base (.frz hh)⟩
    · exact ⟨rfl, .kList (by rw [← cK]; exact h1) h2⟩
  | dct ks ds =>
    cases h
    obtain ⟨a, vs, e, f, hh, _⟩ := r
    subst e
    exact ⟨rfl, .base (.dK hh)⟩
  | ins c ds =>
    cases h
    obtain ⟨a, dx, vs, e, f, hh, _⟩ := r
    subst e
    exact ⟨rfl, insX hh (hk c rfl)⟩
  | ref n =>
    obtain ⟨a, e, hm⟩ := r
    subst e
    rcases hn : S[n]? with _ | ⟨ds | ⟨ks, ds⟩ | ⟨c, ds⟩ | jt⟩
    · simp only [hn] at h; cases h
    · simp only [hn] at h
      cases h
      obtain ⟨vs, hh, _⟩ := s.ob n a _ hm hn
      exact ⟨rfl, .base (.lst hh)⟩
    · simp only [hn] at h
      cases h
      obtain ⟨vs, hh, _⟩ := s.ob n a _ hm hn
      exact ⟨rfl, .base (.dK hh)⟩
    · simp only [hn] at h
      cases h
      obtain ⟨dx, vs, hh, _⟩ := s.ob n a _ hm hn
      exact ⟨rfl, insX hh (hk c rfl)⟩
    · simp only [hn] at h; cases h
  | ty t => cases h
  | cls c => cases h
  | raw _ _ _ _ => cases h
theorem tyOf_noerr {d : D} {S' : List Ob} {x : Exn} : tyOf d S ≠ some (.error x, S') := by
  intro h
  unfold tyOf at h
  cases d with
  | ref n => rcases hn : S[n]? with _ | ⟨ds | ⟨ks, ds⟩ | ⟨c, ds⟩ | jt⟩ <;> simp [hn] at h
  | _ => simp at h
theorem c_isa {known : Nat → Bool} {sub : Nat → Nat → Option Bool} (cK : G.K = X.K) (T : ClsT X G known sub) : CallR X (.builtin "isinstance") (rDs G (on2 (dIsa known sub))) := by
  refine CallR.imp call_isi fun vs H Q h => ?_
  obtain ⟨W, w, S, d, e, v, u, rfl, s, rfl, r, r', q⟩ := on2_of h
  unfold dIsa M.bind at q
  rcases ht : tyOf d S with _ | ⟨x | t, S2⟩
  · rw [ht] at q; exact q.elim
  · exact absurd ht tyOf_noerr
  · rw [ht] at q
    simp only at q
    rcases hi : isaD known sub t e with _ | b
    · simp only [hi] at q; exact q.elim
    · simp only [hi] at q
      have hk : ∀ c, t = .inr c → known c = true := fun c e2 => by
        subst e2
        unfold isaD at hi
        cases e with
        | ty b => by_cases hc : known c = true
                  · exact hc
                  · simp [hc] at hi
        | cls c' => by_cases hc : known c = true
                    · exact hc
                    · simp [hc] at hi
        | _ => simp at hi
      obtain ⟨rfl, ty⟩ := tyOf_rep cK T s r ht hk
      have kit : ∃ c, ClsV u c ∧ PySem.W.kitOne X.K (tyV' G t) c = some b := by
        unfold isaD at hi
        cases e with
        | ty y =>
          cases (show u = .ty y.name from r')
          refine ⟨.type y.name, .ty _, ?_⟩
          rcases t with a | c
          · simp only [Option.some.injEq] at hi
            subst hi
            exact kitT a y
          · have hc := hk c rfl
            simp only [hc, if_true, Option.some.injEq] at hi
            subst hi
            exact T.ct c y hc
        | cls c' =>
          cases (show u = .ref (G.ca c') from r')
          refine ⟨.ref (G.ca c'), .own _, ?_⟩
          rcases t with a | c
          · by_cases hc : known c' = true
            · simp only [hc, if_true, Option.some.injEq] at hi
              subst hi
              exact T.tc a c' hc
            · simp [hc] at hi
          · have hc := hk c rfl
            simp only [hc, if_true] at hi
            exact T.cc c c' b hi
        | _ => simp at hi
      obtain ⟨cc, h1, h2⟩ := kit
      exact ⟨v, u, tyV' G t, cc, b, rfl, h1, ty, h2, fin_pure q s rfl⟩
end
end Ev
set_option maxRecDepth 100000
set_option maxHeartbeats 2000000
namespace Ev
open PySem PySem.Spec PyProof.Rows L2
def FnS (P : Program) (w : World) (K : PySem.W.Frag) (mg : Str → Option Value) (base : Heap) (b : Bool) (k : Nat) (f : Addr) (sp : Sp) : Prop :=
  ∀ (A : Around) (fr : List Env) (s : Shared) (H : Hp) (us : List Value) (vs : List V) (Q : VK) (E : XK),
    Rm b k A → Env0 P w K mg base A fr s H → Vals vs us → sp vs H Q E → codeAny (model P w) A (.call (.ref f) ⟨us, []⟩) (CR (L2N.CX P w) fr P w H s Q E) s
def finR : Option (Out × List Ob) → Option (Except Exn D × List Ob)
  | some (.next _, S) => some (.ok .non, S)
  | some (.ret d, S) => some (.ok d, S)
  | some (.err e _, S) => some (.error e, S)
  | _ => none
def slots (n : Nat) (sv : List SV) : List SV := sv ++ List.replicate (n - sv.length) .no
def runFn (m n : Nat) (ms : MS) : List D → M D := fun ds S => if ds.length = m then finR (ms (slots n (ds.map .val)) S) else none
def mkR (c : Nat) : Option (Out × List Ob) → Option (Except Exn D × List Ob)
  | some (.next sd, S) => match sd[0]? with
    | some (SV.own (Ob.ins c' es)) => if c' = c then some (.ok (.ins c es), S) else none
    | _ => none
  | some (.err e _, S) => some (.error e, S)
  | _ => none
def mkFn (c m n : Nat) (ms : MS) : List D → M D := fun ds S => if ds.length + 1 = m then mkR c (ms (slots n (.own (.ins c []) :: ds.map .val)) S) else none
def mkStar (c m n : Nat) (ms : MS) : List D → M D := fun ds => if m ≤ ds.length + 1 ∧ ds.length + 1 < m + lim then mkFn c (m + 1) n ms (ds.take (m - 1) ++ [.tup (ds.drop (m - 1))]) else M.stuck
section
variable {P : Program} {w : World} {K : PySem.W.Frag} {mg : Str → Option Value} {base : Heap} {G : Sg} {k : Nat} {f : Addr} {x qual : Str} {st : Stmt} {fd : FuncData} {N ps : List Str} {ms : MS}
abbrev XF (P : Program) (w : World) (K : PySem.W.Frag) (mg : Str → Option Value) (base : Heap) (N : List Str) (qual : Str) (st : Stmt) (f : Addr) (cdv : Value) (A : Around) (fr : List Env) (s : Shared) (H : Hp) (E : XK) : Cx :=
  cxOf (L2N.CX P w) P w K mg base N qual (defScope st) f cdv A fr s H E
abbrev WF (E : XK) : WX := fun c d _ H => E c d H
def Body (P : Program) (w : World) (K : PySem.W.Frag) (mg : Str → Option Value) (base : Heap) (G : Sg) (k : Nat) (f : Addr) (N : List Str) (qual : Str) (st : Stmt) (ms : MS) : Prop :=
  ∀ (cdv : Value) (A : Around) (fr : List Env) (s : Shared) (H : Hp) (E : XK), Ctx G (XF P w K mg base N qual st f cdv A fr s H E) (WF E) k → PSsV G (XF P w K mg base N qual st f cdv A fr s H E) (WF E) (defBody st) ms
def spT (G : Sg) (N : List Str) (ms : MS) : Sp := fun vs H Q E => tsV G (WF E) ms { nx := fun _ H' => Q .non H', rt := Q } (start N vs) H
theorem ctxF (cK : G.K = K) (SC : FnScope N ps (defScope st)) {cdv : Value} {A : Around} {fr : List Env} {s : Shared} {H : Hp} {E : XK} (hr : Rm G.gd (k + 1) (A.deeper (envOfC qual (defScope st) s.heap.objs.size f cdv))) :
    Ctx G (XF P w K mg base N qual st f cdv A fr s H E) (WF E) k := ⟨cK, rfl, hr, SC.nd, fun σ => L2N.passAt (L2N.takes_of rfl rfl rfl rfl) σ, L2.passes_of rfl⟩
theorem fns_rule (F : Fun K x qual st f fd) (SC : FnScope N ps (defScope st)) (hb : Binds K fd ps []) (cK : G.K = K) (B : Body P w K mg base G k f N qual st ms) :
    FnS P w K mg base G.gd (k + 2) f (fun vs H Q E => vs.length = ps.length ∧ spT G N ms vs H Q E) := by
  obtain ⟨oc, od, kV, doc, pm, an, cdv, ct, osl, rfl, lk, hcd⟩ := F.ex
  have g := gn_of (sp := fun vs H Q E => vs.length = ps.length ∧ spT G N ms vs H Q E) (P := P) (w := w) (mg := mg) (base := base) (k := k + 1) lk hcd SC (fun _ _ _ _ z => z.1) (fun A fr s H vs Q E hr hsp => ⟨_, B cdv A fr s H E (ctxF cK SC hr), hsp.2⟩)
  intro A fr s H us vs Q E hr e0 r h
  have inK : K.In s.heap := e0.mod.kin.keeps fun b o e => (e0.bs b o e).1
  have b2 := hb s us inK (by rw [List.append_nil, ← r.length]; exact h.1)
  rw [List.append_nil] at b2
  exact g.run A fr s H ⟨us, []⟩ us vs Q E hr e0 b2 r h
theorem slots_val {n i : Nat} {ds : List D} {d : D} (h : (slots n (ds.map .val))[i]? = some (.val d)) : ds[i]? = some d := by
  unfold slots at h
  by_cases l : i < (ds.map SV.val).length
  · rw [List.getElem?_append_left l, List.getElem?_map] at h
    cases e : ds[i]? with
    | none => rw [e] at h; cases h
    | some y => rw [e] at h; cases h; rfl
  · rw [List.getElem?_append_right (Nat.le_of_not_lt l), List.getElem?_replicate] at h
    split at h <;> cases h
theorem slots_own {n i : Nat} {ds : List D} {o : Ob} (h : (slots n (ds.map .val))[i]? = some (.own o)) : False := by
  unfold slots at h
  by_cases l : i < (ds.map SV.val).length
  · rw [List.getElem?_append_left l, List.getElem?_map] at h
    cases e : ds[i]? with
    | none => rw [e] at h; cases h
    | some y => rw [e] at h; cases h
  · rw [List.getElem?_append_right (Nat.le_of_not_lt l), List.getElem?_replicate] at h
    split at h <;> cases h
theorem start_get {vs : List V} {i : Nat} {v : V} (h : vs[i]? = some v) : (start N vs)[i]? = some (some v) := by
  unfold L2.start
  have l : i < vs.length := (List.getElem?_eq_some_iff.mp h).1
  rw [List.getElem?_append_left (by simpa using l), List.getElem?_map, h]
  rfl
theorem start_len {vs : List V} (h : vs.length ≤ N.length) : (start N vs).length = N.length := by
  unfold L2.start
  rw [List.length_append, List.length_map, List.length_replicate]
  omega
theorem slots_len {n : Nat} {sv : List SV} (h : sv.length ≤ n) : (slots n sv).length = n := by
  unfold slots
  rw [List.length_append, List.length_replicate]
  omega
theorem R.enter {wd : Wd} {ds : List D} {vs : List V} {S : List Ob} (s : RepS G wd S) (r : RepVs G wd ds vs) (h : ds.length ≤ N.length) : R G wd wd (slots N.length (ds.map .val)) S (start N vs) := by
  refine ⟨Ext.refl wd, s, ?_, fun i d e => ?_, fun i o e => (slots_own e).elim, fun i j o o' a e => (slots_own e).elim, fun a o _ e => (slots_own e).elim⟩
  · rw [start_len (by rw [← r.length]; exact h), slots_len (by simpa using h)]
  · obtain ⟨v, h1, h2⟩ := r.get (slots_val e)
    exact ⟨v, start_get h1, h2⟩
theorem fin_body {wd : Wd} {ds : List D} {vs : List V} {S : List Ob} {H : Hp} {Q : VK} {E : XK} (eH : wd.H = H) (s : RepS G wd S) (r : RepVs G wd ds vs) (h : ds.length ≤ N.length) (q : FinG G (RepV G) E wd Q (finR (ms (slots N.length (ds.map .val)) S))) : spT G N ms vs H Q E := by
  refine ⟨wd, wd, _, S, eH, R.enter s r h, ?_⟩
  rcases hm : ms (slots N.length (ds.map .val)) S with _ | ⟨_ | _ | _ | _ | _, S1⟩
  · rw [hm] at q; exact q
  · rw [hm] at q
    exact fun w' σ' _ r' => q w' .non r'.ex r'.st rfl
  · rw [hm] at q
    exact fun w' v e s' rv => q w' v e s' rv
  · rw [hm] at q; exact q.elim
  · rw [hm] at q; exact q.elim
  · rw [hm] at q
    exact fun w' σ' cls y _ r' rx => q w' cls y r'.ex r'.st rx
theorem fna_rule (F : Fun K x qual st f fd) (SC : FnScope N ps (defScope st)) (hb : Binds K fd ps []) (cK : G.K = K) (B : Body P w K mg base G k f N qual st ms) {m n : Nat} (em : ps.length = m) (en : N.length = n) (hmn : m ≤ n) :
    FnA P w K mg base G (k + 2) f (runFn m n ms) := by
  have z := fns_rule (P := P) (w := w) (mg := mg) (base := base) F SC hb cK B
  refine ⟨fun A fr s H us vs Q E hr e0 r ⟨wd, ds, S, eH, rs, rv, q⟩ => z A fr s H us vs Q E hr e0 r ?_, F.kp⟩
  unfold runFn at q
  split at q
  · next e =>
    subst em en
    exact ⟨by rw [← rv.length]; exact e, fin_body eH rs rv (by omega) q⟩
  · exact q.elim
theorem cxUpN {P : Program} {w : World} : StX.CXUp (L2N.CX P w) := by
  intro outer s H s2 H2 E e s' un kp ho c
  obtain ⟨a, B, Ho, cls, d, ea, fl, hok, ub, na, os, ag, he⟩ := c
  have gone : ∀ b o, s.heap.get? b = some o → H b = none → H2 b = none := fun b o q n => un.free b o q n (by simp)
  refine ⟨a, B, Ho, cls, d, ea, fl, hok, ?_, na, os.trans ho, ag, he⟩
  constructor
  · intro b o q n hb
    exact ub.keep b o (kp b o q) (gone b o q n) hb
  · intro b o q hb
    exact ub.slot b o (kp b o q) hb
  · intro b o q n
    exact ub.free b o (kp b o q) (gone b o q n)
  · intro b o q hb
    exact ub.there b o (kp b o q) hb
  · intro b xs q
    exact ub.tups b xs (un.tups b xs q)
  · intro b o xs q
    exact ub.frzs b o xs (un.frzs b o xs q)
  · intro b ps q
    obtain ⟨x1, y1⟩ := un.tbls b ps q
    obtain ⟨x2, y2⟩ := ub.tbls b _ y1
    exact ⟨x1 ++ x2, by rw [y2, Array.append_assoc]⟩
theorem fns_starred {pv : Str} (F : Fun K x qual st f fd) (SC : FnScope N (ps ++ [pv]) (defScope st)) (cK : G.K = K) (B : Body P w K mg base G k f N qual st ms)
    (hb : ∀ (kV doc pm : Value) (an : Option Addr) (cdv ct : Value) (us rest : List Value), us.length = ps.length → bindArgs (PySem.W.fnOf x qual (defArgs st) (defBody st) (defScope st) .none kV doc pm an cdv ct) ⟨us ++ rest, []⟩ = (newTuple rest >>= fun t => pure (ps.zip us ++ [(pv, t)]))) :
    FnS P w K mg base G.gd (k + 2) f (fun vs H Q E => ∃ ws more, vs = ws ++ more ∧ ws.length = ps.length ∧ more.length ≤ sizeLine ∧ ∀ p, H p = none → spT G N ms (ws ++ [V.ref p]) (upd H p (.tup more)) Q E) := by
  obtain ⟨oc, od, kV, doc, pm, an, cdv, ct, osl, rfl, lk, hcd⟩ := F.ex
  rintro A fr s H us vs Q E hr e0 r ⟨ws, more, rfl, lw, lm, q⟩
  obtain ⟨u1, u2, rfl, r1, r2⟩ := StX.vals_split r
  have free : H s.heap.objs.size = none := e0.hok.fresh (Nat.le_refl _)
  refine StX.run_bnd (CX := L2N.CX P w) (k := k + 1) lk hcd SC hr.room e0 (G := fun xs H2 => ∃ p, H p = none ∧ xs = ws ++ [V.ref p] ∧ H2 = upd H p (.tup more)) ?_ ?_
  · intro A' Ex Q' h
    have l1 : u1.length = ps.length := r1.length.symm.trans lw
    have l2 : u2.length ≤ sizeLine := r2.length ▸ lm
    rw [hb _ _ _ _ _ _ u1 u2 l1]
    refine wpAny_bind (wpAny_newTuple (wpAny_pure ?_) l2)
    have made : ObjOk P w (upd H s.heap.objs.size (.tup more)) (s.heap.push { cls := .type "tuple", data := .seq u2.toArray }) s.heap.objs.size (.tup more) := ⟨lm, u2, r2, _, Heap.get?_push_size _ rfl, rfl, _, rfl⟩
    have keep := StX.un_laid (fs := frs fr) (o := ({ cls := .type "tuple", data := .seq u2.toArray } : Obj)) (u := .tup more) free
    have got := h _ _ (ws ++ [V.ref s.heap.objs.size]) (u1 ++ [Value.ref s.heap.objs.size]) (StX.env0_laid e0 made) keep rfl (fun e s' => cxUpN fr s H _ _ E e s' keep (fun b o y => Heap.get?_push_of_some _ y) rfl)
      (r1.append (.cons rfl .nil)) (by simp [lw]) ⟨_, free, rfl, rfl⟩
    rwa [List.zip_append l1.symm] at got
  · rintro s2 H2 xs ⟨p, hp, rfl, rfl⟩ hr2
    exact ⟨_, B cdv A fr s2 _ E (ctxF cK SC ⟨hr2, hr.gd⟩), q p hp⟩
theorem rep_tail {wd : Wd} : ∀ (m : Nat) {ds : List D} {vs : List V}, RepVs G wd ds vs → m ≤ ds.length → ∃ a b, vs = a ++ b ∧ a.length = m ∧ RepVs G wd (ds.take m) a ∧ RepVs G wd (ds.drop m) b := fun m ds vs r h =>
  ⟨vs.take m, vs.drop m, (List.take_append_drop m vs).symm, by rw [List.length_take, ← r.length]; omega, r.take m, r.drop m⟩
end
end Ev
set_option maxRecDepth 100000
set_option maxHeartbeats 2000000
namespace Ev
open PySem PySem.Spec PyProof.Rows L2
def spN (G : Sg) (c : Nat) (sem : List D → M D) : Sp := fun vs' H' Q' E => ∃ (x dx : Addr) (vs : List V) (H : Hp) (Q : VK), vs' = V.ref x :: vs ∧ H' = upd (upd H dx (.own x)) x (.ins (G.ca c) dx []) ∧ H x = none ∧ H dx = none ∧ dx ≠ x ∧
  (Q' = fun v H2 => v = V.non ∧ Q (.ref x) H2) ∧ spV G sem vs H Q E
structure ClA (P : Program) (w : World) (K : PySem.W.Frag) (mg : Str → Option Value) (base : Heap) (G : Sg) (k c : Nat) (sem : List D → M D) : Prop where
  ex : ∃ f, Mk K (G.ca c) f ∧ FnS P w K mg base G.gd k f (spN G c sem)
theorem ClA.mono {P : Program} {w : World} {K : PySem.W.Frag} {mg : Str → Option Value} {base : Heap} {G : Sg} {j k c : Nat} {sem : List D → M D} (F : ClA P w K mg base G j c sem) (h : j ≤ k) : ClA P w K mg base G k c sem :=
  ⟨let ⟨f, M, g⟩ := F.ex; ⟨f, M, fun A fr s H us vs Q E hr => g A fr s H us vs Q E (hr.mono h)⟩⟩
section
variable {P : Program} {w : World} {K : PySem.W.Frag} {mg : Str → Option Value} {base : Heap} {G : Sg} {k c : Nat} {f : Addr} {x qual : Str} {st : Stmt} {fd : FuncData} {N ps : List Str} {ms : MS}
theorem R.enterI {wd w1 : Wd} {ds : List D} {vs : List V} {S : List Ob} {a dx : Addr} (e : Ext wd w1) (s : RepS G w1 S) (r : RepVs G w1 ds vs) (h : ds.length + 1 ≤ N.length) (ha : w1.H a = some (.ins (G.ca c) dx [])) (nF : ¬ w1.F a) (nm : a ∉ w1.m) (n0 : wd.H a = none) :
    R G { wd with x := some a } w1 (slots N.length (.own (.ins c []) :: ds.map .val)) S (L2.start N (V.ref a :: vs)) := by
  have hd : ∀ {i : Nat} {y : SV}, (slots N.length (SV.own (.ins c []) :: ds.map .val))[i]? = some y → (i = 0 ∧ y = .own (.ins c [])) ∨ (∃ j, i = j + 1 ∧ (slots (N.length - 1) (ds.map SV.val))[j]? = some y) := fun {i y} z => by
    cases i with
    | zero =>
      refine .inl ⟨rfl, ?_⟩
      unfold slots at z
      simp at z
      exact z.symm
    | succ j =>
      refine .inr ⟨j, rfl, ?_⟩
      unfold slots at z ⊢
      have e1 : N.length - (SV.own (Ob.ins c []) :: ds.map SV.val).length = N.length - 1 - (ds.map SV.val).length := by
        rw [List.length_cons]
        omega
      rw [e1, List.cons_append, List.getElem?_cons_succ] at z
      exact z
  have s0 : (L2.start N (V.ref a :: vs))[0]? = some (some (V.ref a)) := start_get rfl
  refine ⟨⟨e.m, e.F, e.H, e.nm, e.nF, e.al⟩, s, ?_, fun i d z => ?_, fun i o z => ?_, fun i j o o' b z1 z2 _ _ => ?_, fun b o eb z => ?_⟩
  · have l : vs.length = ds.length := r.length.symm
    rw [start_len (by rw [List.length_cons, l]; exact h), slots_len (by rw [List.length_cons, List.length_map]; exact h)]
  · rcases hd z with ⟨_, e2⟩ | ⟨j, rfl, z2⟩
    · cases e2
    · obtain ⟨v, h1, h2⟩ := r.get (slots_val z2)
      exact ⟨v, start_get (by rw [List.getElem?_cons_succ]; exact h1), h2⟩
  · rcases hd z with ⟨rfl, e2⟩ | ⟨j, rfl, z2⟩
    · cases e2
      exact ⟨a, s0, ⟨dx, [], by rw [List.zip_nil_right]; exact ha, Nat.zero_le _, rfl⟩, nF, nm, n0⟩
    · exact (slots_own z2).elim
  · rcases hd z1 with ⟨e1, _⟩ | ⟨j1, _, z1⟩
    · rcases hd z2 with ⟨e2, _⟩ | ⟨j2, _, z2⟩
      · rw [e1, e2]
      · exact (slots_own z2).elim
    · exact (slots_own z1).elim
  · cases eb
    exact s0
theorem fin_mk {wd w1 : Wd} {ds : List D} {vs : List V} {S : List Ob} {a dx : Addr} {Q : VK} {E : XK} (e : Ext wd w1) (s : RepS G w1 S) (r : RepVs G w1 ds vs) (h : ds.length + 1 ≤ N.length) (ha : w1.H a = some (.ins (G.ca c) dx [])) (nF : ¬ w1.F a) (nm : a ∉ w1.m) (n0 : wd.H a = none)
    (q : FinG G (RepV G) E wd Q (mkR c (ms (slots N.length (.own (.ins c []) :: ds.map .val)) S))) : spT G N ms (V.ref a :: vs) w1.H (fun v H2 => v = .non ∧ Q (.ref a) H2) E := by
  refine ⟨{ wd with x := some a }, w1, _, S, rfl, R.enterI e s r h ha nF nm n0, ?_⟩
  rcases hm : ms (slots N.length (.own (.ins c []) :: ds.map .val)) S with _ | ⟨sd | _ | _ | _ | _, S1⟩
  · rw [hm] at q; exact q
  · rw [hm] at q
    intro w' σ' _ r'
    have ex : Ext wd w' := ⟨r'.ex.m, r'.ex.F, r'.ex.H, r'.ex.nm, r'.ex.nF, r'.ex.al⟩
    unfold mkR at q
    simp only at q
    rcases hs : sd[0]? with _ | _ | _ | ⟨_ | _ | ⟨c', es⟩ | jt⟩
    · rw [hs] at q; exact q.elim
    · rw [hs] at q; exact q.elim
    · rw [hs] at q; exact q.elim
    · rw [hs] at q; exact q.elim
    · rw [hs] at q; exact q.elim
    · rw [hs] at q
      simp only at q
      split at q
      · next ec =>
        subst ec
        obtain ⟨b, hb, ho, bF, bm, b0⟩ := r'.ow 0 _ hs
        have hb2 := r'.sf a _ rfl hs
        rw [hb] at hb2
        cases hb2
        obtain ⟨dx', vs', h1, h2, h3⟩ := id ho
        refine ⟨rfl, q (w'.fz a) (.ref a) (Ext.fz ex n0) (r'.st.fz bm ho.there) ⟨a, dx', vs', rfl, .inr rfl, h1, h2, RepVs.stay Stay.fz _ _ h3⟩⟩
      · exact q.elim
    · rw [hs] at q; exact q.elim
  · rw [hm] at q; exact q.elim
  · rw [hm] at q; exact q.elim
  · rw [hm] at q; exact q.elim
  · rw [hm] at q
    exact fun w' σ' cls y _ r' rx => q w' cls y ⟨r'.ex.m, r'.ex.F, r'.ex.H, r'.ex.nm, r'.ex.nF, r'.ex.al⟩ r'.st rx
theorem made {wd : Wd} {S : List Ob} {a dx C : Addr} (s : RepS G wd S) (ha : wd.H a = none) (hdx : wd.H dx = none) (ne : dx ≠ a) :
    ∃ w1 : Wd, w1.H = upd (upd wd.H dx (.own a)) a (.ins C dx []) ∧ Ext wd w1 ∧ RepS G w1 S ∧ ¬ w1.F a ∧ a ∉ w1.m := by
  have ha2 : (wd.new dx (.own a)).H a = none := by
    show upd wd.H dx _ a = none
    rw [upd_ne (fun e => ne e.symm)]
    exact ha
  exact ⟨(wd.new dx (.own a)).new a (.ins C dx []), rfl, (Ext.new hdx).trans (Ext.new ha2), (s.new hdx).new ha2, fun z => s.fh a z ha, fun z => s.there z ha⟩
theorem cla_rule (F : Fun K x qual st f fd) (SC : FnScope N ps (defScope st)) (hb : Binds K fd ps []) (cK : G.K = K) (B : Body P w K mg base G k f N qual st ms) (M : Mk K (G.ca c) f) {m n : Nat} (em : ps.length = m) (en : N.length = n) (hmn : m ≤ n) :
    ClA P w K mg base G (k + 2) c (mkFn c m n ms) := by
  have z := fns_rule (P := P) (w := w) (mg := mg) (base := base) F SC hb cK B
  refine ⟨f, M, fun A fr s H us vs Q E hr e0 r h => z A fr s H us vs Q E hr e0 r ?_⟩
  obtain ⟨a, dx, vs, H, Q, rfl, rfl, ha, hdx, ne, rfl, wd, ds, S, eH, rs, rv, q⟩ := h
  subst em en eH
  obtain ⟨w1, e1, ex, s1, nF, nm⟩ := made (C := G.ca c) rs ha hdx ne
  unfold mkFn at q
  split at q
  · next e =>
    refine ⟨by rw [List.length_cons, ← rv.length]; exact e, ?_⟩
    rw [← e1]
    exact fin_mk ex s1 (RepVs.mono ex rs.dj _ _ rv) (by omega) (by rw [e1, upd_same]) nF nm ha q
  · exact q.elim
theorem cla_star {pv : Str} (F : Fun K x qual st f fd) (SC : FnScope N (ps ++ [pv]) (defScope st)) (cK : G.K = K) (B : Body P w K mg base G k f N qual st ms)
    (hb : ∀ (kV doc pm : Value) (an : Option Addr) (cdv ct : Value) (us rest : List Value), us.length = ps.length → bindArgs (PySem.W.fnOf x qual (defArgs st) (defBody st) (defScope st) .none kV doc pm an cdv ct) ⟨us ++ rest, []⟩ = (newTuple rest >>= fun t => pure (ps.zip us ++ [(pv, t)])))
    (M : Mk K (G.ca c) f) {m n : Nat} (em : ps.length = m) (en : N.length = n) (hmn : m + 1 ≤ n) (hm1 : 1 ≤ m) : ClA P w K mg base G (k + 2) c (mkStar c m n ms) := by
  have z := fns_starred (P := P) (w := w) (mg := mg) (base := base) F SC cK B hb
  refine ⟨f, M, fun A fr s H us vs Q E hr e0 r h => z A fr s H us vs Q E hr e0 r ?_⟩
  obtain ⟨a, dx, vs, H, Q, rfl, rfl, ha, hdx, ne, rfl, wd, ds, S, eH, rs, rv, q⟩ := h
  subst eH
  unfold mkStar at q
  obtain ⟨hl, q⟩ := FinG.ite q
  obtain ⟨v1, v2, e, l1, r1, r2⟩ := rep_tail (m - 1) rv (by omega)
  subst e
  have l2 : v2.length < lim := by
    rw [← r2.length, List.length_drop]
    omega
  obtain ⟨w1, e1, ex, s1, nF, nm⟩ := made (C := G.ca c) rs ha hdx ne
  refine ⟨V.ref a :: v1, v2, rfl, by rw [List.length_cons, em, l1]; omega, by rw [lim_eq] at l2; exact Nat.le_of_lt l2, fun p hp => ?_⟩
  subst en
  rw [← e1] at hp ⊢
  have ez : Ext w1 (w1.frz p (.tup v2)) := Ext.frz hp
  have st2 := (ex.trans ez).stay rs.dj
  have nap : a ≠ p := fun z => by
    rw [← z, e1, upd_same] at hp
    cases hp
  have ll : (ds.take (m - 1) ++ [D.tup (ds.drop (m - 1))]).length + 1 = m + 1 := by simp; omega
  unfold mkFn at q
  rw [if_pos ll] at q
  have rr : RepVs G (w1.frz p (.tup v2)) (ds.take (m - 1) ++ [D.tup (ds.drop (m - 1))]) (v1 ++ [V.ref p]) := RepVs.append (RepVs.stay st2 _ _ r1) (RepVs.one ⟨p, v2, rfl, .inl ⟨.inr rfl, .inl upd_same⟩, RepVs.stay st2 _ _ r2⟩)
  refine fin_mk (ex.trans ez) (s1.frz hp) rr (by rw [ll]; exact hmn) (a := a) (dx := dx) ?_ (fun z => z.elim nF nap) nm ha q
  show upd w1.H p _ a = _
  rw [upd_ne nap, e1, upd_same]
end
section
variable {G : Sg} {X : Cx} {W : WX} {k n c : Nat} {f C : Addr} {sem : List D → M D} {sp : Sp} {x : Str} {p pos apos : Pos} {e o : Expr} {es : List Expr} {fa : List SV → M (List D)} {σ : L2.St}
theorem run_mk {pins : List (Addr × Obj)} {H : Hp} {s : Shared} {Q : VK} {us : List Value} {vs : List V} (cx : Ctx G X W k) (M : Mk X.K C f) (F : FnS X.prog X.w X.K X.mg X.base G.gd k f sp) (I : Inv X pins σ H s) (r : Vals vs us)
    (h : ∀ a dx, H a = none → H dx = none → dx ≠ a → sp (V.ref a :: vs) (upd (upd H dx (.own a)) a (.ins C dx [])) (fun v H2 => v = .non ∧ Q (.ref a) H2) (WE W σ)) :
    wpAny (model X.prog X.w) X.A (call (.ref C) us) (EP X pins σ Q) X.xe s := by
  have want := h _ _ (I.hok.fresh (Nat.le_succ _)) (I.hok.fresh (Nat.le_refl _)) (Nat.ne_of_lt (Nat.lt_succ_self s.heap.objs.size))
  have J := Inv.made (C := C) I
  have body := F _ X.stack _ _ (Value.ref (s.heap.objs.size + 1) :: us) (V.ref (s.heap.objs.size + 1) :: vs) _ _ (cx.rm.make C us []) (J.env0.make C us []) (.cons rfl r) want
  refine wpAny_call (make_map (f := f) I.kIn M.makes M.init (beq_iff_eq.mp M.fn) (codeAny_mono body ?_))
  rintro (er | fl) s' got
  · exact cx.px σ pins _ _ er s' J got
  · cases fl with
    | ret u =>
      obtain ⟨v, H', J2, rv, rfl, q3⟩ := J.after got
      exact ⟨rv, V.ref (s.heap.objs.size + 1), H', J2, rfl, q3⟩
    | next => exact got.elim
    | brk => exact got.elim
    | cont => exact got.elim
structure CallA (G : Sg) (X : Cx) (W : WX) (a : Addr) (sem : List D → M D) : Prop where
  kp : PySem.W.keepIn X.K (.ref a) = true
  run : ∀ (pins : List (Addr × Obj)) (σ : L2.St) (H : Hp) (s : Shared) (Q : VK) (us : List Value) (vs : List V), Inv X pins σ H s → Vals vs us → spV G sem vs H Q (WE W σ) → wpAny (model X.prog X.w) X.A (call (.ref a) us) (EP X pins σ Q) X.xe s
theorem FnA.call (c : Ctx G X W k) (F : FnX X G k f sem) : CallA G X W f sem := ⟨F.kp, fun _ _ _ _ _ _ _ I r h => run_fa c F I r h⟩
theorem ClA.call {c : Nat} (cx : Ctx G X W k) (F : ClA X.prog X.w X.K X.mg X.base G k c sem) : CallA G X W (G.ca c) sem := by
  obtain ⟨f, M, g⟩ := F.ex
  exact ⟨M.kp, fun pins σ H s Q us vs I r h => run_mk cx M g I r fun a dx ha hdx ne => ⟨a, dx, vs, H, Q, rfl, rfl, ha, hdx, ne, rfl, h⟩⟩
theorem v_calls (F : CallA G X W f sem) (hg : Gl X x) (hm : X.mg x = some (.ref f)) (ha : PLn G X W n (e :: es) fa) (hs : (e :: es).all notStar = true) (hd : (x == ("__debug__" : Str)) = false) :
    PV G X W (.Call (.Name x p) (e :: es) [] pos) (fun sd => M.bind (fa sd) sem) := by
  have hs2 : notStar e = true ∧ es.all notStar = true := by simpa using hs
  constructor
  intro pins s σ H Q I ⟨w0, w, sd, S, eH, r, q⟩
  refine wpAny_Call_Name_kw (ld_glob I hg hm ?_ hd)
  refine PySem.W.callWith_K (h₀ := X.base) I.ok.mod.kin F.kp (thn (ha.run pos pins s σ H (fun vs H1 => spV G sem vs H1 Q (WE W σ)) I ?_) ?_) (starEach_cons hs2.1) (starEach_all hs2.2 pos)
  · exact ⟨w0, w, sd, S, eH, r, fin_step q fun w1 S1 ds vs e1 s1 rv q1 => ⟨w1, ds, S1, rfl, s1, rv.1, q1⟩⟩
  · rintro us s1 ⟨vs, H1, I1, rv, q1⟩
    exact ⟨I1.kIn, F.run _ _ _ _ _ _ _ I1 rv q1⟩
end
end Ev
set_option maxRecDepth 100000
set_option maxHeartbeats 2000000
namespace Ev
open PySem PySem.Spec PyProof.Rows L2
section
variable {G : Sg} {X : Cx} {W : WX} {k n : Nat} {f C : Addr} {sem : List D → M D} {x m : Str} {p pos apos : Pos} {e o fe : Expr} {es : List Expr} {fa : List SV → M (List D)} {ff : List SV → M D} {σ : L2.St}
def fldT (i : Nat) (tbl : Nat → Option Nat) : Tgt := fun d sd S => match sd[i]? with
  | some (.own (.ins c ds)) => match tbl c with
    | some j => match putL ds j d with
      | some es => some (sd.set i (.own (.ins c es)), S)
      | none => none
    | none => none
  | _ => none
def tgFld (K : PySem.W.Frag) (to : TE) (f : Str) : TG := fun v σ H Q => to σ H fun y H1 => ∃ a C dx fs, y = V.ref a ∧ H1 a = some (.ins C dx fs) ∧ Cls K C ∧ NoAttr K C f ∧ fs.length < 1000 ∧ Q σ (upd H1 a (.ins C dx (putF f v fs)))
theorem pg_attr {to : TE} (ho : PE X o to) : PG X (.Attribute o m pos) (tgFld X.K to m) := by
  refine ⟨fun pins s σ H v u Q I r h => ?_⟩
  have tree : assign (.Attribute o m pos) X.env u = (do
    let ov ← holding [u] (eval o X.env)
    standAt pos.atName
    holding [u, ov] (setAttr ov m u)
    release [u, ov] []) := by rfl
  rw [tree]
  refine wpAny_bind (wpAny_holding (thn (ho.run pins s σ H _ I h) fun ov s1 got => ?_))
  obtain ⟨y, H1, I1, ry, a, C, dx, fs, ey, ha, cl, na, hl, q⟩ := got
  subst ey
  obtain rfl : ov = Value.ref a := ry
  refine wpAny_bind (wpAny_standAt (wpAny_bind (wpAny_holding (setattr_ok I1 ha cl na hl r fun s2 I2 => ?_))))
  exact wpAny_release ⟨σ, _, I2, q⟩
theorem g_fld {i : Nat} {tbl : Nat → Option Nat} (T : FldT X G m tbl) (hN : X.N[i]? = some x) (hv : Vis X.env.scope x) (hd : (x == ("__debug__" : Str)) = false) (hcd : (x == ("__classdict__" : Str)) = false) : PGV G X [] (.Attribute (.Name x p) m pos) (fldT i tbl) := by
  refine PG.imp (pg_attr (pe_var (X := X) (pos := p) hN hv hd hcd)) fun v σ H Q q => ?_
  obtain ⟨w0, w, sd, S, d, e, r, rv, q⟩ := q
  subst e
  unfold fldT at q
  rcases hi : sd[i]? with _ | _ | d0 | ⟨ds | ⟨ks, ds⟩ | ⟨cc, ds⟩ | jt⟩
  · simp only [hi] at q; exact q.elim
  · simp only [hi] at q; exact q.elim
  · simp only [hi] at q; exact q.elim
  · simp only [hi] at q; exact q.elim
  · simp only [hi] at q; exact q.elim
  · simp only [hi] at q
    rcases ht : tbl cc with _ | j
    · simp only [ht] at q; exact q.elim
    · simp only [ht] at q
      obtain ⟨cl, na, nd, hj, hl⟩ := T.at_ cc j ht
      obtain ⟨a, ha, ⟨dx, vs, h1, h2, h3⟩, nF, nm, n0⟩ := r.ow i _ hi
      have hlen : ((G.fn cc).zip vs).length < 1000 := by
        rw [List.length_zip]; omega
      refine ⟨.ref a, ha, a, _, dx, _, rfl, h1, cl, na, hlen, ?_⟩
      have st := Stay.wr (w := w) (p := a) (o := .ins (G.ca cc) dx ((G.fn cc).zip (vs.set j v))) nF
      unfold putL at q
      by_cases c1 : j < ds.length
      · simp only [if_pos c1] at q
        rw [putF_zip nd hj (by rw [← h3.length]; exact c1)]
        have hn : RepO G (w.wr a (.ins (G.ca cc) dx ((G.fn cc).zip (vs.set j v)))) a (.ins cc (ds.set j d)) := ⟨dx, _, upd_same, by rw [List.length_set]; exact h2, RepVs.set j (RepVs.stay (Stay.wr nF) _ _ h3) (RepV.stay (Stay.wr nF) _ _ rv)⟩
        exact q _ σ (Stay.wr nF) (r.wr hi ha hn) fun _ _ => rfl
      · simp only [if_neg c1] at q
        by_cases c2 : j = ds.length
        · simp only [if_pos c2] at q
          subst c2
          rw [h3.length] at hj
          rw [putF_new nd hj]
          have hn : RepO G (w.wr a (.ins (G.ca cc) dx ((G.fn cc).zip (vs ++ [v])))) a (.ins cc (ds ++ [d])) := ⟨dx, _, upd_same, by
            rw [List.length_append]
            exact (List.getElem?_eq_some_iff.mp hj).1, RepVs.append (RepVs.stay (Stay.wr nF) _ _ h3) (RepVs.one (RepV.stay (Stay.wr nF) _ _ rv))⟩
          exact q _ σ (Stay.wr nF) (r.wr hi ha hn) fun _ _ => rfl
        · simp only [if_neg c2] at q; exact q.elim
  · simp only [hi] at q; exact q.elim
structure CallT (X : Cx) (G : Sg) (k : Nat) (tbl : Nat → Option (List D → M D)) : Prop where
  at_ : ∀ c g, tbl c = some g → ∃ f, StX.CallO X.K (G.ca c) f ∧ FnX X G k f g
def isObj : D → Bool
  | .ins _ _ => true
  | .ref _ => true
  | _ => false
theorem isObj_ref {w : Wd} {d : D} {v : V} (h : isObj d = true) (r : RepV G w d v) : ∃ a, v = .ref a := by
  cases d <;> first | (cases h; done) | skip
  · obtain ⟨a, _, _, e, _⟩ := r; exact ⟨a, e⟩
  · obtain ⟨a, e, _⟩ := r; exact ⟨a, e⟩
def callD (tbl : Nat → Option (List D → M D)) (fa : M (List D)) (d : D) : M D := if isObj d = true then M.bind fa fun ds => M.bind (pick tbl d) fun g => g (d :: ds) else M.stuck
theorem v_callO {tbl : Nat → Option (List D → M D)} (c : Ctx G X W k) (T : CallT X G k tbl) (hf : PV G X W fe ff) (ha : PLn G X W n (e :: es) fa) (hs : (e :: es).all notStar = true)
    (ht : eval (.Call fe (e :: es) [] pos) X.env = (do callWith pos (← eval fe X.env) [] (backTo pos (starEach (e :: es) X.env)) (backToKw pos (keywordEach [] X.env)))) :
    PV G X W (.Call fe (e :: es) [] pos) (fun sd => M.bind (ff sd) (callD tbl (fa sd))) := by
  have hs2 : notStar e = true ∧ es.all notStar = true := by simpa using hs
  constructor
  intro pins s σ H Q I ⟨w0, w, sd, S, eH, r, q⟩
  refine Call_ (thn (hf.run pins s σ H (fun v H1 => ∃ a, v = V.ref a ∧ ∃ w1 S1 d, w1.H = H1 ∧ R G w0 w1 sd S1 σ ∧ RepV G w1 d v ∧ FinG G (RepV G) (fun c x H => W c x σ H) w1 Q (M.bind (fa sd) (fun ds => M.bind (pick tbl d) fun g => g (d :: ds)) S1)) I ?_) ?_) ht
  · refine ⟨w0, w, sd, S, eH, r, fin_step q fun w1 S1 d v e1 s1 rv q1 => ?_⟩
    unfold callD at q1
    obtain ⟨io, q1⟩ := FinG.ite q1
    obtain ⟨a, ev⟩ := isObj_ref io rv
    exact ⟨a, ev, w1, S1, d, rfl, r.step e1 s1, rv, q1⟩
  · rintro u s1 ⟨v, H1, I1, rv, a, rfl, w1, S1, d, rfl, r1, rd, q1⟩
    obtain rfl : u = Value.ref a := rv
    refine StX.callO_with (thn (ha.run pos pins s1 σ w1.H (fun vs H2 => ∃ c g dx fs, tbl c = some g ∧ H2 a = some (.ins (G.ca c) dx fs) ∧ spV G g (V.ref a :: vs) H2 Q (WE W σ)) I1 ?_) ?_) (starEach_cons hs2.1) (starEach_all hs2.2 pos)
    · refine ⟨w0, w1, sd, S1, rfl, r1, fin_step q1 fun w2 S2 ds xs e2 s2 rx q2 => ?_⟩
      have rd2 := RepV.mono e2 r1.st.dj _ _ rd
      obtain ⟨cc, g, tg, q3, _, b, dx, fs, eb, hb⟩ := pick_fin s2 rd2 q2
      cases eb
      exact ⟨cc, g, dx, _, tg, hb, w2, d :: ds, S2, rfl, s2, ⟨_, _, rfl, rd2, rx.1⟩, q3⟩
    · rintro us s2 ⟨xs, H2, I2, rx, cc, g, dx, fs, tg, hb, q2⟩
      obtain ⟨f, co, F⟩ := T.at_ cc g tg
      obtain ⟨ox, od, J, hd⟩ := StX.insC_at I2 (.inr ⟨dx, fs, hb⟩)
      refine ⟨⟨_, ox, od, J, hd⟩, wpAny_call (PySem.W.kco_code I2.kIn J hd co.at_ co.fn co.fi ?_)⟩
      have body := F.run X.A X.stack s2 H2 (.ref a :: us) (.ref a :: xs) Q (WE W σ) c.rm0 I2.env0 (.cons rfl rx) q2
      refine codeAny_mono body ?_
      rintro (er | fl) s' hq
      · exact c.px σ pins H2 s2 er s' I2 hq
      · cases fl with
        | ret u => exact I2.after hq
        | next => exact hq.elim
        | brk => exact hq.elim
        | cont => exact hq.elim
structure StatT (X : Cx) (C : Addr) (m : Str) (f : Addr) : Prop where
  ex : ∃ (mc : Value) (p : Addr) (rest : List Value), ClX.CRead X.K C mc ∧ PySem.W.findCls X.K (.ref C) mc m = some (.get (.builtin "staticmethod.__get__") (.ref p) .none (.ref C)) ∧ PySem.W.recIn X.K p "staticmethod" = some (.ref f :: rest)
theorem v_stat {y : Str} (T : StatT X C m f) (F : CallA G X W f sem) (hg : Gl X y) (hm : X.mg y = some (.ref C)) (ha : PLn G X W n (e :: es) fa) (hs : (e :: es).all notStar = true) (hd : (y == ("__debug__" : Str)) = false) (hl : (e :: es).length < 30) (hp : (apos.endLine == pos.line) = true) :
    PV G X W (.Call (.Attribute (.Name y p) m apos) (e :: es) [] pos) (fun sd => M.bind (fa sd) sem) := by
  have hs2 : notStar e = true ∧ es.all notStar = true := by simpa using hs
  obtain ⟨mc, q, rest, rd, hat, hrec⟩ := T.ex
  constructor
  intro pins s σ H Q I ⟨w0, w, sd, S, eH, r, qq⟩
  refine PySem.W.methodCall_KW (ld_glob I hg hm ?_ hd) (meth_tree (by rfl) hs hl hp)
  refine PySem.W.method_cls I.kIn rd.ga (PySem.W.cls_bind I.kIn rd.rd hat (wpAny_call (PySem.W.sm_get (s := { s with toks := s.toks + 1 }) I.kIn hrec (PySem.W.handed_on rfl ?_))))
  have I1 := I.tok (s.toks + 1)
  refine PySem.W.callWith_K (h₀ := X.base) I.ok.mod.kin F.kp (thn (ha.run pos pins _ σ H (fun vs H1 => spV G sem vs H1 Q (WE W σ)) I1 ?_) ?_) (starEach_cons hs2.1) (starEach_all hs2.2 pos)
  · exact ⟨w0, w, sd, S, eH, r, fin_step qq fun w1 S1 ds vs e1 s1 rv q1 => ⟨w1, ds, S1, rfl, s1, rv.1, q1⟩⟩
  · rintro us s1 ⟨vs, H1, I2, rv, q1⟩
    exact ⟨I2.kIn, F.run _ _ _ _ _ _ _ I2 rv q1⟩
end
end Ev
set_option maxRecDepth 100000
set_option maxHeartbeats 2000000
namespace Ev
open PySem PySem.Spec PyProof.Rows L2
def stepLo (n : Nat) (c : Int) : Int := if c < 0 then (n : Int) - 1 else 0
def stepNo (n : Nat) (c : Int) : Nat := Builtin.Slice.slicePlaces (stepLo n c) (if c < 0 then -1 else (n : Int)) c
def stepL {α : Type} (c : Int) (xs : List α) : List α := (List.range (stepNo xs.length c)).filterMap fun (m : Nat) => xs[(stepLo xs.length c + (m : Int) * c).toNat]?
theorem vals_pick {xs : List V} {us : List Value} (r : Vals xs us) (ix : Nat → Nat) : ∀ l : List Nat, Vals (l.filterMap fun m => xs[ix m]?) (l.filterMap fun m => us[ix m]?)
  | [] => .nil
  | m :: l => by
    have ih := vals_pick r ix l
    rcases h : xs[ix m]? with _ | x
    · have hu : us[ix m]? = none := by
        rw [List.getElem?_eq_none_iff] at h ⊢
        rw [← r.length]
        exact h
      rw [List.filterMap_cons_none (by simpa using h), List.filterMap_cons_none (by simpa using hu)]
      exact ih
    · obtain ⟨u, hu, ru⟩ := r.get h
      rw [List.filterMap_cons_some (b := x) (by simpa using h), List.filterMap_cons_some (b := u) (by simpa using hu)]
      exact .cons ru ih
theorem reps_pick {G : Sg} {w : Wd} {ds : List D} {vs : List V} (r : RepVs G w ds vs) (ix : Nat → Nat) : ∀ l : List Nat, RepVs G w (l.filterMap fun m => ds[ix m]?) (l.filterMap fun m => vs[ix m]?)
  | [] => rfl
  | m :: l => by
    have ih := reps_pick r ix l
    rcases h : ds[ix m]? with _ | x
    · have hu : vs[ix m]? = none := by
        rw [List.getElem?_eq_none_iff] at h ⊢
        rw [← r.length]
        exact h
      rw [List.filterMap_cons_none (by simpa using h), List.filterMap_cons_none (by simpa using hu)]
      exact ih
    · obtain ⟨u, hu, ru⟩ := r.get h
      rw [List.filterMap_cons_some (b := x) (by simpa using h), List.filterMap_cons_some (b := u) (by simpa using hu)]
      exact ⟨u, _, rfl, ru, ih⟩
section
variable {G : Sg} {X : Cx} {W : WX} {k n : Nat} {pos : Pos} {e o fe : Expr} {es : List Expr} {σ : L2.St}
def dStep (c : Int) : D → M D
  | .tup ds => M.pure (.tup (stepL c ds))
  | _ => M.stuck
end
end Ev
set_option maxRecDepth 100000
set_option maxHeartbeats 2000000
namespace Ev
open PySem PySem.Spec PyProof.Rows L2
def perm {α : Type} (ix : List Nat) (l : List α) : List α := ix.filterMap (l[·]?)
theorem vals_perm {xs : List V} {us : List Value} (r : Vals xs us) (ix : List Nat) : Vals (perm ix xs) (perm ix us) := vals_pick r id ix
theorem reps_perm {G : Sg} {w : Wd} {ds : List D} {vs : List V} (r : RepVs G w ds vs) (ix : List Nat) : RepVs G w (perm ix ds) (perm ix vs) := reps_pick r id ix
structure FnK (P : Program) (w : World) (K : PySem.W.Frag) (mg : Str → Option Value) (base : Heap) (G : Sg) (k : Nat) (f : Addr) (m : Nat) (ks : List Str) (sem : List D → M D) : Prop where
  run : ∀ (A : Around) (fr : List Env) (s : Shared) (H : Hp) (us ws : List Value) (vs zs : List V) (Q : VK) (E : XK),
    Rm G.gd k A → Env0 P w K mg base A fr s H → Vals vs us → Vals zs ws → vs.length = m → zs.length = ks.length → spV G sem (vs ++ zs) H Q E → codeAny (model P w) A (.call (.ref f) ⟨us, ks.zip ws⟩) (CR (L2N.CX P w) fr P w H s Q E) s
  kp : PySem.W.keepIn K (.ref f) = true
abbrev FnKX (X : Cx) (G : Sg) (k : Nat) (f : Addr) (m : Nat) (ks : List Str) (sem : List D → M D) : Prop := FnK X.prog X.w X.K X.mg X.base G k f m ks sem
theorem FnK.mono {P : Program} {w : World} {K : PySem.W.Frag} {mg : Str → Option Value} {base : Heap} {G : Sg} {j k m : Nat} {ks : List Str} {f : Addr} {sem : List D → M D} (F : FnK P w K mg base G j f m ks sem) (h : j ≤ k) : FnK P w K mg base G k f m ks sem :=
  ⟨fun A fr s H us ws vs zs Q E hr => F.run A fr s H us ws vs zs Q E (hr.mono h), F.kp⟩
section
variable {P : Program} {w : World} {K : PySem.W.Frag} {mg : Str → Option Value} {base : Heap} {G : Sg} {k m c : Nat} {f : Addr} {x qual : Str} {st : Stmt} {fd : FuncData} {N ps ks : List Str} {ms : MS} {ix : List Nat}
def KwBinds (st : Stmt) (x qual : Str) (ps ks : List Str) (m : Nat) (ix : List Nat) : Prop := ∀ (kV doc pm : Value) (an : Option Addr) (cdv ct : Value) (us ws : List Value), us.length = m → ws.length = ks.length →
  bindArgs (PySem.W.fnOf x qual (defArgs st) (defBody st) (defScope st) .none kV doc pm an cdv ct) ⟨us, ks.zip ws⟩ = pure (ps.zip (perm ix (us ++ ws)))
theorem fnk_run (F : Fun K x qual st f fd) (SC : FnScope N ps (defScope st)) (hb : KwBinds st x qual ps ks m ix) (cK : G.K = K) (B : Body P w K mg base G k f N qual st ms)
    {A : Around} {fr : List Env} {s : Shared} {H : Hp} {us ws : List Value} {vs zs : List V} {Q : VK} {E : XK} (hr : Rm G.gd (k + 2) A) (e0 : Env0 P w K mg base A fr s H) (r : Vals vs us) (r2 : Vals zs ws) (l1 : vs.length = m) (l2 : zs.length = ks.length)
    (h : (perm ix (vs ++ zs)).length = ps.length ∧ spT G N ms (perm ix (vs ++ zs)) H Q E) : codeAny (model P w) A (.call (.ref f) ⟨us, ks.zip ws⟩) (CR (L2N.CX P w) fr P w H s Q E) s := by
  obtain ⟨oc, od, kV, doc, pm, an, cdv, ct, osl, rfl, lk, hcd⟩ := F.ex
  have g := gn_of (sp := fun vs H Q E => vs.length = ps.length ∧ spT G N ms vs H Q E) (P := P) (w := w) (mg := mg) (base := base) (k := k + 1) lk hcd SC (fun _ _ _ _ z => z.1) (fun A fr s H vs Q E hr hsp => ⟨_, B cdv A fr s H E (ctxF cK SC hr), hsp.2⟩)
  exact g.run A fr s H ⟨us, ks.zip ws⟩ (perm ix (us ++ ws)) _ Q E hr e0 (.of_eq (hb _ _ _ _ _ _ us ws (r.length.symm.trans l1) (r2.length.symm.trans l2))) (vals_perm (r.append r2) ix) h
theorem fnk_rule (F : Fun K x qual st f fd) (SC : FnScope N ps (defScope st)) (hb : KwBinds st x qual ps ks m ix) (cK : G.K = K) (B : Body P w K mg base G k f N qual st ms) {a n : Nat} (ea : ps.length = a) (en : N.length = n) (hmn : a ≤ n) :
    FnK P w K mg base G (k + 2) f m ks (fun ds => runFn a n ms (perm ix ds)) := by
  refine ⟨fun A fr s H us ws vs zs Q E hr e0 r r2 l1 l2 ⟨wd, ds, S, eH, rs, rv, q⟩ => fnk_run F SC hb cK B hr e0 r r2 l1 l2 ?_, F.kp⟩
  have rp := reps_perm rv ix
  have q2 : FinG G (RepV G) E wd Q (runFn a n ms (perm ix ds) S) := q
  clear q
  unfold runFn at q2
  split at q2
  · next e =>
    subst ea en
    exact ⟨by rw [← rp.length]; exact e, fin_body eH rs rp (by omega) q2⟩
  · exact q2.elim
end
section
variable {G : Sg} {X : Cx} {W : WX} {k n m j : Nat} {f C : Addr} {sem : List D → M D} {x y mm : Str} {p pos apos kpos : Pos} {e o fe : Expr} {es : List Expr} {kws : List Keyword} {ks : List Str} {fa fk : List SV → M (List D)} {ff g : List SV → M D} {σ : L2.St}
abbrev PKn (G : Sg) (X : Cx) (W : WX) (n : Nat) (es : List Keyword) (f : List SV → M (List D)) : Prop := PK X es (teG G (repL G n) W f)
theorem PK.imp {e : List Keyword} {t t' : TA} (h : PK X e t) (i : ∀ σ H Q, t' σ H Q → t σ H Q) : PK X e t' := ⟨fun ps p s σ H Q I q => h.run ps p s σ H Q I (i σ H Q q)⟩
theorem k_nil : PKn G X W 0 [] (fun _ => M.pure []) := by
  refine PK.imp pk_nil fun σ H Q h => ?_
  obtain ⟨w0, w, sd, S, e, r, q⟩ := h
  subst e
  exact fin_pure q r.st ⟨rfl, rfl⟩
theorem k_cons {nm : Option Str} (he : PV G X W e g) (hr : PKn G X W n kws fk) : PKn G X W (n + 1) (⟨nm, e, kpos⟩ :: kws) (fun sd => M.bind (g sd) fun d => M.bind (fk sd) fun ds => M.pure (d :: ds)) := by
  refine PK.imp (pk_cons he hr) fun σ H Q h => ?_
  obtain ⟨w0, w, sd, S, e, r, q⟩ := h
  refine ⟨w0, w, sd, S, e, r, fin_step q fun w1 S1 d v e1 s1 rv q1 => ⟨w0, w1, sd, S1, rfl, r.step e1 s1, fin_step q1 fun w2 S2 ds vs e2 s2 rvs q2 => ?_⟩⟩
  exact fin_pure q2 s2 ⟨⟨v, vs, rfl, RepV.mono e2 s1.dj d v rv, rvs.1⟩, by rw [List.length_cons, rvs.2]⟩
structure CallK (G : Sg) (X : Cx) (W : WX) (a : Addr) (m : Nat) (ks : List Str) (sem : List D → M D) : Prop where
  kp : PySem.W.keepIn X.K (.ref a) = true
  run : ∀ (pins : List (Addr × Obj)) (σ : L2.St) (H : Hp) (s : Shared) (Q : VK) (us ws : List Value) (vs zs : List V), Inv X pins σ H s → Vals vs us → Vals zs ws → vs.length = m → zs.length = ks.length → spV G sem (vs ++ zs) H Q (WE W σ) →
    wpAny (model X.prog X.w) X.A (call (.ref a) us (ks.zip ws)) (EP X pins σ Q) X.xe s
theorem after_call {pins : List (Addr × Obj)} {H : Hp} {s : Shared} {Q : VK} {a : Args} (c : Ctx G X W k) (I : Inv X pins σ H s) (h : codeAny (model X.prog X.w) X.A (.call (.ref f) a) (CR (L2N.CX X.prog X.w) X.stack X.prog X.w H s Q (WE W σ)) s) :
    wpAny (model X.prog X.w) X.A (call (.ref f) a.pos a.kw) (EP X pins σ Q) X.xe s := by
  refine wpAny_call (codeAny_mono h ?_)
  rintro (er | fl) s' hq
  · exact c.px σ pins H s er s' I hq
  · cases fl with
    | ret u => exact I.after hq
    | next => exact hq.elim
    | brk => exact hq.elim
    | cont => exact hq.elim
theorem FnK.call (c : Ctx G X W k) (F : FnKX X G k f m ks sem) : CallK G X W f m ks sem :=
  ⟨F.kp, fun pins σ H s Q us ws vs zs I r r2 l1 l2 h => after_call (a := ⟨us, ks.zip ws⟩) c I (F.run X.A X.stack s H us ws vs zs Q (WE W σ) c.rm0 I.env0 r r2 l1 l2 h)⟩
theorem kw_names {env : Env} : ∀ {kws : List Keyword} {pos : Pos}, (backToKw pos (keywordEach kws env)).all (·.1.isSome) = true → (backToKw pos (keywordEach kws env)).any (·.1.isNone) = false := fun {kws pos} h => by
  rw [List.any_eq_false]
  intro z hz
  have := List.all_eq_true.mp h z hz
  cases e : z.1 with
  | none => rw [e] at this; cases this
  | some _ => simp
theorem v_kw0 (F : CallK G X W f 0 ks sem) (hg : Gl X x) (hm : X.mg x = some (.ref f)) (hk : PKn G X W j kws fk) (hj : j = ks.length) (hd : (x == ("__debug__" : Str)) = false)
    (hall : (backToKw pos (keywordEach kws X.env)).all (·.1.isSome) = true) (hks : (backToKw pos (keywordEach kws X.env)).filterMap (·.1) = ks) : PV G X W (.Call (.Name x p) [] kws pos) (fun sd => M.bind (fk sd) sem) := by
  constructor
  intro pins s σ H Q I ⟨w0, w, sd, S, eH, r, q⟩
  refine wpAny_Call_Name_kw (ld_glob I hg hm ?_ hd)
  refine PySem.W.callWith_KW0 (h₀ := X.base) I.ok.mod.kin F.kp hall (thn (hk.run pos pins s σ H (fun zs H2 => zs.length = ks.length ∧ spV G sem ([] ++ zs) H2 Q (WE W σ)) I ?_) ?_) (by rw [kw_names hall]; rfl)
  · exact ⟨w0, w, sd, S, eH, r, fin_step q fun w2 S2 es zs e2 s2 rz q2 => ⟨rz.2.trans hj, w2, es, S2, rfl, s2, rz.1, q2⟩⟩
  · rintro ws s2 ⟨zs, H2, I2, rz, lz, q2⟩
    refine ⟨I2.kIn, ?_⟩
    rw [hks]
    exact F.run pins σ H2 s2 Q [] ws [] zs I2 .nil rz rfl lz q2
theorem with_obj {M : Model} {A : Around} {E : Value → Shared → Prop} {s : Shared} {a : Addr} {pos : Pos} {Q : Value → Shared → Prop} {args : List (Bool × Sem Value)} {keys : List (Option Str × Sem Value)} (plain : (args.any (·.1) || keys.any (·.1.isNone)) = false)
    (h : wpAny M A (evalArgs (.ref a) true args keys) (fun z t => (∃ C ox od, PySem.W.InstAt t.heap a ox C od ∧ ox.data = .plain) ∧ wpAny M A (call (.ref a) z.pos z.kw) Q E t) E s) : wpAny M A (callWith pos (.ref a) [] args keys) Q E s := by
  unfold callWith
  refine wpAny_bind (wpAny_holding (wpAny_mono h ?_ fun _ _ y => y))
  rintro z t ⟨⟨C, ox, od, J, hd⟩, go⟩
  refine wpAny_bind (wpAny_standAt ?_)
  have kept := PySem.W.kco_keeper (M := M) J hd
  simp only [plain]
  refine wpAny_bind (kept.here ?_)
  exact wpAny_bind (wpAny_mono (wpAny_operateT go) (fun r t2 hr => wpAny_bind (wpAny_holding (wpAny_point (wpAny_pure hr)))) fun _ _ y => y)
structure CallKT (X : Cx) (G : Sg) (k : Nat) (ks : List Str) (tbl : Nat → Option (List D → M D)) : Prop where
  at_ : ∀ c g, tbl c = some g → ∃ f, StX.CallO X.K (G.ca c) f ∧ FnKX X G k f 1 ks g
theorem v_callOK {tbl : Nat → Option (List D → M D)} (c : Ctx G X W k) (T : CallKT X G k ks tbl) (hf : PV G X W fe ff) (hk : PKn G X W j kws fk) (hj : j = ks.length)
    (hall : (backToKw pos (keywordEach kws X.env)).all (·.1.isSome) = true) (hks : (backToKw pos (keywordEach kws X.env)).filterMap (·.1) = ks)
    (ht : eval (.Call fe [] kws pos) X.env = (do callWith pos (← eval fe X.env) [] (backTo pos (starEach [] X.env)) (backToKw pos (keywordEach kws X.env)))) :
    PV G X W (.Call fe [] kws pos) (fun sd => M.bind (ff sd) (callD tbl (fk sd))) := by
  constructor
  intro pins s σ H Q I ⟨w0, w, sd, S, eH, r, q⟩
  rw [ht]
  refine wpAny_bind (thn (hf.run pins s σ H (fun v H1 => ∃ a, v = V.ref a ∧ ∃ w1 S1 d, w1.H = H1 ∧ R G w0 w1 sd S1 σ ∧ RepV G w1 d v ∧ FinG G (RepV G) (fun c x H => W c x σ H) w1 Q (M.bind (fk sd) (fun ds => M.bind (pick tbl d) fun g => g (d :: ds)) S1)) I ?_) ?_)
  · refine ⟨w0, w, sd, S, eH, r, fin_step q fun w1 S1 d v e1 s1 rv q1 => ?_⟩
    unfold callD at q1
    obtain ⟨io, q1⟩ := FinG.ite q1
    obtain ⟨a, ev⟩ := isObj_ref io rv
    exact ⟨a, ev, w1, S1, d, rfl, r.step e1 s1, rv, q1⟩
  · rintro u s1 ⟨v, H1, I1, rv, a, rfl, w1, S1, d, rfl, r1, rd, q1⟩
    obtain rfl : u = Value.ref a := rv
    refine with_obj (by rw [kw_names hall]; rfl) (PyProof.Rows.evalArgs_kw2_nil hall (thn (hk.run pos pins s1 σ w1.H (fun zs H2 => zs.length = ks.length ∧ ∃ c g dx fs, tbl c = some g ∧ H2 a = some (.ins (G.ca c) dx fs) ∧ spV G g ([V.ref a] ++ zs) H2 Q (WE W σ)) I1 ?_) ?_))
    · refine ⟨w0, w1, sd, S1, rfl, r1, fin_step q1 fun w2 S2 ds xs e2 s2 rx q2 => ?_⟩
      have rd2 := RepV.mono e2 r1.st.dj _ _ rd
      obtain ⟨cc, g, tg, q3, _, b, dx, fs, eb, hb⟩ := pick_fin s2 rd2 q2
      cases eb
      exact ⟨rx.2.trans hj, cc, g, dx, _, tg, hb, w2, d :: ds, S2, rfl, s2, ⟨_, _, rfl, rd2, rx.1⟩, q3⟩
    · rintro ws s2 ⟨zs, H2, I2, rz, lz, cc, g, dx, fs, tg, hb, q2⟩
      obtain ⟨f, co, F⟩ := T.at_ cc g tg
      obtain ⟨ox, od, J, hd⟩ := StX.insC_at I2 (.inr ⟨dx, fs, hb⟩)
      rw [hks]
      refine ⟨⟨_, ox, od, J, hd⟩, wpAny_call (PySem.W.kco_code I2.kIn J hd co.at_ co.fn co.fi ?_)⟩
      have body := F.run X.A X.stack s2 H2 [.ref a] ws [.ref a] zs Q (WE W σ) c.rm0 I2.env0 (.cons rfl .nil) rz rfl lz q2
      refine codeAny_mono body ?_
      rintro (er | fl) s' hq
      · exact c.px σ pins H2 s2 er s' I2 hq
      · cases fl with
        | ret u => exact I2.after hq
        | next => exact hq.elim
        | brk => exact hq.elim
        | cont => exact hq.elim
end
end Ev
set_option maxRecDepth 100000
set_option maxHeartbeats 2000000
namespace Ev
open PySem PySem.Spec PyProof.Rows L2
def GlobD (mg : Str → Option Value) (G : Sg) (x : Str) (d : D) : Prop := ∃ u v, mg x = some u ∧ RelV v u ∧ ∀ w : Wd, RepV G w d v
section
variable {G : Sg} {X : Cx} {W : WX} {k : Nat} {x : Str} {p : Pos} {d : D}
theorem v_glob (hg : Gl X x) (h : GlobD X.mg G x d) (hd : (x == ("__debug__" : Str)) = false) : PV G X W (.Name x p) (fun _ => M.pure d) := by
  obtain ⟨u, v, hm, r, rv⟩ := h
  exact v_lit (pe_glob hg hm r hd) fun w S _ => rv w
theorem v_ty {t : TyN} (hg : Gl X x) (hm : X.mg x = none) (hv : bootBuiltins x = some (.type t.name)) (hn : x ≠ "__name__") (hd : (x == ("__debug__" : Str)) = false) : PV G X W (.Name x p) (fun _ => M.pure (.ty t)) :=
  v_lit (v := .ty t.name) (pe_bltn hg hm hv rfl hn hd) fun w S _ => rfl
theorem v_int {i : Int} {j : Nat} : PV G X W (.Constant (.int i) j p) (fun _ => M.pure (.int i)) := v_lit pe_int fun _ _ _ => rfl
theorem v_str {s : Str} {j : Nat} : PV G X W (.Constant (.str s) j p) (fun _ => M.pure (.str s)) := v_lit pe_str fun _ _ _ => rfl
theorem v_bool {b : Bool} {j : Nat} : PV G X W (.Constant (.bool b) j p) (fun _ => M.pure (.bl b)) := v_lit pe_bl fun _ _ _ => rfl
theorem v_none {j : Nat} : PV G X W (.Constant .none j p) (fun _ => M.pure .non) := v_lit pe_non fun _ _ _ => rfl
theorem b_of {e : Expr} {f : List SV → M Bool} (h : PBW G X W e f) : PB G X W e f := PW.pt h
end
theorem glob_int {mg : Str → Option Value} {G : Sg} {x : Str} {i : Int} {t : Tok} (h : mg x = some (.int i t)) : GlobD mg G x (.int i) := ⟨_, .int i, h, ⟨t, rfl⟩, fun _ => rfl⟩
theorem glob_str {mg : Str → Option Value} {G : Sg} {x s : Str} {t : Tok} (h : mg x = some (.str s t)) : GlobD mg G x (.str s) := ⟨_, .str s, h, ⟨t, rfl⟩, fun _ => rfl⟩
theorem glob_cls {mg : Str → Option Value} {G : Sg} {x : Str} {c : Nat} (h : mg x = some (.ref (G.ca c))) : GlobD mg G x (.cls c) := ⟨_, .ref (G.ca c), h, rfl, fun _ => rfl⟩
theorem glob_tup {mg : Str → Option Value} {G : Sg} {x : Str} {a : Addr} {ds : List D} {vs : List V} (h : mg x = some (.ref a)) (hk : KTup G.K a vs) (hr : ∀ w : Wd, RepVs G w ds vs) : GlobD mg G x (.tup ds) := ⟨_, .ref a, h, rfl, fun w => ⟨a, vs, rfl, .inr hk, hr w⟩⟩
def tab {α : Type} : List (Nat × α) → Nat → Option α
  | [], _ => none
  | (c, x) :: l, n => if n = c then some x else tab l n
theorem tab_nil {α : Type} {P : Nat → α → Prop} : ∀ c g, tab ([] : List (Nat × α)) c = some g → P c g := fun _ _ h => nomatch h
theorem tab_cons {α : Type} {P : Nat → α → Prop} {c0 : Nat} {x : α} {l : List (Nat × α)} (h0 : P c0 x) (h : ∀ c g, tab l c = some g → P c g) : ∀ c g, tab ((c0, x) :: l) c = some g → P c g := fun c g e => by
  unfold tab at e
  split at e
  · next q => subst q; cases e; exact h0
  · exact h c g e
end Ev
namespace Ev
open PySem PySem.Spec PyProof.Rows L2
def AtOk (X : Cx) (G : Sg) (k : Nat) (m : Str) (c : Nat) : At → Prop
  | .fld i => Cls X.K (G.ca c) ∧ NoAttr X.K (G.ca c) m ∧ (G.fn c).Nodup ∧ (G.fn c)[i]? = some m
  | .prop g => ∃ p f, Cls X.K (G.ca c) ∧ PropOf X.K (G.ca c) m p f ∧ FnX X G k f g
theorem AttrT.of {X : Cx} {G : Sg} {k : Nat} {m : Str} {tbl : Nat → Option At} (h : ∀ c x, tbl c = some x → AtOk X G k m c x) : AttrT X G k m tbl := ⟨fun c i e => h c _ e, fun c g e => h c _ e⟩
end Ev
set_option maxRecDepth 100000
set_option maxHeartbeats 2000000
namespace Ev
open PySem PySem.Spec PyProof.Rows L2
theorem enum_new1 {v : Value} {o : Obj} {Hh : Heap → Prop} (B : Begins v o Hh) :
    Meets (Builtin.«enumerate.__new__» ⟨[.type "enumerate", v], []⟩) (fun _ R s => Hh s.heap ∧
      R (.ok (.ret (.ref (s.heap.push o).objs.size))) { s with heap := (s.heap.push o).push { cls := .type "enumerate", data := .fields #[.none, .bool false, .ref s.heap.objs.size, rawInt 0, .none, .none] } }) :=
  .of_wp fun prog w A R s h => by
    obtain ⟨hp, g, d, tk, os⟩ := s
    obtain ⟨h1, h⟩ := h
    have below := sub_enumerate
    have begin_ : ∀ {A' : Around} {E : Value → Shared → Prop} {Q : Value → Shared → Prop}, Q (.ref hp.objs.size) ⟨hp.push o, g, d, tk, os⟩ → wpAny (model prog w) A' (pyIter v) Q E ⟨hp, g, d, tk, os⟩ :=
      fun q => B.iter prog w _ _ ⟨hp, g, d, tk, os⟩ _ h1 q
    wp_walk using begin_
    refine wpAny_stack_any fun st => wpAny_pure ?_
    split
    · rename_i c _ _ _ _ _
      cases (c == Value.type "enumerate")
      all_goals
        wp_walk using begin_
        exact ⟨_, rfl, h⟩
    · wp_walk using begin_
      exact ⟨_, rfl, h⟩
section
variable {prog : Program} {w : World} {A : Around} {E : Value → Shared → Prop} {s : Shared}
theorem call_enum1 {v : Value} {o : Obj} {Hh : Heap → Prop} {Q : Value → Shared → Prop} (B : Begins v o Hh) (h1 : Hh s.heap)
    (h : ∀ h', IsEnum h' (s.heap.objs.size + 1) s.heap.objs.size 0 .none → h'.get? s.heap.objs.size = some o → (∀ b u, s.heap.get? b = some u → h'.get? b = some u) → Q (.ref (s.heap.objs.size + 1)) { s with heap := h' }) :
    wpAny (model prog w) A (call (.type "enumerate") [v]) Q E s := by
  have size1 : (s.heap.push o).objs.size = s.heap.objs.size + 1 := Heap.size_push ..
  refine callType_new F.called_enumerate (by decide) (F.typeCall_enumerate_1 _) (F.newCall_enumerate_1 _) (fun obj => F.args_object_init_2 obj _) F.entry_enumerate_new (enum_new1 B) ⟨h1, ?_⟩
  show _ ∧ _
  rw [size1]
  have made : IsEnum ((s.heap.push o).push { cls := .type "enumerate", data := .fields #[.none, .bool false, .ref s.heap.objs.size, rawInt 0, .none, .none] }) (s.heap.objs.size + 1) s.heap.objs.size 0 .none := by
    have z := Heap.get?_push_size (s.heap.push o) (o := { cls := .type "enumerate", data := .fields #[.none, .bool false, .ref s.heap.objs.size, rawInt 0, .none, .none] }) rfl
    rw [size1] at z
    exact z
  exact ⟨⟨_, made, rfl⟩, h _ made (Heap.get?_push_of_some _ (Heap.get?_push_size _ B.free)) fun b u x => Heap.get?_push_of_some _ (Heap.get?_push_of_some _ x)⟩
end
theorem apart_it {h : Heap} {a it : Addr} {items : Array Value} {i : Nat} (p : IsTup h a items) (q : h.IsTupleIter it a i) : a ≠ it := by
  rintro rfl
  obtain ⟨o1, h1, c1, _⟩ := p
  obtain ⟨o2, h2, c2, _⟩ := q
  rw [h1] at h2
  cases h2
  rw [c1] at c2
  exact absurd (Value.type.inj c2) (by decide)
theorem enum_done {prog : Program} {w : World} {A : Around} {E : Value → Shared → Prop} {s : Shared} {e it a : Addr} {i : Nat} {n : Int} {old : Value} {items : Array Value} {Q : Option Value → Shared → Prop} (hh : A.handled = none) (he : IsEnum s.heap e it n old) (hit : s.heap.IsTupleIter it a i)
    (ht : s.heap.IsTuple a items) (hi : items.size ≤ i) (hQ : ∀ h', Heap.ExtBut it s.heap h' → Q none { s with heap := h' }) : wpAny (model prog w) A (pyNext (.ref e)) Q E s := by
  have kind : s.TypeIs (.ref e) "enumerate" := ⟨_, he, rfl⟩
  unfold pyNext
  refine wpAny_bind (wpAny_attempt (wpAny_callSpecial?_slot (name := Str.ofString "__next__") kind F.slot_enumerate_next (wpAny_call_entry F.slot_enumerate_next kind F.entry_enumerate_next ?_ (F.args_enumerate_next_1 _))))
  show wpAny _ _ (field (.ref e) 2 >>= _) _ _ _
  refine wpAny_bind (wpAny_field he rfl (x := .ref it) rfl (wpAny_bind ?_))
  refine wpAny_nextOf_tuple_end (A := A.in1) hh hit ht (Array.getElem?_eq_none hi) fun h' x ext stop => ?_
  obtain ⟨ob, ho, hc⟩ := stop
  exact wpAny_bind (wpAny_isInstance (T := "StopIteration") (b := true) ⟨ob, ho, hc⟩ isSubtype_stop (wpAny_pure (hQ _ ext)))
def ItE (K : PySem.W.Frag) (a : Addr) : It :=
  ⟨fun i H => ∃ (xs : List V) (x : V), SqT K H a xs ∧ xs[i]? = some x, fun i H v H' => ∃ T x, v = .ref T ∧ H T = none ∧ H' = upd H T (.tup [.int (i : Nat), x]) ∧ ∀ xs, SqT K H a xs → xs[i]? = some x, fun i H => ∃ xs : List V, SqT K H a xs ∧ xs.length ≤ i⟩
theorem turn_enumT {P : Program} {w : World} {K : PySem.W.Frag} {elts : List Expr} {kk : Nat} {tpos : Pos} (a e it : Addr) :
    Turn P w K (.Tuple elts kk tpos) (ItE K a) [e, it] e (fun i h => (∃ old, IsEnum h e it ((i : Nat) : Int) old) ∧ h.IsTupleIter it a i ∧ e ≠ it) where
  mem := by simp
  obj := fun i h st b hb => by
    obtain ⟨⟨old, he⟩, ⟨o, ho, hc, hd⟩, _⟩ := st
    rcases (show b = e ∨ b = it by simpa using hb) with rfl | rfl
    · exact ⟨_, he, fun v q => nomatch q⟩
    · exact ⟨o, ho, fun v q => by rw [hd] at q; cases q⟩
  keep := fun i h h' st k => let ⟨⟨old, he⟩, hi, hne⟩ := st; ⟨⟨old, k e (by simp) _ he⟩, hi.at fun o q => k it (by simp) o q, hne⟩
  item := by
    intro X hP hw hK hc i pins s σ H E I hf st hg
    subst hP hw hK
    obtain ⟨⟨old, he⟩, hit, hne⟩ := st
    obtain ⟨xs, x, hq, hx⟩ := hg
    obtain ⟨its, rv, p, hz⟩ := I.tuple hq
    obtain ⟨u, hu, ru⟩ := rv.get hx
    have elt_ : e < s.heap.objs.size := Heap.lt_size he
    have ilt : it < s.heap.objs.size := by obtain ⟨_, q, _⟩ := hit; exact Heap.lt_size q
    have apart : a ≠ it := apart_it p hit
    have D := Draws.tuple (prog := X.prog) (w := X.w) (A := X.A.in1) (I.ok.hd hc) it a apart its.toArray
    have ea : e ∉ ([it, a] : List Addr) := by
      intro z
      rcases (show e = it ∨ e = a by simpa using z) with z | z
      · exact hne z
      · subst z
        obtain ⟨o1, h1, c1, _⟩ := p
        have h2 := he
        unfold IsEnum at h2
        rw [h1] at h2
        cases h2
        exact absurd (Value.type.inj c1) (by decide)
    have small : i < its.toArray.size := by
      rw [List.size_toArray, ← rv.length]
      exact (List.getElem?_eq_some_iff.mp hx).1
    refine wpAny_pyNext_enum_itemD D he ⟨hit, p⟩ small hne ea fun y h' tk hy ho st' hT hsz hk => ?_
    have ey : y = u := by
      have hy2 : its.toArray[i]? = some y := hy
      have hu2 : its.toArray[i]? = some u := by simpa using hu
      rw [hu2] at hy2
      exact (Option.some.inj hy2).symm
    subst ey
    refine ⟨_, rfl, wpAny_letOwnedTupleGo_enum (s := { s with heap := h', toks := tk + 1 }) ho fun h'' he' sb => ?_⟩
    have hT2 : h''.get? s.heap.objs.size = some { cls := .type "tuple", data := .seq #[.int i tk, y] } := (sb.2 _ (Nat.ne_of_gt elt_)).trans hT
    have new : ObjOk X.prog X.w (upd H s.heap.objs.size (.tup [.int (i : Nat), x])) h'' s.heap.objs.size (.tup [.int (i : Nat), x]) :=
      ⟨by show 2 ≤ sizeLine; decide, [.int i tk, y], .cons ⟨_, rfl⟩ (.cons ru .nil), ⟨_, hT2, rfl, _, rfl⟩⟩
    have I1 : Inv X pins σ (upd H s.heap.objs.size (.tup [.int (i : Nat), x])) { s with heap := h'', toks := tk + 1 } :=
      I.turnedNew (ch := [e, it]) (fun b ob hb q => (sb.2 b (fun z => hb (by simp [z]))).trans (hk b ob (fun z => hb (by simp [z])) (fun z => hb (by simp [z])) q)) hf (Nat.le_refl _) new
    refine ⟨.ref s.heap.objs.size, _, I1, rfl, ⟨_, x, rfl, I.hok.fresh (Nat.le_refl _), rfl, fun ys hy => by rw [I.tuple_inj hy hq]; exact hx⟩, ⟨⟨y, ?_⟩, st'.1.at fun o q => (sb.2 it (Ne.symm hne)).trans q, hne⟩, fun b hb => ?_⟩
    · have cast : ((i + 1 : Nat) : Int) = (i : Int) + 1 := by omega
      rw [cast]
      exact he'
    · have below : b < s.heap.objs.size := by
        rcases (show b = e ∨ b = it by simpa using hb) with rfl | rfl
        · exact elt_
        · exact ilt
      rw [upd_ne (Nat.ne_of_lt below)]
      exact (hf b hb).1
  done := by
    intro X hP hw hK hc i pins s σ H E I hf st hg
    subst hP hw hK
    obtain ⟨⟨old, he⟩, hit, hne⟩ := st
    obtain ⟨xs, hq, hx⟩ := hg
    obtain ⟨its, rv, p, hz⟩ := I.tuple hq
    obtain ⟨f0, f1, f2, f3, f4, f5⟩ := hf it (by simp)
    have hl := rv.length
    exact enum_done (I.ok.hd hc) he hit p (by rw [List.size_toArray]; omega) fun h' eb => ⟨rfl, I.turned (t' := s.toks) (fun b o hb q => eb b o hb q) f0 f1 f3 f4 f5⟩
  self := fun A i s Q E st h => let ⟨⟨_, he⟩, _⟩ := st; wpAny_pyIter_enum he h
section
variable {G : Sg} {X : Cx} {W : WX} {k : Nat} {w : Wd}
theorem pi_enumT {e : Expr} {te : TE} {p pos tpos : Pos} {elts : List Expr} {kk : Nat} (hg : Gl X "enumerate") (hm : X.mg "enumerate" = none) (he : PE X e te) (hs : notStar e = true) :
    PI X (.Tuple elts kk tpos) (.Call (.Name "enumerate" p) [e] [] pos) (fun σ H R => te σ H fun v H1 => ∃ a xs, v = .ref a ∧ SqT X.K H1 a xs ∧ R (ItE X.K a) H1) := by
  have ha := pa_cons he pa_nil (starEach_cons hs)
  refine ⟨fun pins s σ H R I h => ?_⟩
  refine Call_ (ld_blt I hg hm boot_enumerate (PyProof.Rows.callWith_type1 (thn (ha.run pos pins s σ H (fun vs H1 => match vs with | [v] => ∃ a xs, v = .ref a ∧ SqT X.K H1 a xs ∧ R (ItE X.K a) H1 | _ => False) I ?_) fun us s1 got => ?_) (starEach_cons hs) rfl))
  · exact h
  · obtain ⟨vs, H1, I1, r1, got⟩ := got
    rcases vs with _ | ⟨v, _ | ⟨v2, vs⟩⟩
    · exact got.elim
    rotate_left
    · exact got.elim
    obtain ⟨a, xs, rfl, hq, q⟩ := got
    obtain ⟨u, rfl, ru⟩ := r1.one
    cases (show u = Value.ref a from ru)
    obtain ⟨its, rv, tp, hz⟩ := I1.tuple hq
    refine call_enum1 (begins_tuple a its.toArray) tp fun h' he' hit keep => wpAny_pyIter_enum he' ?_
    have I2 : Inv X pins σ H1 { s1 with heap := h' } := I1.kept (t' := s1.toks) keep
    have ti : h'.IsTupleIter s1.heap.objs.size a 0 := ⟨_, hit, rfl, rfl⟩
    refine ⟨s1.heap.objs.size + 1, [s1.heap.objs.size + 1, s1.heap.objs.size], _, _, H1, rfl, I2, turn_enumT a (s1.heap.objs.size + 1) s1.heap.objs.size, ⟨⟨.none, he'⟩, ti, Nat.succ_ne_self _⟩, fun b hb => ?_, q⟩
    have above : s1.heap.objs.size ≤ b := by
      rcases (show b = s1.heap.objs.size + 1 ∨ b = s1.heap.objs.size by simpa using hb) with z | z
      · rw [z]; exact Nat.le_add_right _ _
      · rw [z]; exact Nat.le_refl _
    exact I1.fpOk above (I1.hok.fresh above)
def numbered : Nat → List D → List D
  | _, [] => []
  | n, d :: ds => .tup [.int n, d] :: numbered (n + 1) ds
theorem numbered_len : ∀ (n : Nat) (ds : List D), (numbered n ds).length = ds.length
  | _, [] => rfl
  | n, d :: ds => by rw [numbered, List.length_cons, List.length_cons, numbered_len (n + 1) ds]
theorem numbered_get : ∀ (n i : Nat) (ds : List D) (z : D), (numbered n ds)[i]? = some z → ∃ d, ds[i]? = some d ∧ z = .tup [.int ((n + i : Nat) : Int), d]
  | _, _, [], _, h => by simp [numbered] at h
  | n, 0, d :: ds, z, h => by
    simp [numbered] at h
    exact ⟨d, rfl, h.symm⟩
  | n, i + 1, d :: ds, z, h => by
    obtain ⟨d', h1, h2⟩ := numbered_get (n + 1) i ds z (by simpa [numbered] using h)
    exact ⟨d', by simpa using h1, by rw [h2]; congr 4; omega⟩
def enumD : D → M (List D)
  | .tup ds => M.pure (numbered 0 ds)
  | _ => M.stuck
theorem yld_enum (cK : G.K = X.K) {ds : List D} {vs : List V} {a : Addr} (h : RdF w a (.tup vs) ∨ KTup G.K a vs) (r : RepVs G w ds vs) : Yld G w (numbered 0 ds) (ItE X.K a) := by
  have sq : ∀ w', Stay w w' → SqT X.K w'.H a vs := fun w' s => sqT_of cK (h.imp (fun z => z.stay s) id)
  refine ⟨fun w' i s hi => ⟨vs, sq w' s, by rw [← r.length, ← numbered_len 0]; exact hi⟩, fun w' i s hi => ?_, fun w' i d x H' S s st hd hy => ?_⟩
  · obtain ⟨v, e⟩ := r.get_len (by rw [← numbered_len 0]; exact hi)
    exact ⟨vs, v, sq w' s, e⟩
  · obtain ⟨T, y, rfl, free, rfl, hx⟩ := hy
    obtain ⟨d', h1, rfl⟩ := numbered_get 0 i ds d hd
    obtain ⟨v, ev, rv⟩ := r.get h1
    have z := hx vs (sq w' s)
    rw [ev] at z
    cases z
    refine ⟨w'.frz T (.tup [.int (i : Nat), y]), rfl, Ext.frz free, st.frz free, T, _, rfl, .inl ⟨.inr rfl, .inl upd_same⟩, _, _, rfl, by rw [Nat.zero_add]; rfl, _, _, rfl, ?_, rfl⟩
    exact RepV.stay (s.trans ((Ext.frz free).stay st.dj)) _ _ rv
theorem i_enum {e : Expr} {f : List SV → M D} {p pos tpos : Pos} {elts : List Expr} {kk : Nat} (c : Ctx G X W k) (hg : Gl X "enumerate") (hm : X.mg "enumerate" = none) (he : PV G X W e f) (hs : notStar e = true) :
    PIV G X W (.Tuple elts kk tpos) (.Call (.Name "enumerate" p) [e] [] pos) (fun sd => M.bind (f sd) enumD) := by
  refine PI.imp (pi_enumT hg hm he hs) fun σ H Q q => ?_
  obtain ⟨w0, w, sd, S, e, r, q⟩ := q
  refine ⟨w0, w, sd, S, e, r, fin_step q fun w1 S1 d v e1 s1 rv q1 => ?_⟩
  cases d with
  | tup ds =>
    obtain ⟨a, vs, ev, ha, rs⟩ := rv
    exact ⟨a, vs, ev, sqT_of c.cK ha, q1 w1 _ (Ext.refl _) s1 (yld_enum c.cK ha rs)⟩
  | _ => exact q1.elim
def charsOf : D → M (List D)
  | .str x => M.pure (x.cps.toList.map fun c => .str ⟨#[c]⟩)
  | _ => M.stuck
theorem yld_str {x : Str} : Yld G w (x.cps.toList.map fun c => D.str ⟨#[c]⟩) (Its x) := by
  have hl : (x.cps.toList.map fun c => D.str ⟨#[c]⟩).length = x.cps.size := by simp
  refine ⟨fun w' i s hi => by rw [hl] at hi; exact hi, fun w' i s hi => by rw [hl] at hi; exact hi, fun w' i d y H' S s st hd hy => ?_⟩
  obtain ⟨e, c, hc, rfl⟩ := hy
  refine ⟨w', e.symm, Ext.refl _, st, ?_⟩
  rw [List.getElem?_map, Array.getElem?_toList, hc] at hd
  cases hd
  rfl
theorem i_str {tg e : Expr} {f : List SV → M D} (he : PV G X W e f) : PIV G X W tg e (fun sd => M.bind (f sd) charsOf) := by
  refine PI.imp (pi_str he) fun σ H Q q => ?_
  obtain ⟨w0, w, sd, S, e, r, q⟩ := q
  refine ⟨w0, w, sd, S, e, r, fin_step q fun w1 S1 d v e1 s1 rv q1 => ?_⟩
  cases d with
  | str x => exact ⟨x, rv, q1 w1 _ (Ext.refl _) s1 yld_str⟩
  | _ => exact q1.elim
variable {s : Shared} {H : Hp} {scope : Scope} {env : Env} {fp : List Addr}
theorem blkV {e : Expr} {f : List SV → M D} (c : Ctx G X W k) (h : Ctx G (X.blk s H scope env fp) NoW k → PV G (X.blk s H scope env fp) NoW e f) : PV G (X.blk s H scope env fp) NoW e f := h (c.blk s H scope env fp)
theorem blkT {e : List Expr} {f : List SV → M Bool} (c : Ctx G X W k) (h : Ctx G (X.blk s H scope env fp) NoW k → PTsV G (X.blk s H scope env fp) NoW e f) : PTsV G (X.blk s H scope env fp) NoW e f := h (c.blk s H scope env fp)
theorem blkP {e : Expr} {ts : List Nat} {f : TgP} (c : Ctx G X W k) (h : Ctx G (X.blk s H scope env fp) NoW k → PGP G (X.blk s H scope env fp) ts e f) : PGP G (X.blk s H scope env fp) ts e f := h (c.blk s H scope env fp)
end
end Ev
set_option maxRecDepth 100000
set_option maxHeartbeats 2000000
namespace Ev
open PySem PySem.Spec PyProof.Rows L2
theorem kit_cc {K : PySem.W.Frag} {t : Value} {C : Addr} {b : Bool} (h1 : PySem.W.isClsIn K C = true) (h2 : PySem.W.typeIn K (.ref C) = some (.type "type")) (h3 : PySem.W.subIn K t (.ref C) = some b) (h4 : PySem.W.subIn K (.ref C) (.ref C) = some true) : PySem.W.kitOne K t (.ref C) = some b := by
  unfold PySem.W.kitOne
  by_cases e : (t == Value.ref C) = true
  · rw [if_pos e]
    have e2 : t = Value.ref C := eq_of_beq e
    rw [e2, h4] at h3
    exact h3
  · rw [if_neg e]
    unfold PySem.W.kitCls
    have h1' : (PySem.W.clsIn K C).isSome = true := h1
    simp only [h1', h2, h3]
    rfl
theorem kit_ct {K : PySem.W.Frag} {C : Addr} {T : String} {b : Bool} (h1 : PySem.W.kitMeta T = true) (h3 : PySem.W.subIn K (.ref C) (.type T) = some b) : PySem.W.kitOne K (.ref C) (.type T) = some b := by
  unfold PySem.W.kitOne
  by_cases e : (Value.ref C == Value.type T) = true
  · cases eq_of_beq e
  rw [if_neg e]
  unfold PySem.W.kitCls
  simp only [h1, h3]
  rfl
end Ev
set_option maxRecDepth 100000
set_option maxHeartbeats 2000000
namespace Ev
open PySem L2
def Run {α : Type} (f : M α) (S : List Ob) (P : α → List Ob → Prop) : Prop := match f S with
  | some (.ok a, S') => P a S'
  | _ => False
def RunS (f : MS) (sd : List SV) (S : List Ob) (N : List SV → List Ob → Prop) (R : D → List Ob → Prop) (B C : List SV → List Ob → Prop) : Prop := match f sd S with
  | some (.next sd', S') => N sd' S'
  | some (.ret d, S') => R d S'
  | some (.brk sd', S') => B sd' S'
  | some (.cont sd', S') => C sd' S'
  | _ => False
section
variable {α β : Type} {f : M α} {S : List Ob} {P P' : α → List Ob → Prop}
theorem run_pure {a : α} : Run (M.pure a) S P ↔ P a S := Iff.rfl
theorem run_stuck : Run (M.stuck : M α) S P ↔ False := Iff.rfl
theorem run_bind {k : α → M β} {Q : β → List Ob → Prop} : Run (M.bind f k) S Q ↔ Run f S fun a S' => Run (k a) S' Q := by
  unfold Run M.bind
  rcases f S with _ | ⟨_ | a, S'⟩
  · exact Iff.rfl
  · exact Iff.rfl
  · exact Iff.rfl
theorem run_ite {c : Prop} [Decidable c] {g : M α} : Run (if c then f else g) S P ↔ if c then Run f S P else Run g S P := by split <;> exact Iff.rfl
theorem run_noErr : Run (noErr f) S P ↔ Run f S P := by
  unfold Run noErr
  rcases f S with _ | ⟨_ | a, S'⟩ <;> exact Iff.rfl
theorem Run.mono (h : Run f S P) (i : ∀ a S', P a S' → P' a S') : Run f S P' := by
  unfold Run at h ⊢
  rcases e : f S with _ | ⟨_ | a, S'⟩
  · rw [e] at h; exact h
  · rw [e] at h; exact h
  · rw [e] at h; exact i a S' h
theorem Run.ex (h : Run f S P) : ∃ a S', f S = some (.ok a, S') ∧ P a S' := by
  unfold Run at h
  rcases e : f S with _ | ⟨_ | a, S'⟩
  · rw [e] at h; exact h.elim
  · rw [e] at h; exact h.elim
  · rw [e] at h; exact ⟨a, S', rfl, h⟩
theorem pure_of {r : α} (h : ∀ S, Run f S fun d S' => d = r ∧ S' = S) : f = M.pure r := by
  funext S
  obtain ⟨a, S', e, rfl, rfl⟩ := (h S).ex
  rw [e]
  rfl
variable {sd : List SV} {N N' : List SV → List Ob → Prop} {R R' : D → List Ob → Prop} {B B' C C' : List SV → List Ob → Prop} {m1 m2 : MS}
theorem runS_next : RunS nextS sd S N R B C ↔ N sd S := Iff.rfl
theorem runS_stuck : RunS stuckS sd S N R B C ↔ False := Iff.rfl
theorem runS_seq : RunS (seqS m1 m2) sd S N R B C ↔ RunS m1 sd S (fun sd' S' => RunS m2 sd' S' N R B C) R B C := by
  unfold RunS seqS
  rcases m1 sd S with _ | ⟨_ | _ | _ | _ | _, S'⟩ <;> exact Iff.rfl
theorem runS_ex {g : List SV → M α} {k : α → MS} : RunS (exS g k) sd S N R B C ↔ Run (g sd) S fun d S' => RunS (k d) sd S' N R B C := by
  unfold RunS exS Run
  rcases g sd S with _ | ⟨_ | a, S'⟩ <;> exact Iff.rfl
theorem runS_ret {g : List SV → M D} : RunS (retS g) sd S N R B C ↔ Run (g sd) S R := by
  unfold retS
  rw [runS_ex]
  exact Iff.rfl
theorem runS_asg {g : List SV → M D} {i : Nat} : RunS (asgS g (setT i)) sd S N R B C ↔ Run (g sd) S fun d S' => N (sd.set i (.val d)) S' := by
  unfold asgS
  rw [runS_ex]
  exact Iff.rfl
theorem runS_par {g : List SV → M (List D)} {i j : Nat} : RunS (parS i j g) sd S N R B C ↔ Run (g sd) S fun ds S' => match ds with | [a, b] => N ((sd.set i (.val a)).set j (.val b)) S' | _ => False := by
  unfold parS
  rw [runS_ex]
  unfold Run
  rcases g sd S with _ | ⟨_ | ds, S'⟩
  · exact Iff.rfl
  · exact Iff.rfl
  · rcases ds with _ | ⟨a, _ | ⟨b, _ | ⟨c, ds⟩⟩⟩ <;> exact Iff.rfl
theorem runS_if {g : List SV → M Bool} : RunS (exS g fun k => if k = true then m1 else m2) sd S N R B C ↔ Run (g sd) S fun k S' => if k = true then RunS m1 sd S' N R B C else RunS m2 sd S' N R B C := by
  rw [runS_ex]
  have e : (fun (d : Bool) S' => RunS (if d = true then m1 else m2) sd S' N R B C) = fun k S' => if k = true then RunS m1 sd S' N R B C else RunS m2 sd S' N R B C := by
    funext d S'
    cases d <;> rfl
  rw [e]
theorem runS_own {g : List SV → M (List D)} {i : Nat} : RunS (ownS i g) sd S N R B C ↔ Run (g sd) S fun ds S' => N (sd.set i (.own (.lst ds))) S' := by
  unfold ownS
  rw [runS_ex]
  exact Iff.rfl
theorem runS_tgt {g : List SV → M D} {t : Tgt} : RunS (asgS g t) sd S N R B C ↔ Run (g sd) S fun d S' => match t d sd S' with | some (sd2, S2) => N sd2 S2 | none => False := by
  unfold asgS
  rw [runS_ex]
  unfold Run
  rcases g sd S with _ | ⟨_ | d, S'⟩
  · exact Iff.rfl
  · exact Iff.rfl
  · unfold RunS
    simp only
    rcases t d sd S' with _ | ⟨sd2, S2⟩
    · exact Iff.rfl
    · exact Iff.rfl
theorem RunS.mono (h : RunS m1 sd S N R B C) (hN : ∀ sd S, N sd S → N' sd S) (hR : ∀ d S, R d S → R' d S) (hB : ∀ sd S, B sd S → B' sd S) (hC : ∀ sd S, C sd S → C' sd S) : RunS m1 sd S N' R' B' C' := by
  unfold RunS at h ⊢
  rcases e : m1 sd S with _ | ⟨_ | _ | _ | _ | _, S'⟩
  · rw [e] at h; exact h
  · rw [e] at h; exact hN _ _ h
  · rw [e] at h; exact hR _ _ h
  · rw [e] at h; exact hB _ _ h
  · rw [e] at h; exact hC _ _ h
  · rw [e] at h; exact h
theorem loop_rule {t : Tgt} {body : MS} (J : List D → List SV → List Ob → Prop) (step : ∀ d ds sd S, J (d :: ds) sd S → ∃ sd1 S1, t d sd S = some (sd1, S1) ∧ RunS body sd1 S1 (fun sd2 S2 => J ds sd2 S2) R (fun sd2 S2 => N sd2 S2) (fun sd2 S2 => J ds sd2 S2))
    (fin : ∀ sd S, J [] sd S → N sd S) : ∀ ds sd S, J ds sd S → RunS (loopS t body ds) sd S N R B C
  | [], sd, S, h => fin sd S h
  | d :: ds, sd, S, h => by
    obtain ⟨sd1, S1, e, hb⟩ := step d ds sd S h
    have ih := loop_rule J step fin ds
    unfold RunS at hb ⊢
    unfold loopS
    rw [e]
    simp only
    rcases hm : body sd1 S1 with _ | ⟨_ | _ | _ | _ | _, S'⟩
    · rw [hm] at hb; exact hb
    · rw [hm] at hb; exact ih _ _ hb
    · rw [hm] at hb; exact hb
    · rw [hm] at hb; exact hb
    · rw [hm] at hb; exact ih _ _ hb
    · rw [hm] at hb; exact hb
theorem runS_for {g : List SV → M (List D)} {t : Tgt} {body : MS} : RunS (forS g t body) sd S N R B C ↔ Run (g sd) S fun ds S' => RunS (loopS t body ds) sd S' N R B C := by
  unfold forS
  rw [runS_ex]
theorem iter_rule {c : List SV → M Bool} {body : MS} (J : Nat → List SV → List Ob → Prop) (step : ∀ n sd S, J n sd S → Run (c sd) S fun b S1 => if b = true then RunS body sd S1 (fun sd2 S2 => ∃ n', n' < n ∧ J n' sd2 S2) R N (fun sd2 S2 => ∃ n', n' < n ∧ J n' sd2 S2) else N sd S1) :
    ∀ fuel n sd S, n < fuel → J n sd S → RunS (iterS c body fuel) sd S N R B C
  | 0, n, sd, S, l, _ => absurd l (Nat.not_lt_zero n)
  | fuel + 1, n, sd, S, l, h => by
    unfold iterS
    rw [runS_ex]
    refine (step n sd S h).mono fun b S1 hb => ?_
    cases b with
    | false => exact hb
    | true =>
      simp only [if_true] at hb ⊢
      unfold RunS at hb ⊢
      dsimp only at hb ⊢
      rcases hm : body sd S1 with _ | ⟨_ | _ | _ | _ | _, S'⟩
      · simp only [hm] at hb ⊢
      · simp only [hm] at hb ⊢
        obtain ⟨n', l', h'⟩ := hb
        exact iter_rule J step fuel n' _ _ (by omega) h'
      · simp only [hm] at hb ⊢; exact hb
      · simp only [hm] at hb ⊢; exact hb
      · simp only [hm] at hb ⊢
        obtain ⟨n', l', h'⟩ := hb
        exact iter_rule J step fuel n' _ _ (by omega) h'
      · simp only [hm] at hb ⊢
theorem run_fn {m n : Nat} {ms : MS} {ds : List D} {Q : D → List Ob → Prop} : Run (runFn m n ms ds) S Q ↔ ds.length = m ∧ RunS ms (slots n (ds.map .val)) S (fun _ S' => Q .non S') Q (fun _ _ => False) (fun _ _ => False) := by
  unfold Run runFn RunS
  by_cases h : ds.length = m
  · simp only [h, if_true, true_and]
    rcases ms (slots n (ds.map .val)) S with _ | ⟨_ | _ | _ | _ | _, S'⟩ <;> exact Iff.rfl
  · simp only [h, if_false, false_and]
end
theorem getv_val {i : Nat} {sd : List SV} {d : D} (h : sd[i]? = some (.val d)) : getv i sd = M.pure d := by
  unfold getv
  rw [h]
theorem toB_bl (b : Bool) : toB (.bl b) = M.pure b := rfl
theorem add_int (i j : Int) : dAdd (.int i) (.int j) = M.pure (.int (i + j)) := rfl
theorem sub_int (i j : Int) : dSub (.int i) (.int j) = M.pure (.int (i - j)) := rfl
theorem mul_int {i j : Int} (h : mulOk i j = true) : dMul (.int i) (.int j) = M.pure (.int (i * j)) := by
  show (if mulOk i j = true then M.pure (D.int (i * j)) else M.stuck) = _
  rw [if_pos h]
theorem mod_int {i j : Int} (h : 0 < j) : dMod (.int i) (.int j) = M.pure (.int (i % j)) := by
  show (if 0 < j then M.pure (D.int (i % j)) else M.stuck) = _
  rw [if_pos h]
theorem fdiv_int {i j : Int} (h : divOk j = true) : dFdiv (.int i) (.int j) = M.pure (.int (i / j)) := by
  show (if divOk j = true then M.pure (D.int (i / j)) else M.stuck) = _
  rw [if_pos h]
theorem cmp_int (p : Int → Int → Bool) (i j : Int) : dCmpI p (.int i) (.int j) = M.pure (.bl (p i j)) := rfl
theorem int_int (i : Int) : dInt (.int i) = M.pure (.int i) := rfl
theorem ix_tup {ds : List D} {i : Int} {d : D} (h : atI ds i = some d) : dIx (.tup ds) (.int i) = M.pure d := by
  funext S
  show (match atI ds i with | some x => (some (Except.ok x, S) : Option (Except Exn D × List Ob)) | none => none) = _
  rw [h]
  rfl
theorem ix_lst {ds : List D} {i : Int} {d : D} (h : atI ds i = some d) : dIx (.lst ds) (.int i) = M.pure d := by
  funext S
  show (match atI ds i with | some x => (some (Except.ok x, S) : Option (Except Exn D × List Ob)) | none => none) = _
  rw [h]
  rfl
end Ev
set_option maxRecDepth 100000
set_option maxHeartbeats 2000000
namespace PySem.W
open PySem PyProof.Rows
end PySem.W
namespace Ev
open PySem PySem.Spec PyProof.Rows L2
section
variable {G : Sg} {X : Cx} {W : WX} {k n m j : Nat} {f C : Addr} {sem : List D → M D} {x y mm : Str} {p pos apos kpos : Pos} {e o fe : Expr} {es : List Expr} {kws : List Keyword} {ks : List Str} {fa fk : List SV → M (List D)} {ff g : List SV → M D} {σ : L2.St}
theorem EP.mono {pins : List (Addr × Obj)} {Q Q' : VK} {v : Value} {s : Shared} (h : EP X pins σ Q v s) (i : ∀ z H, Q z H → Q' z H) : EP X pins σ Q' v s := by
  obtain ⟨z, H, I, r, q⟩ := h
  exact ⟨z, H, I, r, i z H q⟩
end
end Ev
set_option maxRecDepth 100000
set_option maxHeartbeats 2000000
namespace Ev
open PySem PySem.Spec PyProof.Rows L2
structure ClK (P : Program) (w : World) (K : PySem.W.Frag) (mg : Str → Option Value) (base : Heap) (G : Sg) (k c m : Nat) (ks : List Str) (sem : List D → M D) : Prop where
  ex : ∃ f, Mk K (G.ca c) f ∧ ∀ (A : Around) (fr : List Env) (s : Shared) (H : Hp) (us ws : List Value) (vs zs : List V) (Q : VK) (E : XK), Rm G.gd k A → Env0 P w K mg base A fr s H → Vals vs us → Vals zs ws → vs.length = m + 1 → zs.length = ks.length →
    spN G c sem (vs ++ zs) H Q E → codeAny (model P w) A (.call (.ref f) ⟨us, ks.zip ws⟩) (CR (L2N.CX P w) fr P w H s Q E) s
theorem ClK.mono {P : Program} {w : World} {K : PySem.W.Frag} {mg : Str → Option Value} {base : Heap} {G : Sg} {j k c m : Nat} {ks : List Str} {sem : List D → M D} (F : ClK P w K mg base G j c m ks sem) (h : j ≤ k) : ClK P w K mg base G k c m ks sem :=
  ⟨let ⟨f, M, g⟩ := F.ex; ⟨f, M, fun A fr s H us ws vs zs Q E hr => g A fr s H us ws vs zs Q E (hr.mono h)⟩⟩
section
variable {P : Program} {w : World} {K : PySem.W.Frag} {mg : Str → Option Value} {base : Heap} {G : Sg} {k c m : Nat} {f : Addr} {x qual : Str} {st : Stmt} {fd : FuncData} {N ps ks : List Str} {ms : MS} {ix : List Nat}
theorem perm_self {α : Type} (a : α) (l : List α) (ix : List Nat) : perm (0 :: ix.map (· + 1)) (a :: l) = a :: perm ix l := by
  unfold perm
  rw [List.filterMap_cons]
  simp only [List.getElem?_cons_zero, List.filterMap_map]
  congr 1
end
section
variable {G : Sg} {X : Cx} {W : WX} {k n m j c : Nat} {f C : Addr} {sem : List D → M D} {x y mm : Str} {p pos apos kpos : Pos} {e o fe : Expr} {es : List Expr} {kws : List Keyword} {ks : List Str} {fa fk : List SV → M (List D)} {ff g : List SV → M D} {σ : L2.St}
theorem ClK.call (cx : Ctx G X W k) (F : ClK X.prog X.w X.K X.mg X.base G k c m ks sem) : CallK G X W (G.ca c) m ks sem := by
  obtain ⟨f, M, g⟩ := F.ex
  refine ⟨M.kp, fun pins σ H s Q us ws vs zs I r r2 l1 l2 h => ?_⟩
  have J := Inv.made (C := G.ca c) I
  have body := g _ X.stack _ _ (Value.ref (s.heap.objs.size + 1) :: us) ws (V.ref (s.heap.objs.size + 1) :: vs) zs _ _ (cx.rm.make (G.ca c) us (ks.zip ws)) (J.env0.make (G.ca c) us (ks.zip ws)) (.cons rfl r) r2 (by rw [List.length_cons, l1]) l2
    ⟨_, _, vs ++ zs, H, Q, rfl, rfl, I.hok.fresh (Nat.le_succ _), I.hok.fresh (Nat.le_refl _), Nat.ne_of_lt (Nat.lt_succ_self s.heap.objs.size), rfl, h⟩
  refine wpAny_call (make_map (f := f) I.kIn M.makes M.init (beq_iff_eq.mp M.fn) (codeAny_mono body ?_))
  rintro (er | fl) s' got
  · exact cx.px σ pins _ _ er s' J got
  · cases fl with
    | ret u =>
      obtain ⟨v, H', J2, rv, rfl, q3⟩ := J.after got
      exact ⟨rv, V.ref (s.heap.objs.size + 1), H', J2, rfl, q3⟩
    | next => exact got.elim
    | brk => exact got.elim
    | cont => exact got.elim
theorem methk_tree {env : Env} {m : Str} {args : List Expr} (hb : plainBase o = true) (hs : args.all notStar = true) (hall : (backToKw pos (keywordEach kws env)).all (·.1.isSome) = true) (hl : args.length + kws.length + 1 < 30) (hp : (apos.endLine == pos.line) = true) :
    eval (.Call (.Attribute o m apos) args kws pos) env = (do
      let ov ← eval o env
      standAt apos.atName
      let (f, first) ← holding [ov] (getMethod ov m (do return (← importBound o env).getD true))
      callWith pos f first (backTo pos (starEach args env)) (backToKw pos (keywordEach kws env))) := by
  have e1 : eval (.Call (.Attribute o m apos) args kws pos) env = (do
      let ov ← attributeBase o m env (eval o env)
      standAt apos.atName
      methodCall o m apos pos env ov (args.length + kws.length) (backTo pos (starEach args env)) (backToKw pos (keywordEach kws env))) := rfl
  have few : methodCallForm (args.length + kws.length) (backTo pos (starEach args env)) (backToKw pos (keywordEach kws env)) = true := by
    unfold methodCallForm
    rw [star_form hs, hall]
    show (true && true && decide (args.length + kws.length + (if (backToKw pos (keywordEach kws env)).isEmpty then 0 else 1) < 30)) = true
    rw [decide_eq_true (by split <;> omega)]
    rfl
  rw [e1, attr_base hb]
  unfold methodCall
  rw [few]
  have mp : methodCallPos true o env apos pos = (pure pos : Sem Pos) := by
    unfold methodCallPos
    rw [hp]
    rfl
  rw [mp]
  rfl
end
end Ev
set_option maxRecDepth 100000
set_option maxHeartbeats 2000000
namespace Ev
open PySem PySem.Spec PyProof.Rows L2
end Ev
set_option maxRecDepth 100000
set_option maxHeartbeats 2000000
namespace Ev
open PySem PySem.Spec PyProof.Rows L2 PySem.W NdefX
structure PSsA (X : Cx) (c : Code) (st : List Stmt) (t : TS) : Prop where
  run : ∀ (pins : List (Addr × Obj)) (s : Shared) (σ : L2.St) (H : Hp) (D : Ends), Inv X pins σ H s → t D σ H → _root_.PySem.wpAt (model X.prog X.w) X.A c (execs st X.env) (SP X pins D) X.xe s
structure PSA (X : Cx) (c : Code) (st : Stmt) (t : TS) : Prop where
  run : ∀ (pins : List (Addr × Obj)) (s : Shared) (σ : L2.St) (H : Hp) (D : Ends), Inv X pins σ H s → t D σ H → _root_.PySem.wpAt (model X.prog X.w) X.A c (exec st X.env) (SP X pins D) X.xe s
abbrev PSsAV (G : Sg) (X : Cx) (W : WX) (c : Code) (st : List Stmt) (f : MS) : Prop := PSsA X c st (tsV G W f)
abbrev PSAV (G : Sg) (X : Cx) (W : WX) (c : Code) (st : Stmt) (f : MS) : Prop := PSA X c st (tsV G W f)
section
variable {G : Sg} {X : Cx} {W : WX} {k : Nat} {c : Code} {st : Stmt} {rest sts : List Stmt} {f g : MS}
theorem sa_of (h : PSsV G X W sts f) : PSsAV G X W c sts f := ⟨fun pins s σ H D I q => wpAt_of_wpAny (h.run pins s σ H D I q)⟩
theorem sa_st (h : PSV G X W st f) : PSAV G X W c st f := ⟨fun pins s σ H D I q => wpAt_of_wpAny (h.run pins s σ H D I q)⟩
theorem sa_seq {t u : TS} (h1 : PSA X c st t) (h2 : PSsA X c rest u) : PSsA X c (st :: rest) (tSeq t u) := by
  refine ⟨fun pins s σ H D I h => ?_⟩
  refine ks_wpAt_execs_cons (ks_wpAt_mono (h1.run pins s σ H { D with nx := u D } I h) (fun fl s1 q => ?_) fun _ _ x => x)
  cases fl with
  | next =>
    obtain ⟨σ', H', I', q⟩ := q
    exact h2.run pins s1 σ' H' D I' q
  | ret v => exact q
  | brk => exact q
  | cont => exact q
theorem sa_cons (h1 : PSAV G X W c st f) (h2 : PSsAV G X W c rest g) : PSsAV G X W c (st :: rest) (seqS f g) := by
  refine ⟨fun pins s σ H D I h => (sa_seq h1 h2).run pins s σ H D I ?_⟩
  obtain ⟨w0, w, sd, S, e, r, q⟩ := h
  refine ⟨w0, w, sd, S, e, r, ?_⟩
  unfold seqS at q
  rcases hf : f sd S with _ | ⟨_ | _ | _ | _ | _, S1⟩
  · rw [hf] at q; exact q
  · rw [hf] at q
    exact fun w' σ' s r' => ⟨w0, w', _, S1, rfl, r', FinS.stay s q⟩
  · rw [hf] at q; exact q
  · rw [hf] at q; exact q
  · rw [hf] at q; exact q
  · rw [hf] at q; exact q
end
theorem FnS.mono {P : Program} {w : World} {K : Frag} {mg : Str → Option Value} {base : Heap} {b : Bool} {j k : Nat} {f : Addr} {sp : Sp} (F : FnS P w K mg base b j f sp) (h : j ≤ k) : FnS P w K mg base b k f sp := fun A fr s H us vs Q E hr => F A fr s H us vs Q E (hr.mono h)
structure Sup (P : Program) (K : PySem.W.Frag) (name qual : Str) (st : Stmt) (f cc cda Dc C f2 : Addr) : Prop where
  fu : ∃ (oc : Value) (od : Option Addr) (kV doc pm : Value) (an : Option Addr) (ct : Value) (osl : Array (Option Value)), K.lookup f = some ⟨oc, od, .func (fnX name qual (defArgs st) (defBody st) (defScope st) [("__class__", cc)] .none kV doc pm an (.ref cda) ct), osl⟩
  cd : codeIn K (.ref cda) qual = true
  kp : keepIn K (.ref f) = true
  cell : ∃ (cl : Value) (cld : Option Addr) (csl : Array (Option Value)), K.lookup cc = some ⟨cl, cld, .cell (some (.ref Dc)), csl⟩
  code : ∃ (ccl : Value) (cdd : Option Addr) (vs : Array Value) (ccs : Array (Option Value)) (file : Str) (tf : Tok), K.lookup cda = some ⟨ccl, cdd, .fields vs, ccs⟩ ∧ vs[2]? = some (.str file tf) ∧ ((P.main.file : Str) == file) = true
  cls : ∃ cdD, clsIn K Dc = some cdD
  sub : mroIn K C (.ref Dc) = some true
  sup : ks_superIn K C Dc "__init__" = some (some (.ref f2))
  ty : typeIn K (.ref f2) = some (.type "function")
  fi : fnIn K f2 = true
  op : nsIn K cStatics "thirdparty.any" = some none
  top : (P.main.scope.names.lookup ("super" : Str)).isSome = false
def notOwn : SV → Bool
  | .own _ => false
  | _ => true
def supS (c0 m2 n2 : Nat) (ms2 : MS) (fa : List SV → M (List D)) : Ev.MS := fun (sd : List Ev.SV) (S : List Ev.Ob) => match (sd[0]? : Option Ev.SV) with
  | some (Ev.SV.own (Ev.Ob.ins c es)) => if c = c0 ∧ (sd.drop 1).all notOwn = true then exS fa (fun ds sd S => if ds.length + 1 = m2 then match ms2 (slots n2 (.own (.ins c es) :: ds.map .val)) S with
      | some (.next sd', S') => match (sd'[0]? : Option Ev.SV) with
        | some (Ev.SV.own o') => some (.next (sd.set 0 (.own o')), S')
        | _ => none
      | _ => none
    else none) sd S else none
  | _ => none
theorem no_own {sd : List Ev.SV} {i : Nat} {o : Ev.Ob} (h : (sd.drop 1).all notOwn = true) (hi : i ≠ 0) : sd[i]? ≠ some (Ev.SV.own o) := fun z => by
  obtain ⟨j, rfl⟩ : ∃ j, i = j + 1 := ⟨i - 1, by omega⟩
  have m : Ev.SV.own o ∈ sd.drop 1 := by
    refine List.mem_of_getElem? (i := j) ?_
    rw [List.getElem?_drop, Nat.add_comm]
    exact z
  have := List.all_eq_true.mp h _ m
  cases this
theorem R.enterO {G : Sg} {wd w1 : Wd} {N : List Str} {ds : List D} {vs : List V} {S : List Ob} {a : Addr} {o : Ob} (e : Ext wd w1) (s : RepS G w1 S) (r : RepVs G w1 ds vs) (h : ds.length + 1 ≤ N.length) (ha : RepO G w1 a o) (nF : ¬ w1.F a) (nm : a ∉ w1.m) (n0 : wd.H a = none) :
    R G { wd with x := some a } w1 (slots N.length (.own o :: ds.map .val)) S (L2.start N (V.ref a :: vs)) := by
  have hd : ∀ {i : Nat} {y : SV}, (slots N.length (SV.own o :: ds.map .val))[i]? = some y → (i = 0 ∧ y = .own o) ∨ (∃ j, i = j + 1 ∧ (slots (N.length - 1) (ds.map SV.val))[j]? = some y) := fun {i y} z => by
    cases i with
    | zero =>
      refine .inl ⟨rfl, ?_⟩
      unfold slots at z
      simp at z
      exact z.symm
    | succ j =>
      refine .inr ⟨j, rfl, ?_⟩
      unfold slots at z ⊢
      have e1 : N.length - (SV.own o :: ds.map SV.val).length = N.length - 1 - (ds.map SV.val).length := by
        rw [List.length_cons]
        omega
      rw [e1, List.cons_append, List.getElem?_cons_succ] at z
      exact z
  have s0 : (L2.start N (V.ref a :: vs))[0]? = some (some (V.ref a)) := start_get rfl
  refine ⟨⟨e.m, e.F, e.H, e.nm, e.nF, e.al⟩, s, ?_, fun i d z => ?_, fun i o z => ?_, fun i j o o' b z1 z2 _ _ => ?_, fun b o eb z => ?_⟩
  · have l : vs.length = ds.length := r.length.symm
    rw [start_len (by rw [List.length_cons, l]; exact h), slots_len (by rw [List.length_cons, List.length_map]; exact h)]
  · rcases hd z with ⟨_, e2⟩ | ⟨j, rfl, z2⟩
    · cases e2
    · obtain ⟨v, h1, h2⟩ := r.get (slots_val z2)
      exact ⟨v, start_get (by rw [List.getElem?_cons_succ]; exact h1), h2⟩
  · rcases hd z with ⟨rfl, e2⟩ | ⟨j, rfl, z2⟩
    · cases e2
      exact ⟨a, s0, ha, nF, nm, n0⟩
    · exact (slots_own z2).elim
  · rcases hd z1 with ⟨e1, _⟩ | ⟨j1, _, z1⟩
    · rcases hd z2 with ⟨e2, _⟩ | ⟨j2, _, z2⟩
      · rw [e1, e2]
      · exact (slots_own z2).elim
    · exact (slots_own z1).elim
  · cases eb
    exact s0
abbrev nfOf (name qual : Str) (st : Stmt) (cc cda : Addr) : NF := ⟨name, qual, defArgs st, defBody st, defScope st, [("__class__", cc)], cda⟩
section
variable {G : Sg} {X : Cx} {W : WX} {k n : Nat} {body : List Stmt} {name qual self : Str} {st : Stmt} {f cc cda Dc C f2 : Addr} {p0 p1 apos pos pos2 : Pos} {e : Expr} {es : List Expr} {fa : List SV → M (List D)}
theorem s_super {c0 m2 n2 : Nat} {N2 ps2 : List Str} {ms2 : MS} {L : Addr} {ar : Arg} {ars : List Arg} (c : Ctx G X W k) (U : Sup X.prog X.K name qual st f cc cda Dc (G.ca c0) f2) (he : X.env = envF (nfOf name qual st cc cda) f L)
    (B2 : FnS X.prog X.w X.K X.mg X.base G.gd k f2 (fun vs H Q E => vs.length = ps2.length ∧ spT G N2 ms2 vs H Q E)) (e2 : ps2.length = m2) (en : N2.length = n2) (hmn : m2 ≤ n2)
    (hm : X.mg "super" = none) (hks : (defScope st).names.lookup ("super" : Str) = some .globalImplicit) (hkc : (defScope st).names.lookup ("__class__" : Str) = some .free) (hp : (defArgs st).posonlyargs ++ (defArgs st).args = ar :: ars) (hka : (defScope st).names.lookup ar.arg = some .local) (h0 : X.N[0]? = some ar.arg)
    (ha : PLn G X W n (e :: es) fa) (hs : (e :: es).all notStar = true)
    (hi : interactive X.env = false) (hsw : swapsWith (.Call (.Attribute (.Call (.Name "super" p0) [] [] p1) "__init__" apos) (e :: es) [] pos) none pos2.line X.env = pure false)
    (htree : eval (.Call (.Attribute (.Call (.Name "super" p0) [] [] p1) "__init__" apos) (e :: es) [] pos) X.env = (do
      let ov ← attributeBase (.Call (.Name "super" p0) [] [] p1) "__init__" X.env (eval (.Call (.Name "super" p0) [] [] p1) X.env)
      standAt apos.atName
      let (f, first) ← holding [ov] (getMethod ov "__init__" (do return (← importBound (.Call (.Name "super" p0) [] [] p1) X.env).getD true))
      callWith pos f first (backTo pos (starEach (e :: es) X.env)) [])) :
    PSAV G X W (.func body X.env) (.Expr (.Call (.Attribute (.Call (.Name "super" p0) [] [] p1) "__init__" apos) (e :: es) [] pos) pos2) (supS c0 m2 n2 ms2 fa) := by
  have hs2 : notStar e = true ∧ es.all notStar = true := by simpa using hs
  obtain ⟨oc, od, kV, doc, pm, an, ct, osl, hf⟩ := U.fu
  obtain ⟨cl, cld, csl, hcell⟩ := U.cell
  obtain ⟨ccl, cdd, vsC, ccs, file, tf, hcode, hvs, hfile⟩ := U.code
  obtain ⟨cdD, hD⟩ := U.cls
  constructor
  intro pins s σ H En I ⟨w0, w, sd, S, eH, r, q⟩
  subst eH
  unfold supS at q
  rcases hsd : sd[0]? with _ | _ | _ | ⟨_ | _ | ⟨c', es'⟩ | jt⟩
  · rw [hsd] at q; exact q.elim
  · rw [hsd] at q; exact q.elim
  · rw [hsd] at q; exact q.elim
  · rw [hsd] at q; exact q.elim
  · rw [hsd] at q; exact q.elim
  rotate_left
  · rw [hsd] at q; exact q.elim
  rw [hsd] at q
  simp only at q
  split at q
  case isFalse => exact q.elim
  case isTrue hc =>
  obtain ⟨rfl, hno⟩ := hc
  obtain ⟨a, hσ, ho, nF, nm, n0⟩ := r.ow 0 _ hsd
  obtain ⟨dx, vs0, hb, _, _⟩ := id ho
  obtain ⟨m1, O1, _⟩ := ins_get I.hok hb
  obtain ⟨od1, J1, _⟩ := O1.look
  have X1 := I.kIn
  have hk := I.ok.kind
  have kof : ∀ x, X.env.kindOf x = (defScope st).names.lookup x := fun x => by rw [he]; rfl
  obtain ⟨oD, hD1, hD2⟩ : ∃ oD, s.heap.get? Dc = some oD ∧ oD.data = .cls cdD := by
    unfold clsIn at hD
    split at hD
    · rename_i c d cd' sl ho
      cases hD
      exact ⟨_, X1 _ _ ho, rfl⟩
    · cases hD
  refine ks_wpAt_Expr_any (ks_wpAt_MethodCall (pl := (do return (← importBound (.Call (.Name "super" p0) [] [] p1) X.env).getD true)) ?_ htree) hi hsw
  obtain ⟨hh, g, d, t, os⟩ := s
  refine ks_wpAt_super_base (env := X.env) ((kof _).trans hks) ((kof _).trans hkc) rfl (by rw [he]) (X1 _ _ hf) rfl (ar := ar) (by show ((defArgs st).posonlyargs ++ (defArgs st).args).head? = _; rw [hp]; rfl) (by rw [he]) (X1 _ _ hcode) rfl hvs hfile U.top ?_
  obtain ⟨mb, hb1, hb2⟩ := I.mod.blt
  refine ks_loadName_global hk ((kof _).trans hks) (Calls.loadGlobal_builtin (by rw [I.ok.glob]; exact I.mod.glob.keeps I.bk) hm (by rw [I.ok.blt]; exact hb1.keeps I.bk) ((hb2 "super" (by decide)).trans (show bootBuiltins "super" = some (.type "super") by decide +kernel)) ⟨rfl, ?_⟩)
  refine wpAny_loadName_free hk ((kof _).trans hkc) (by rw [he]; rfl) ⟨_, X1 _ _ hcell, rfl⟩ ?_
  obtain ⟨m, hns, hlook⟩ := I.loc
  obtain ⟨u0, ru0, lk0⟩ := hlook 0 ar.arg (.ref a) h0 hσ (.inl ((show X.env.scope.names.lookup ar.arg = (defScope st).names.lookup ar.arg by rw [he]).trans hka))
  cases (show u0 = Value.ref a from ru0)
  have hself : m ar.arg = some (.ref a) := by
    rcases lk0 with ⟨_, z⟩ | ⟨z, _⟩
    · exact z
    · have e1 : X.env.scope.names.lookup ar.arg = some .local := (show X.env.scope.names.lookup ar.arg = (defScope st).names.lookup ar.arg by rw [he]).trans hka
      rcases z with z | z <;> (rw [show X.env.kindOf ar.arg = X.env.scope.names.lookup ar.arg from rfl, e1] at z; cases z)
  refine wpAny_loadName_local hk ((kof _).trans hka) hns hself ?_
  refine ks_wpAny_isType_cls hD1 hD2 ⟨rfl, ?_⟩
  refine ks_wpAny_call_super hD1 hD2 J1.at_ J1.cls (fun c e => ?_) (looks_mroIn X1 U.sub) (fun h' eso k1 => ?_)
  · have := J1.no
    unfold notCls at this
    rw [e] at this
    exact Bool.noConfusion this
  have hsz : hh.objs.size < h'.objs.size := Heap.lt_size eso
  have nq : w.H h'.objs.size = none := I.hok.fresh (Nat.le_of_lt hsz)
  have X2 : X.K.In h' := fun b o z => k1 b o (X1 b o z)
  obtain ⟨cdC, hcC⟩ : ∃ cdC, clsIn X.K (G.ca c') = some cdC := by
    have z := U.sup
    unfold ks_superIn at z
    cases hz : clsIn X.K (G.ca c') with
    | none => rw [hz] at z; cases z
    | some cd => exact ⟨cd, rfl⟩
  have halong : alongIn X.K "__init__" ((cdC.mro.dropWhile (· != .ref Dc)).drop 1) = some (some (.ref f2)) := by
    have z := U.sup
    unfold ks_superIn at z
    rw [hcC] at z
    exact z
  obtain ⟨of, hof, hofc⟩ : ∃ of, h'.get? f2 = some of ∧ of.cls = .type "function" := by
    have ht' : (X.K.lookup f2).map (·.cls) = some (.type "function") := U.ty
    cases z : X.K.lookup f2 with
    | none => rw [z] at ht'; cases ht'
    | some of => rw [z] at ht'; exact ⟨of, X2 _ _ z, Option.some.inj ht'⟩
  refine ks_wpAny_getMethod_super eso (looks_opaque X2 U.op) (l₀ := cdC.mro) (fun A Q E s k q => wpAny_bind ((looks_clsIn X2 hcC) A _ E s k (wpAny_pure q))) rfl X2 halong hof hofc (ks_ne X1 J1 hcC) rfl ?_
  have I1 := I.laid (h' := h'.push (methodObj (.ref f2) (.ref a))) (t' := t + 1) (a := h'.objs.size) (o := .met f2 a) (fun b u z => Heap.get?_push_of_some _ (k1 b u z)) (Nat.le_of_lt hsz)
    (show (h'.push (methodObj (.ref f2) (.ref a))).get? h'.objs.size = some (methodObj (.ref f2) (.ref a)) from Heap.get?_push_size h' rfl)
  have eF := Ext.frz (w := w) (p := h'.objs.size) (o := .met f2 a) nq
  have r1 := r.step eF (r.st.frz nq)
  have hmet : (w.frz h'.objs.size (.met f2 a)).H h'.objs.size = some (.met f2 a) := upd_same
  have nmq : h'.objs.size ∉ (w.frz h'.objs.size (.met f2 a)).m := fun z => r.st.there z nq
  have q1 := FinS.stay (eF.stay r.st.dj) q
  have eargs : starEach (e :: es) X.env = (false, eval e X.env) :: starEach es X.env := starEach_cons hs2.1
  have run := ha.run pos pins _ σ (w.frz h'.objs.size (.met f2 a)).H (fun vs H2 => vs.length = n ∧ ∃ w2 S2 ds, w2.H = H2 ∧ R G w0 w2 sd S2 σ ∧ RepVs G w2 ds vs ∧ w2.H h'.objs.size = some (.met f2 a) ∧
      FinS G W w0 w2 En ((fun ds sd S => if ds.length + 1 = m2 then match ms2 (slots n2 (.own (.ins c' es') :: ds.map .val)) S with
      | some (.next sd', S') => match (sd'[0]? : Option Ev.SV) with
        | some (Ev.SV.own o') => some (.next (sd.set 0 (.own o')), S')
        | _ => none
      | _ => none
    else none : List D → Ev.MS) ds sd S2)) I1 ⟨w0, _, sd, S, rfl, r1, exS_step q1 r1 fun w2 S2 ds vs e2 r2 rv q2 => ⟨rv.2, w2, S2, ds, rfl, r2, rv.1, e2.H _ _ nmq hmet, q2⟩⟩
  rw [eargs] at run ⊢
  refine PySem.W.callWith_of (P := PySem.W.MethP X.K h'.objs.size f2 (.ref a)) (by show ((false || (backTo pos (starEach es X.env)).any (·.1)) || false) = false; rw [starEach_all hs2.2 pos]; rfl) (PySem.W.keeps_M U.fi) (Calls.evalArgs_plain (thn run fun us s2 => ?_))
  rintro ⟨vs, H2, I2, rv, lv, w2, S2, ds, rfl, r2, rds, hmet2, q2⟩
  refine ⟨met_P I2 hmet2, ?_⟩
  dsimp only at q2
  split at q2
  case isFalse => exact q2.elim
  case isTrue hl =>
  obtain ⟨a2, hσ2, ho2, nF2, nm2, _⟩ := r2.ow 0 _ hsd
  rw [hσ] at hσ2
  cases hσ2
  have hlen : ds.length + 1 ≤ N2.length := by rw [en, hl]; exact hmn
  have start := R.enterO (N := N2) r2.ex r2.st rds hlen ho2 nF2 nm2 n0
  rw [en] at start
  rcases hms : ms2 (slots n2 (.own (.ins c' es') :: ds.map .val)) S2 with _ | ⟨sd' | _ | _ | _ | _, S3⟩
  · rw [hms] at q2; exact q2.elim
  · rw [hms] at q2
    simp only at q2
    rcases hsd' : sd'[0]? with _ | _ | _ | o'
    · rw [hsd'] at q2; exact q2.elim
    · rw [hsd'] at q2; exact q2.elim
    · rw [hsd'] at q2; exact q2.elim
    rw [hsd'] at q2
    simp only at q2
    have want : (V.ref a :: vs).length = ps2.length ∧ spT G N2 ms2 (V.ref a :: vs) w2.H (fun v H3 => v = .non ∧ ∃ w3, w3.H = H3 ∧ Stay w2 w3 ∧ RepS G w3 S3 ∧ Ext w0 w3 ∧ RepO G w3 a o' ∧ ¬ w3.F a ∧ a ∉ w3.m) (WE W σ) := by
      refine ⟨by rw [List.length_cons, ← rds.length, hl, e2], { w0 with x := some a }, w2, _, S2, rfl, start, ?_⟩
      rw [hms]
      intro w' σ' st3 r3
      obtain ⟨b, hb', ho3, nF3, nm3, _⟩ := r3.ow 0 _ hsd'
      have hb2' := r3.sf a _ rfl hsd'
      rw [hb'] at hb2'
      cases hb2'
      exact ⟨rfl, w', rfl, st3, r3.st, ⟨r3.ex.m, r3.ex.F, r3.ex.H, r3.ex.nm, r3.ex.nF, r3.ex.al⟩, ho3, nF3, nm3⟩
    have bd := B2 X.A X.stack s2 w2.H (.ref a :: us) (V.ref a :: vs) _ _ c.rm0 I2.env0 (.cons rfl rv) want
    refine wpAny_call (PySem.W.method_call (met_P I2 hmet2).1 (codeAny_mono bd ?_))
    rintro (er | fl) s' got
    · exact c.px σ pins _ _ er s' I2 got
    · cases fl with
      | ret u =>
        obtain ⟨v, H', I3, rv3, rfl, w3, rfl, st3, rs3, ex3, ho3, nF3, nm3⟩ := I2.after got
        refine ⟨σ, w3.H, I3, q2 w3 σ st3 ⟨ex3, rs3, by rw [List.length_set]; exact r2.ln, fun i d z => ?_, fun i o z => ?_, fun i j o o2 b z1 z2 _ _ => ?_, fun b o eb z => ?_⟩⟩
        · by_cases hi0 : i = 0
          · subst hi0
            rw [List.getElem?_set_self (List.getElem?_eq_some_iff.mp hsd).1] at z
            cases z
          · rw [List.getElem?_set_ne (fun z => hi0 z.symm)] at z
            obtain ⟨v, z1, z2⟩ := r2.vl i d z
            exact ⟨v, z1, RepV.stay st3 d v z2⟩
        · by_cases hi0 : i = 0
          · subst hi0
            rw [List.getElem?_set_self (List.getElem?_eq_some_iff.mp hsd).1] at z
            cases z
            exact ⟨a, hσ, ho3, nF3, nm3, n0⟩
          · rw [List.getElem?_set_ne (fun z => hi0 z.symm)] at z
            exact absurd z (no_own hno hi0)
        · have e1 : i = 0 := by
            by_cases hi0 : i = 0
            · exact hi0
            · rw [List.getElem?_set_ne (fun z => hi0 z.symm)] at z1
              exact absurd z1 (no_own hno hi0)
          have e2 : j = 0 := by
            by_cases hi0 : j = 0
            · exact hi0
            · rw [List.getElem?_set_ne (fun z => hi0 z.symm)] at z2
              exact absurd z2 (no_own hno hi0)
          rw [e1, e2]
        · exact r2.sf b _ eb hsd
      | next => exact got.elim
      | brk => exact got.elim
      | cont => exact got.elim
  · rw [hms] at q2; exact q2.elim
  · rw [hms] at q2; exact q2.elim
  · rw [hms] at q2; exact q2.elim
  · rw [hms] at q2; exact q2.elim
end
abbrev XS (P : Program) (w : World) (K : PySem.W.Frag) (mg : Str → Option Value) (base : Heap) (N : List Str) (name qual : Str) (st : Stmt) (cc cda f : Addr) (A : Around) (fr : List Env) (s : Shared) (H : Hp) (E : XK) : Cx :=
  ncx (L2N.CX P w) P w K mg base N (nfOf name qual st cc cda) f A fr s H E
def BodyS (P : Program) (w : World) (K : PySem.W.Frag) (mg : Str → Option Value) (base : Heap) (G : Sg) (k : Nat) (f cc cda : Addr) (N : List Str) (name qual : Str) (st : Stmt) (ms : Ev.MS) : Prop :=
  ∀ (A : Around) (fr : List Env) (s : Shared) (H : Hp) (E : XK), Ctx G (XS P w K mg base N name qual st cc cda f A fr s H E) (WF E) k →
    PSsAV G (XS P w K mg base N name qual st cc cda f A fr s H E) (WF E) (.func (defBody st) (XS P w K mg base N name qual st cc cda f A fr s H E).env) (defBody st) ms
section
variable {P : Program} {w : World} {K : PySem.W.Frag} {mg : Str → Option Value} {base : Heap} {G : Sg} {k : Nat} {f cc cda Dc C f2 : Addr} {name qual : Str} {st : Stmt} {N ps : List Str} {ms : Ev.MS}
theorem ctxS (cK : G.K = K) (SC : NScope N ps ["__class__"] (defScope st)) {A : Around} {fr : List Env} {s : Shared} {H : Hp} {E : XK} (hr : Rm G.gd (k + 1) (A.deeper (envF (nfOf name qual st cc cda) f s.heap.objs.size))) :
    Ctx G (XS P w K mg base N name qual st cc cda f A fr s H E) (WF E) k := ⟨cK, rfl, hr, SC.nd, fun σ => L2N.passAt (L2N.takes_of rfl rfl rfl rfl) σ, L2.passes_of rfl⟩
theorem startF_eq {vs : List V} (h : vs.length + 1 ≤ N.length) : startF N vs [none] = L2.start N vs := by
  unfold startF L2.start
  congr 1
  have e : N.length - vs.length = (N.length - vs.length - 1) + 1 := by omega
  rw [e, List.replicate_succ]
  rfl
theorem fns_super (U : Sup P K name qual st f cc cda Dc C f2) (SC : NScope N ps ["__class__"] (defScope st)) (cK : G.K = K) (B : BodyS P w K mg base G k f cc cda N name qual st ms)
    {A : Around} {fr : List Env} {s : Shared} {H : Hp} {args : Args} {us : List Value} {vs : List V} {Q : VK} {E : XK}
    (hb : ∀ (kV doc pm : Value) (an : Option Addr) (ct : Value), bindArgs (fnX name qual (defArgs st) (defBody st) (defScope st) [("__class__", cc)] .none kV doc pm an (.ref cda) ct) args = pure (ps.zip us))
    (hr : Rm G.gd (k + 2) A) (e0 : Env0 P w K mg base A fr s H) (r : Vals vs us) (h : vs.length = ps.length ∧ spT G N ms vs H Q E) : codeAny (model P w) A (.call (.ref f) args) (CR (L2N.CX P w) fr P w H s Q E) s := by
  obtain ⟨oc, od, kV, doc, pm, an, ct, osl, hf⟩ := U.fu
  obtain ⟨cl, cld, csl, hcell⟩ := U.cell
  obtain ⟨hl, hsp⟩ := h
  have inK : K.In s.heap := e0.mod.kin.keeps fun b o e => (e0.bs b o e).1
  have lim : s.heap.NoLimit := e0.mod.nolimit.keeps fun b o e => (e0.bs b o e).1
  have hnl : ps.length + 1 ≤ N.length := by
    have q := congrArg List.length SC.pre
    rw [List.length_take, List.length_append] at q
    have : (["__class__"] : List Str).length = 1 := rfl
    omega
  have Cc : CellsAt [(("__class__" : Str), cc)] ["__class__"] [none] s.heap H := by
    refine ⟨rfl, fun y c z => ?_, fun x y c z1 z2 => ?_, fun i y z => ?_⟩
    · have : c = cc := by
        simp only [List.lookup] at z
        split at z
        · cases z; rfl
        · cases z
      subst this
      exact ⟨(e0.bs _ _ (e0.mod.kin _ _ hcell)).2, _, _, inK _ _ hcell, rfl⟩
    · have one : ∀ {x : Str} {c : Addr}, ([(("__class__" : Str), cc)] : List (Str × Addr)).lookup x = some c → x = "__class__" := fun {x c} z => by
        simp only [List.lookup] at z
        split at z
        · next h => exact beq_iff_eq.mp h
        · cases z
      rw [one z1, one z2]
    · refine ⟨cc, ?_, fun v z2 => ?_⟩
      · cases i with
        | zero => simp at z; subst z; rfl
        | succ i => simp at z
      · cases i with
        | zero => simp at z2
        | succ i => simp at z2
  refine ks_codeAny_call_defAt (fd := fnX name qual (defArgs st) (defBody st) (defScope st) [("__class__", cc)] .none kV doc pm an (.ref cda) ct) (body := defBody st) (binds := ps.zip us) hr.room.depth (inK _ _ hf) rfl lim (codeRec_of inK U.cd) rfl (.of_eq (hb kV doc pm an ct)) SC.nocell
    (fun ⟨n, _⟩ hy => SC.par n (List.of_mem_zip hy).1) (fun h₁ hns kp => ?_) SC.co SC.gen SC.kind
  have I : Inv (XS P w K mg base N name qual st cc cda f A fr s H E) [] (startF N vs [none]) H { s with heap := h₁, toks := s.toks + (ps.zip us).length } := inv_startN SC hr.room.hd e0 hl r Cc hns kp
  rw [startF_eq (by omega)] at I
  have run := (B A fr s H E (ctxS cK SC (hr.deeper _))).run [] _ (L2.start N vs) H { nx := fun _ H' => Q .non H', rt := Q } I hsp
  refine ks_wpAt_mono run (fun fl s' hs => ?_) fun e s' hs => hs
  have fin : ∀ {σ' : L2.St} {H' : Hp} {v : V} {u : Value}, Inv (XS P w K mg base N name qual st cc cda f A fr s H E) [] σ' H' s' → L2.RelV v u → Q v H' → CE fr P w H s Q u s' :=
    fun {σ' H' v u} J rv q => ⟨v, H', J.os, J.bare, J.base, J.hok, rv, q⟩
  cases fl with
  | ret u =>
    obtain ⟨v, σ', H', J, rv, q⟩ := hs
    exact fin J rv q
  | next =>
    obtain ⟨σ', H', J, q⟩ := hs
    exact fin (v := V.non) (u := Value.none) J rfl q
  | brk =>
    obtain ⟨_, _, _, q⟩ := hs
    exact False.elim q
  | cont =>
    obtain ⟨_, _, _, q⟩ := hs
    exact False.elim q
theorem cla_super {c : Nat} (U : Sup P K name qual st f cc cda Dc (G.ca c) f2) (SC : NScope N ps ["__class__"] (defScope st)) (cK : G.K = K) (B : BodyS P w K mg base G k f cc cda N name qual st ms)
    (hb : ∀ (kV doc pm : Value) (an : Option Addr) (ct : Value) (us : List Value), us.length = ps.length → bindArgs (fnX name qual (defArgs st) (defBody st) (defScope st) [("__class__", cc)] .none kV doc pm an (.ref cda) ct) ⟨us, []⟩ = pure (ps.zip us))
    (M : Mk K (G.ca c) f) {m n : Nat} (em : ps.length = m) (en : N.length = n) (hmn : m ≤ n) : ClA P w K mg base G (k + 2) c (mkFn c m n ms) := by
  refine ⟨f, M, fun A fr s H us vs Q E hr e0 r h => ?_⟩
  obtain ⟨a, dx, vs, H, Q, rfl, rfl, ha, hdx, ne, rfl, wd, ds, S, eH, rs, rv, q⟩ := h
  subst em en eH
  obtain ⟨w1, e1, ex, s1, nF, nm⟩ := made (C := G.ca c) rs ha hdx ne
  unfold mkFn at q
  split at q
  · next e =>
    have hl : (V.ref a :: vs).length = ps.length := by rw [List.length_cons, ← rv.length]; exact e
    refine fns_super U SC cK B (us := us) (fun kV doc pm an ct => hb kV doc pm an ct us (r.length.symm.trans hl)) hr e0 r ⟨hl, ?_⟩
    rw [← e1]
    exact fin_mk ex s1 (RepVs.mono ex rs.dj _ _ rv) (by omega) (by rw [e1, upd_same]) nF nm ha q
  · exact q.elim
theorem clk_super {c m : Nat} {ks : List Str} {ix : List Nat} (U : Sup P K name qual st f cc cda Dc (G.ca c) f2) (SC : NScope N ps ["__class__"] (defScope st)) (cK : G.K = K) (B : BodyS P w K mg base G k f cc cda N name qual st ms)
    (hb : ∀ (kV doc pm : Value) (an : Option Addr) (ct : Value) (us ws : List Value), us.length = m + 1 → ws.length = ks.length → bindArgs (fnX name qual (defArgs st) (defBody st) (defScope st) [("__class__", cc)] .none kV doc pm an (.ref cda) ct) ⟨us, ks.zip ws⟩ = pure (ps.zip (perm (0 :: ix.map (· + 1)) (us ++ ws))))
    (M : Mk K (G.ca c) f) {a n : Nat} (em : ps.length = a) (en : N.length = n) (hmn : a ≤ n) : ClK P w K mg base G (k + 2) c m ks (fun ds => mkFn c a n ms (perm ix ds)) := by
  refine ⟨f, M, fun A fr s H us ws vs zs Q E hr e0 r r2 l1 l2 h => ?_⟩
  obtain ⟨b, dx, vs', H, Q, e, rfl, ha, hdx, ne, rfl, wd, ds, S, eH, rs, rv, q⟩ := h
  subst em en eH
  have key : perm (0 :: ix.map (· + 1)) (vs ++ zs) = V.ref b :: perm ix vs' := by rw [e, perm_self]
  obtain ⟨w1, e1, ex, s1, nF, nm⟩ := made (C := G.ca c) rs ha hdx ne
  have rp := reps_perm rv ix
  have q : FinG G (RepV G) E wd Q (mkFn c ps.length N.length ms (perm ix ds) S) := q
  unfold mkFn at q
  split at q
  · next el =>
    refine fns_super U SC cK B (us := perm (0 :: ix.map (· + 1)) (us ++ ws)) (fun kV doc pm an ct => hb kV doc pm an ct us ws (r.length.symm.trans l1) (r2.length.symm.trans l2)) hr e0 (vals_perm (r.append r2) _) ⟨?_, ?_⟩
    · rw [key, List.length_cons, ← rp.length]
      exact el
    · rw [key, ← e1]
      exact fin_mk ex s1 (RepVs.mono ex rs.dj _ _ rp) (by omega) (by rw [e1, upd_same]) nF nm ha q
  · exact q.elim
end
end Ev
set_option maxRecDepth 100000
set_option maxHeartbeats 2000000
namespace Ev
open PySem L2
@[irreducible] def Bd (k : Nat) (x : Int) : Prop := x.natAbs < 2 ^ k
theorem Bd.nat {k : Nat} {x : Int} (h : Bd k x) : x.natAbs < 2 ^ k := by
  unfold Bd at h
  exact h
theorem Bd.mk {k : Nat} {x : Int} (h : x.natAbs < 2 ^ k) : Bd k x := by
  unfold Bd
  exact h
theorem Bd.mono {j k : Nat} {x : Int} (h : Bd j x) (l : j ≤ k) : Bd k x := .mk (Nat.lt_of_lt_of_le h.nat (Nat.pow_le_pow_right (by decide) l))
theorem Bd.mul {j k : Nat} {x y : Int} (h : Bd j x) (l : Bd k y) : Bd (j + k) (x * y) := by
  unfold Bd at *
  rw [Int.natAbs_mul, Nat.pow_add]
  have p : 0 < 2 ^ k := Nat.pow_pos (by decide)
  calc x.natAbs * y.natAbs ≤ x.natAbs * 2 ^ k := Nat.mul_le_mul_left _ (Nat.le_of_lt l)
    _ < 2 ^ j * 2 ^ k := Nat.mul_lt_mul_of_pos_right h p
theorem Bd.add {j k : Nat} {x y : Int} (h : Bd j x) (l : Bd k y) : Bd (j + k + 1) (x + y) := by
  have a := Bd.mono h (show j ≤ j + k by omega)
  have b := Bd.mono l (show k ≤ j + k by omega)
  unfold Bd at *
  rw [Nat.pow_succ]
  omega
theorem Bd.sub {j k : Nat} {x y : Int} (h : Bd j x) (l : Bd k y) : Bd (j + k + 1) (x - y) := by
  have a := Bd.mono h (show j ≤ j + k by omega)
  have b := Bd.mono l (show k ≤ j + k by omega)
  unfold Bd at *
  rw [Nat.pow_succ]
  omega
theorem Bd.neg {j : Nat} {x : Int} (h : Bd j x) : Bd j (-x) := by
  unfold Bd at *
  omega
theorem Bd.of64 {x : Int} (h : -18446744073709551616 < x) (l : x < 18446744073709551616) : Bd 64 x := by
  unfold Bd
  omega
theorem Bd.of128 {x : Int} (h : -340282366920938463463374607431768211456 < x) (l : x < 340282366920938463463374607431768211456) : Bd 128 x := by
  unfold Bd
  omega
theorem Bd.ediv {j : Nat} {x y : Int} (h : Bd j x) : Bd j (x / y) := by
  unfold Bd at *
  have := Int.natAbs_ediv_le_natAbs x y
  omega
theorem Bd.emod {j : Nat} {x y : Int} (h : Bd j y) (p : 0 < y) : Bd j (x % y) := by
  unfold Bd at *
  have a := Int.emod_nonneg x (show y ≠ 0 by omega)
  have b := Int.emod_lt_of_pos x p
  omega
theorem Bd.abs {j : Nat} {x : Int} (h : Bd j x) : Bd j (x.natAbs : Int) := by
  unfold Bd at *
  omega
theorem bd_bits {k : Nat} {x : Int} (h : PySem.Builtin.Int.intBits x ≤ k) : Bd k x := by
  unfold Bd
  unfold PySem.Builtin.Int.intBits at h
  by_cases z : x = 0
  · subst z
    exact Nat.pow_pos (by decide)
  · have e : (x == 0) = false := by simpa using z
    rw [e] at h
    simp only [Bool.false_eq_true, if_false] at h
    exact (Nat.log2_lt (by omega)).mp (by omega)
theorem mulOk_bd {j k : Nat} {x y : Int} (h : Bd j x) (l : Bd k y) (c : j + k ≤ 134217728) : mulOk x y = true := mulOk_by h.nat l.nat c
theorem divOk_bd {j : Nat} {x : Int} (p : 0 < x) (h : Bd j x) (c : j ≤ 9000) : divOk x = true := by
  unfold divOk
  rw [Bool.and_eq_true]
  refine ⟨decide_eq_true p, decide_eq_true ?_⟩
  have := (Nat.log2_lt (by omega)).mpr h.nat
  omega
@[irreducible] def Wp {α : Type} (f : M α) (S : List Ob) (P : α → List Ob → Prop) : Prop := Run f S P
@[irreducible] def Ws (f : MS) (sd : List SV) (S : List Ob) (N : List SV → List Ob → Prop) (R : D → List Ob → Prop) (B C : List SV → List Ob → Prop) : Prop := RunS f sd S N R B C
theorem wp_run {α : Type} {f : M α} {S : List Ob} {P : α → List Ob → Prop} : Wp f S P ↔ Run f S P := by unfold Wp; exact Iff.rfl
theorem ws_run {f : MS} {sd : List SV} {S : List Ob} {N : List SV → List Ob → Prop} {R : D → List Ob → Prop} {B C : List SV → List Ob → Prop} : Ws f sd S N R B C ↔ RunS f sd S N R B C := by unfold Ws; exact Iff.rfl
theorem Wp.run {α : Type} {f : M α} {S : List Ob} {P : α → List Ob → Prop} (h : Wp f S P) : Run f S P := wp_run.mp h
theorem Run.wp {α : Type} {f : M α} {S : List Ob} {P : α → List Ob → Prop} (h : Run f S P) : Wp f S P := wp_run.mpr h
theorem Ws.run {f : MS} {sd : List SV} {S : List Ob} {N : List SV → List Ob → Prop} {R : D → List Ob → Prop} {B C : List SV → List Ob → Prop} (h : Ws f sd S N R B C) : RunS f sd S N R B C := ws_run.mp h
theorem RunS.ws {f : MS} {sd : List SV} {S : List Ob} {N : List SV → List Ob → Prop} {R : D → List Ob → Prop} {B C : List SV → List Ob → Prop} (h : RunS f sd S N R B C) : Ws f sd S N R B C := ws_run.mpr h
theorem Wp.mono {α : Type} {f : M α} {S : List Ob} {P P' : α → List Ob → Prop} (h : Wp f S P) (i : ∀ a S', P a S' → P' a S') : Wp f S P' := (h.run.mono i).wp
theorem Ws.mono {m : MS} {sd : List SV} {S : List Ob} {N N' : List SV → List Ob → Prop} {R R' : D → List Ob → Prop} {B B' C C' : List SV → List Ob → Prop} (h : Ws m sd S N R B C) (hN : ∀ sd S, N sd S → N' sd S) (hR : ∀ d S, R d S → R' d S) (hB : ∀ sd S, B sd S → B' sd S) (hC : ∀ sd S, C sd S → C' sd S) : Ws m sd S N' R' B' C' := (h.run.mono hN hR hB hC).ws
theorem Wp.ex {α : Type} {f : M α} {S : List Ob} {P : α → List Ob → Prop} (h : Wp f S P) : ∃ a S', f S = some (.ok a, S') ∧ P a S' := h.run.ex
theorem pure_wp {α : Type} {f : M α} {r : α} (h : ∀ S, Wp f S fun d S' => d = r ∧ S' = S) : f = M.pure r := pure_of fun S => (h S).run
section
variable {α β : Type} {f : M α} {S : List Ob} {P : α → List Ob → Prop} {PD : D → List Ob → Prop} {sd : List SV} {N : List SV → List Ob → Prop} {R : D → List Ob → Prop} {B C : List SV → List Ob → Prop} {m1 m2 : MS}
theorem go_bind {k : α → M β} {Q : β → List Ob → Prop} (h : Wp f S fun a S' => Wp (k a) S' Q) : Wp (M.bind f k) S Q := wp_run.mpr (run_bind.mpr (h.run.mono fun _ _ h => h.run))
theorem go_pure {a : α} (h : P a S) : Wp (M.pure a) S P := wp_run.mpr h
theorem go_get {i : Nat} {d : D} (e : sd[i]? = some (.val d)) (h : PD d S) : Wp (getv i sd) S PD := by rw [getv_val e]; exact wp_run.mpr h
theorem go_ite {c : Prop} [Decidable c] {g : M α} (h : if c then Wp f S P else Wp g S P) : Wp (if c then f else g) S P := by split <;> rename_i c' <;> simpa only [c', if_true, if_false] using h
theorem go_noErr (h : Wp f S P) : Wp (noErr f) S P := wp_run.mpr (run_noErr.mpr h.run)
theorem go_val {r : α} (e : f = M.pure r) (h : P r S) : Wp f S P := by subst e; exact wp_run.mpr h
theorem go_use {P' : α → List Ob → Prop} (h : Wp f S P') (i : ∀ a S', P' a S' → P a S') : Wp f S P := h.mono i
theorem gs_next (h : N sd S) : Ws nextS sd S N R B C := ws_run.mpr h
theorem gs_seq (h : Ws m1 sd S (fun sd' S' => Ws m2 sd' S' N R B C) R B C) : Ws (seqS m1 m2) sd S N R B C := ws_run.mpr (runS_seq.mpr (h.run.mono (fun _ _ h => h.run) (fun _ _ h => h) (fun _ _ h => h) (fun _ _ h => h)))
theorem gs_ret {g : List SV → M D} (h : Wp (g sd) S R) : Ws (retS g) sd S N R B C := ws_run.mpr (runS_ret.mpr h.run)
theorem gs_retN (h : R .non S) : Ws (fun _ S => some (.ret .non, S)) sd S N R B C := ws_run.mpr h
theorem gs_brk (h : B sd S) : Ws (fun sd S => some (.brk sd, S)) sd S N R B C := ws_run.mpr h
theorem gs_cont (h : C sd S) : Ws (fun sd S => some (.cont sd, S)) sd S N R B C := ws_run.mpr h
theorem gs_asg {g : List SV → M D} {i : Nat} (h : Wp (g sd) S fun d S' => N (sd.set i (.val d)) S') : Ws (asgS g (setT i)) sd S N R B C := ws_run.mpr (runS_asg.mpr h.run)
theorem gs_tgt {g : List SV → M D} {t : Tgt} (h : Wp (g sd) S fun d S' => match t d sd S' with | some (sd2, S2) => N sd2 S2 | none => False) : Ws (asgS g t) sd S N R B C := ws_run.mpr (runS_tgt.mpr h.run)
theorem gs_par {g : List SV → M (List D)} {i j : Nat} (h : Wp (g sd) S fun ds S' => match ds with | [a, b] => N ((sd.set i (.val a)).set j (.val b)) S' | _ => False) : Ws (parS i j g) sd S N R B C := ws_run.mpr (runS_par.mpr h.run)
theorem gs_if {g : List SV → M Bool} (h : Wp (g sd) S fun k S' => if k = true then Ws m1 sd S' N R B C else Ws m2 sd S' N R B C) : Ws (exS g fun k => if k = true then m1 else m2) sd S N R B C := ws_run.mpr (runS_if.mpr (h.run.mono fun k _ h => by cases k <;> exact Ws.run h))
theorem gs_own {g : List SV → M (List D)} {i : Nat} (h : Wp (g sd) S fun ds S' => N (sd.set i (.own (.lst ds))) S') : Ws (ownS i g) sd S N R B C := ws_run.mpr (runS_own.mpr h.run)
theorem gs_for {g : List SV → M (List D)} {t : Tgt} {body : MS} (h : Wp (g sd) S fun ds S' => Ws (loopS t body ds) sd S' N R B C) : Ws (forS g t body) sd S N R B C := ws_run.mpr (runS_for.mpr (h.run.mono fun _ _ h => h.run))
theorem gs_expr {g : List SV → M α} (h : Wp (g sd) S fun _ S' => N sd S') : Ws (exS g fun _ => nextS) sd S N R B C := by
  refine ws_run.mpr ?_
  rw [runS_ex]
  exact h.run
theorem gs_app {g : List SV → M D} {i : Nat} {ds : List D} (e : sd[i]? = some (.own (.lst ds))) (l : ds.length < lim) (h : Wp (g sd) S fun d S' => N (sd.set i (.own (.lst (ds ++ [d])))) S') : Ws (appS i g) sd S N R B C := by
  have z : appS i g sd S = exS g (fun d sd S => some (.next (sd.set i (.own (.lst (ds ++ [d])))), S)) sd S := by
    unfold appS
    rw [e]
    simp only [l, if_true]
  refine ws_run.mpr ?_
  unfold RunS
  rw [z]
  exact (runS_ex (k := fun d sd S => some (.next (sd.set i (.own (.lst (ds ++ [d])))), S))).mpr h.run
theorem gs_frz {i : Nat} {o : Ob} (e : sd[i]? = some (.own o)) (h : N (sd.set i (.val (frzO o))) S) : Ws (frzS i) sd S N R B C := by
  refine ws_run.mpr ?_
  unfold RunS frzS
  rw [e]
  exact h
theorem go_fn {m n : Nat} {ms : MS} {ds : List D} (l : ds.length = m) (h : Ws ms (slots n (ds.map .val)) S (fun _ S' => PD .non S') PD (fun _ _ => False) (fun _ _ => False)) : Wp (runFn m n ms ds) S PD := wp_run.mpr (run_fn.mpr ⟨l, h.run⟩)
theorem gs_loop {t : Tgt} {body : MS} (J : List D → List SV → List Ob → Prop) (step : ∀ d ds sd S, J (d :: ds) sd S → ∃ sd1 S1, t d sd S = some (sd1, S1) ∧ Ws body sd1 S1 (fun sd2 S2 => J ds sd2 S2) R (fun sd2 S2 => N sd2 S2) (fun sd2 S2 => J ds sd2 S2))
    (fin : ∀ sd S, J [] sd S → N sd S) (ds : List D) (sd : List SV) (S : List Ob) (h : J ds sd S) : Ws (loopS t body ds) sd S N R B C :=
  ws_run.mpr (loop_rule J (fun d ds sd S h => let ⟨a, b, c, e⟩ := step d ds sd S h; ⟨a, b, c, e.run⟩) fin ds sd S h)
theorem gs_iter {c : List SV → M Bool} {body : MS} (J : Nat → List SV → List Ob → Prop) (step : ∀ n sd S, J n sd S → Wp (c sd) S fun b S1 => if b = true then Ws body sd S1 (fun sd2 S2 => ∃ n', n' < n ∧ J n' sd2 S2) R N (fun sd2 S2 => ∃ n', n' < n ∧ J n' sd2 S2) else N sd S1)
    (n : Nat) (sd : List SV) (S : List Ob) (l : n < bigW) (h : J n sd S) : Ws (whileS c body) sd S N R B C :=
  ws_run.mpr (iter_rule J (fun n sd S h => (step n sd S h).run.mono fun b _ h => by cases b <;> first | exact h | exact Ws.run h) bigW n sd S l h)
theorem ite_d {p : Prop} [Decidable p] {X Y : Prop} (h : p → X) (l : ¬p → Y) : if decide p = true then X else Y := by
  by_cases c : p
  · rw [if_pos (decide_eq_true c)]; exact h c
  · rw [if_neg (by simpa using c)]; exact l c
theorem ite_dt {p : Prop} [Decidable p] {X Y : Prop} (c : p) (h : X) : if decide p = true then X else Y := by
  rw [if_pos (decide_eq_true c)]; exact h
theorem ite_df {p : Prop} [Decidable p] {X Y : Prop} (c : ¬p) (h : Y) : if decide p = true then X else Y := by
  rw [if_neg (by simpa using c)]; exact h
theorem ite_t {X Y : Prop} (h : X) : if true = true then X else Y := h
theorem ite_f {X Y : Prop} (h : Y) : if false = true then X else Y := h
theorem ite_n {b : Bool} {X Y : Prop} (h : if b = true then Y else X) : if (!b) = true then X else Y := by
  cases b <;> exact h
theorem p_toB {b : Bool} {P : Bool → List Ob → Prop} (h : P b S) : Wp (toB (.bl b)) S P := wp_run.mpr h
theorem p_toI {i : Int} {P : Option Int → List Ob → Prop} (h : P (some i) S) : Wp (toI (.int i)) S P := wp_run.mpr h
theorem p_on1 {g : D → M D} {d : D} (h : Wp (g d) S PD) : Wp (on1 g [d]) S PD := h
theorem p_on2 {g : D → D → M D} {d e : D} (h : Wp (g d e) S PD) : Wp (on2 g [d, e]) S PD := h
theorem p_add {i j : Int} (h : PD (.int (i + j)) S) : Wp (dAdd (.int i) (.int j)) S PD := wp_run.mpr h
theorem p_sub {i j : Int} (h : PD (.int (i - j)) S) : Wp (dSub (.int i) (.int j)) S PD := wp_run.mpr h
theorem p_neg {i : Int} (h : PD (.int (-i)) S) : Wp (dNeg (.int i)) S PD := wp_run.mpr h
theorem p_abs {i : Int} (h : PD (.int (i.natAbs : Int)) S) : Wp (dAbs (.int i)) S PD := by
  have e : (if i < 0 then -i else i) = (i.natAbs : Int) := by split <;> omega
  refine wp_run.mpr ?_
  show PD (.int (if i < 0 then -i else i)) S
  rw [e]
  exact h
theorem p_mul {j k : Nat} {x y : Int} (hx : Bd j x) (hy : Bd k y) (c : j + k ≤ 134217728) (h : PD (.int (x * y)) S) : Wp (dMul (.int x) (.int y)) S PD := by
  rw [mul_int (mulOk_bd hx hy c)]
  exact wp_run.mpr h
theorem p_div {k : Nat} {x y : Int} (p : 0 < y) (hy : Bd k y) (c : k ≤ 9000) (h : PD (.int (x / y)) S) : Wp (dFdiv (.int x) (.int y)) S PD := by
  rw [fdiv_int (divOk_bd p hy c)]
  exact wp_run.mpr h
theorem p_mod {x y : Int} (p : 0 < y) (h : PD (.int (x % y)) S) : Wp (dMod (.int x) (.int y)) S PD := by
  rw [mod_int p]
  exact wp_run.mpr h
theorem p_cmp {p : Int → Int → Bool} {i j : Int} (h : PD (.bl (p i j)) S) : Wp (dCmpI p (.int i) (.int j)) S PD := wp_run.mpr h
theorem p_int {i : Int} (h : PD (.int i) S) : Wp (dInt (.int i)) S PD := wp_run.mpr h
theorem p_ixT {ds : List D} {i : Int} {d : D} (e : L2.atI ds i = some d) (h : PD d S) : Wp (dIx (.tup ds) (.int i)) S PD := by
  rw [ix_tup e]
  exact wp_run.mpr h
theorem p_ixL {ds : List D} {i : Int} {d : D} (e : L2.atI ds i = some d) (h : PD d S) : Wp (dIx (.lst ds) (.int i)) S PD := by
  rw [ix_lst e]
  exact wp_run.mpr h
theorem p_lenT {ds : List D} (h : PD (.int ds.length) S) : Wp (dLen (.tup ds)) S PD := wp_run.mpr h
theorem p_lenL {ds : List D} (h : PD (.int ds.length) S) : Wp (dLen (.lst ds)) S PD := wp_run.mpr h
theorem p_lenS {ds : List D} (h : PD (.int ds.length) S) : Wp (dLen (.scr ds)) S PD := wp_run.mpr h
theorem p_isN (h : PD (.bl true) S) : Wp (dIs false .non .non) S PD := wp_run.mpr h
theorem p_isntN (h : PD (.bl false) S) : Wp (dIs true .non .non) S PD := wp_run.mpr h
theorem p_eqI {i j : Int} (h : PD (.bl (decide (i = j))) S) : Wp (dEq false (.int i) (.int j)) S PD := wp_run.mpr h
theorem p_neI {i j : Int} (h : PD (.bl (!decide (i = j))) S) : Wp (dEq true (.int i) (.int j)) S PD := wp_run.mpr h
theorem p_eqS {x y : Str} (h : PD (.bl (decide (x = y))) S) : Wp (dEq false (.str x) (.str y)) S PD := wp_run.mpr h
theorem p_neS {x y : Str} (h : PD (.bl (!decide (x = y))) S) : Wp (dEq true (.str x) (.str y)) S PD := wp_run.mpr h
theorem p_seqT {ds : List D} {P : List D → List Ob → Prop} (h : P ds S) : Wp (seqOf (.tup ds)) S P := wp_run.mpr h
theorem p_seqL {ds : List D} {P : List D → List Ob → Prop} (h : P ds S) : Wp (seqOf (.lst ds)) S P := wp_run.mpr h
theorem p_ref {o : Ob} (h : PD (.ref S.length) (S ++ [o])) : Wp (newRef o) S PD := wp_run.mpr h
end
section
variable {S : List Ob} {PD : D → List Ob → Prop} {PL : List D → List Ob → Prop}
theorem p_min {i j : Int} (h : PD (.int (if j < i then j else i)) S) : Wp (dMin (.int i) (.int j)) S PD := wp_run.mpr h
theorem p_max {i j : Int} (h : PD (.int (if j > i then j else i)) S) : Wp (dMax (.int i) (.int j)) S PD := wp_run.mpr h
theorem p_rng1 {i : Int} (l : -4611686018427387904 ≤ i) (u : i < 4611686018427387904) (h : PL (rngD 0 i.toNat) S) : Wp (rng1 [.int i]) S PL := by
  refine wp_run.mpr ?_
  show Run (if -(2 ^ 62) ≤ i ∧ i < 2 ^ 62 then M.pure (rngD 0 i.toNat) else M.stuck) S PL
  rw [if_pos ⟨by omega, by omega⟩]
  exact h
theorem p_rng2 {i j : Int} (l : -4611686018427387904 ≤ i) (u : i < 4611686018427387904) (l2 : -4611686018427387904 ≤ j) (u2 : j < 4611686018427387904) (h : PL (rngD i (j - i).toNat) S) : Wp (rng2 [.int i, .int j]) S PL := by
  refine wp_run.mpr ?_
  show Run (if (-(2 ^ 62) ≤ i ∧ i < 2 ^ 62) ∧ -(2 ^ 62) ≤ j ∧ j < 2 ^ 62 then M.pure (rngD i (j - i).toNat) else M.stuck) S PL
  rw [if_pos ⟨⟨by omega, by omega⟩, by omega, by omega⟩]
  exact h
theorem rng_mem {lo : Int} {n : Nat} {d : D} (h : d ∈ rngD lo n) : ∃ i : Int, d = .int i ∧ lo ≤ i ∧ i < lo + n := by
  obtain ⟨m, hm, rfl⟩ := List.mem_map.mp h
  have := List.mem_range.mp hm
  exact ⟨_, rfl, by omega, by omega⟩
theorem rng_len {lo : Int} {n : Nat} : (rngD lo n).length = n := by
  unfold rngD
  rw [List.length_map, List.length_range]
end
theorem go_lc {fi : List SV → M (List D)} {vs : List Nat} {t : TgP} {tt : List SV → M Bool} {fe : List SV → M D} {sd : List SV} {S : List Ob} {P : D → List Ob → Prop}
    (h : Wp (fi sd) S fun ds S' => Wp (compS t tt fe (wipeD sd vs) ds []) S' fun acc S2 => P (.lst acc) S2) : Wp (lcS fi vs t tt fe sd) S P :=
  go_bind (h.mono fun _ _ h => go_bind (h.mono fun _ _ h => go_pure h))
theorem go_comp {t : TgP} {tt : List SV → M Bool} {fe : List SV → M D} {sdw : List SV} {P : List D → List Ob → Prop} (J : List D → List D → List Ob → Prop)
    (step : ∀ d ds acc S, J (d :: ds) acc S → ∃ sd1, t d sdw = some sd1 ∧ acc.length < lim ∧ Wp (tt sd1) S fun b S1 => if b = true then Wp (fe sd1) S1 fun y S2 => J ds (acc ++ [y]) S2 else J ds acc S1)
    (fin : ∀ acc S, J [] acc S → P acc S) : ∀ ds acc S, J ds acc S → Wp (compS t tt fe sdw ds acc) S P
  | [], acc, S, h => go_pure (fin acc S h)
  | d :: ds, acc, S, h => by
    obtain ⟨sd1, e, l, hb⟩ := step d ds acc S h
    unfold compS
    rw [e]
    refine go_bind (go_noErr (hb.mono fun b S1 hc => ?_))
    cases b with
    | false => exact go_comp J step fin ds acc S1 hc
    | true =>
      refine go_bind (go_noErr (Wp.mono hc fun y S2 hy => ?_))
      rw [if_pos l]
      exact go_comp J step fin ds _ S2 hy
theorem all_true {acc : List D} (h : ∀ a ∈ acc, a = .bl true) : dAll (.lst acc) = M.pure (.bl true) := by
  have : ∀ acc : List D, (∀ a ∈ acc, a = .bl true) → ∃ bs, bls acc = some bs ∧ bs.all id = true := by
    intro acc
    induction acc with
    | nil => exact fun _ => ⟨[], rfl, rfl⟩
    | cons a acc ih =>
      intro h
      obtain ⟨bs, e1, e2⟩ := ih fun x hx => h x (List.mem_cons_of_mem _ hx)
      have ea := h a List.mem_cons_self
      subst ea
      refine ⟨true :: bs, ?_, ?_⟩
      · unfold bls
        rw [e1]
        rfl
      · rw [List.all_cons, e2]
        rfl
  obtain ⟨bs, e1, e2⟩ := this acc h
  unfold dAll
  simp only [e1, e2]
end Ev
local macro_rules | `(tactic| regstrif_fact) => `(tactic| first
  | assumption
  | ((with_reducible show Ev.Bd _ (_ * _)); refine Ev.Bd.mul (by regstrif_fact) (by regstrif_fact))
  | ((with_reducible show Ev.Bd _ (_ + _)); refine Ev.Bd.add (by regstrif_fact) (by regstrif_fact))
  | ((with_reducible show Ev.Bd _ (_ - _)); refine Ev.Bd.sub (by regstrif_fact) (by regstrif_fact))
  | ((with_reducible show Ev.Bd _ (-_)); refine Ev.Bd.neg (by regstrif_fact))
  | ((with_reducible show Ev.Bd _ (Int.natAbs _ : Int)); refine Ev.Bd.abs (by regstrif_fact))
  | ((with_reducible show Ev.Bd _ (_ % _)); refine Ev.Bd.emod (by regstrif_fact) (by first | assumption | omega))
  | ((with_reducible show Ev.Bd _ (_ / _)); refine Ev.Bd.ediv (by regstrif_fact))
  | exact Ev.Bd.of64 (by omega) (by omega)
  | exact Ev.Bd.of128 (by omega) (by omega))
local macro_rules | `(tactic| regstrif_gather) => `(tactic| first
  | with_reducible refine Ev.go_bind ?_
  | with_reducible refine Ev.go_pure ?_
  | ((with_reducible show Ev.Wp (Ev.getv _ _) _ _); refine Ev.go_get (by exact rfl) ?_)
  | with_reducible (first
    | refine Ev.gs_seq ?_ | refine Ev.gs_next ?_ | refine Ev.gs_asg ?_ | refine Ev.gs_if ?_ | refine Ev.gs_ret ?_ | refine Ev.gs_for ?_ | refine Ev.gs_par ?_ | refine Ev.gs_own ?_ | refine Ev.gs_expr ?_
    | refine Ev.p_toB ?_ | refine Ev.p_on1 ?_ | refine Ev.p_on2 ?_ | refine Ev.p_cmp ?_ | refine Ev.p_add ?_ | refine Ev.p_sub ?_
    | refine Ev.go_lc ?_ | refine Ev.go_ite ?_ | refine Ev.go_noErr ?_ | refine Ev.ite_t ?_ | refine Ev.ite_f ?_ | refine Ev.ite_n ?_
    | refine Ev.p_eqI ?_ | refine Ev.p_neI ?_ | refine Ev.p_eqS ?_ | refine Ev.p_neS ?_
    | refine Ev.p_neg ?_ | refine Ev.p_abs ?_ | refine Ev.p_int ?_ | refine Ev.p_toI ?_
    | refine Ev.p_lenT ?_ | refine Ev.p_lenL ?_ | refine Ev.p_lenS ?_ | refine Ev.p_isN ?_ | refine Ev.p_isntN ?_ | refine Ev.p_seqT ?_ | refine Ev.p_seqL ?_
    | refine Ev.p_min ?_ | refine Ev.p_max ?_ | refine Ev.p_ref ?_ | refine Ev.gs_retN ?_ | refine Ev.gs_brk ?_ | refine Ev.gs_cont ?_)
  | ((with_reducible refine Ev.p_mod ?_ ?_); (· first | assumption | omega))
  | ((with_reducible show Ev.Wp (Ev.dMul (.int _) (.int _)) _ _); refine Ev.p_mul (by regstrif_fact) (by regstrif_fact) (by first | decide | omega) ?_)
  | ((with_reducible show Ev.Wp (Ev.dFdiv (.int _) (.int _)) _ _); refine Ev.p_div (by first | assumption | omega) (by regstrif_fact) (by first | decide | omega) ?_)
  | ((with_reducible show Ev.Wp (Ev.dIx (.tup _) (.int _)) _ _); refine Ev.p_ixT (by exact rfl) ?_)
  | ((with_reducible show Ev.Wp (Ev.dIx (.lst _) (.int _)) _ _); refine Ev.p_ixL (by exact rfl) ?_)
  | ((with_reducible show Ev.Ws (Ev.appS _ _) _ _ _ _ _ _); refine Ev.gs_app (by exact rfl) (by first | decide | omega) ?_)
  | ((with_reducible show Ev.Ws (Ev.frzS _) _ _ _ _ _ _); refine Ev.gs_frz (by exact rfl) ?_)
  | ((with_reducible refine Ev.p_rng1 ?_ ?_ ?_); (· omega); (· omega))
  | ((with_reducible refine Ev.p_rng2 ?_ ?_ ?_ ?_ ?_); (· omega); (· omega); (· omega); (· omega))
  | ((with_reducible refine Ev.ite_dt ?_ ?_); (· first | assumption | omega))
  | ((with_reducible refine Ev.ite_df ?_ ?_); (· first | assumption | omega))
  | regstrif_slice
  | with_reducible refine Ev.gs_tgt ?_)
local macro_rules | `(tactic| regstrif_slice) => `(tactic| fail "no step is ev_known")
set_option maxRecDepth 100000
set_option maxHeartbeats 2000000
namespace Ev
open PySem L2
@[irreducible] def Shw (k n : Nat) (d : D) : Prop := ∃ p, toP d = some p ∧ p.showable = true ∧ p.canLay0 = true ∧ p.depth ≤ k ∧ p.shown.length ≤ n
@[irreducible] def ShwL (k n : Nat) (ds : List D) : Prop := ∃ ps, toPs ds = some ps ∧ PyData.showableAll ps = true ∧ PyData.canLayAll0 ps = true ∧ PyData.depthAll ps ≤ k ∧ ((PyData.shownAll ps).map (·.length)).sum + 2 * ps.length ≤ n
theorem Shw.mono {k n k' n' : Nat} {d : D} (h : Shw k n d) (hk : k ≤ k') (hn : n ≤ n') : Shw k' n' d := by
  unfold Shw at *
  obtain ⟨p, a, b, c, e, f⟩ := h
  exact ⟨p, a, b, c, by omega, by omega⟩
theorem shw_non : Shw 0 5 .non := by
  unfold Shw
  exact ⟨_, rfl, rfl, rfl, Nat.le_refl _, by decide⟩
theorem shw_bl (b : Bool) : Shw 0 5 (.bl b) := by
  unfold Shw
  exact ⟨_, rfl, rfl, rfl, Nat.le_refl _, by cases b <;> decide⟩
theorem shw_int {j : Nat} {i : Int} (h : Bd j i) (l : j ≤ 1920) : Shw 0 1921 (.int i) := by
  have a := (h.mono l).nat
  have b : i.natAbs.log2 < 1920 := by
    by_cases z : i.natAbs = 0
    · rw [z]
      decide +kernel
    · exact (Nat.log2_lt z).mpr a
  have c := PyProof.Rows.int_text_len_1921 b
  unfold Shw
  refine ⟨_, rfl, decide_eq_true b, rfl, Nat.le_refl _, ?_⟩
  show (Str.ofString (toString i)).length ≤ 1921
  omega
theorem shl_nil : ShwL 0 0 [] := by
  unfold ShwL
  exact ⟨[], rfl, rfl, rfl, Nat.le_refl _, Nat.le_refl _⟩
theorem shl_cons {k n k' n' : Nat} {d : D} {ds : List D} (h : Shw k n d) (l : ShwL k' n' ds) : ShwL (k + k') (n + 2 + n') (d :: ds) := by
  unfold Shw at h
  unfold ShwL at *
  obtain ⟨p, a, b, c, e, f⟩ := h
  obtain ⟨ps, a', b', c', e', f'⟩ := l
  refine ⟨p :: ps, ?_, ?_, ?_, ?_, ?_⟩
  · unfold toPs
    rw [a, a']
  · unfold PyData.showableAll
    rw [b, b']
    rfl
  · unfold PyData.canLayAll0
    rw [c, c']
    rfl
  · unfold PyData.depthAll
    omega
  · unfold PyData.shownAll
    simp only [List.map_cons, List.sum_cons, List.length_cons]
    omega
theorem shl_all {k n : Nat} : ∀ {ds : List D}, (∀ d ∈ ds, Shw k n d) → ShwL k (ds.length * (n + 2)) ds
  | [], _ => by
    have h := shl_nil
    unfold ShwL at *
    obtain ⟨ps, a', b', c', e', f'⟩ := h
    exact ⟨ps, a', b', c', by omega, by omega⟩
  | d :: ds, h => by
    have h1 := h d List.mem_cons_self
    have h2 := shl_all fun x hx => h x (List.mem_cons_of_mem _ hx)
    unfold Shw at h1
    unfold ShwL at *
    obtain ⟨p, a, b, c, e, f⟩ := h1
    obtain ⟨ps, a', b', c', e', f'⟩ := h2
    refine ⟨p :: ps, ?_, ?_, ?_, ?_, ?_⟩
    · unfold toPs
      rw [a, a']
    · unfold PyData.showableAll
      rw [b, b']
      rfl
    · unfold PyData.canLayAll0
      rw [c, c']
      rfl
    · unfold PyData.depthAll
      omega
    · unfold PyData.shownAll
      simp only [List.map_cons, List.sum_cons, List.length_cons, Nat.succ_mul]
      omega
theorem len_shownAll : ∀ ps : List PyData, (PyData.shownAll ps).length = ps.length
  | [] => rfl
  | p :: ps => by
    unfold PyData.shownAll
    rw [List.length_cons, List.length_cons, len_shownAll ps]
theorem shw_tup {k n : Nat} {ds : List D} (h : ShwL k n ds) : Shw (k + 1) (n + 3) (.tup ds) := by
  unfold ShwL at h
  unfold Shw
  obtain ⟨ps, a, b, c, e, f⟩ := h
  refine ⟨.tuple ps, by unfold toP; rw [a]; rfl, by unfold PyData.showable; exact b, by unfold PyData.canLay0; exact c, by unfold PyData.depth; omega, ?_⟩
  have := tupleText_len_le (PyData.shownAll ps)
  rw [len_shownAll] at this
  show (tupleText (PyData.shownAll ps)).length ≤ _
  omega
theorem shw_lst {k n : Nat} {ds : List D} (h : ShwL k n ds) : Shw (k + 1) (n + 3) (.lst ds) := by
  unfold ShwL at h
  unfold Shw
  obtain ⟨ps, a, b, c, e, f⟩ := h
  refine ⟨.list ps, by unfold toP; rw [a]; rfl, by unfold PyData.showable; exact b, by unfold PyData.canLay0; exact c, by unfold PyData.depth; omega, ?_⟩
  have := listText_len_le (PyData.shownAll ps)
  rw [len_shownAll] at this
  show (listText (PyData.shownAll ps)).length ≤ _
  omega
@[irreducible] def txtD (d : D) : Str := match toP d with
  | some p => p.shown
  | none => ""
theorem repr_get {k n : Nat} {d : D} (h : Shw k n d) (hk : k ≤ 60) (hn : n ≤ lim) : dRepr d = M.pure (.str (txtD d)) := by
  unfold Shw at h
  obtain ⟨p, a, b, c, e, f⟩ := h
  rw [dRepr_P (by rw [a]; exact fun z => nomatch z)]
  unfold dReprP txtD
  rw [a]
  have g : reprOk p = true := by
    unfold reprOk
    rw [b, PyData.hasDict_of_canLay p c]
    simp only [Bool.not_false, Bool.and_true, Bool.true_and, Bool.and_eq_true, decide_eq_true_eq]
    omega
  simp only [g, if_true]
section
variable {S : List Ob} {PD : D → List Ob → Prop}
theorem p_repr {k n : Nat} {d : D} (h : Shw k n d) (hk : k ≤ 60) (hn : n ≤ lim) (q : PD (.str (txtD d)) S) : Wp (dRepr d) S PD := by
  rw [repr_get h hk hn]
  exact go_pure q
theorem p_eqSS {x : Str} (h : PD (.bl true) S) : Wp (dEq false (.str x) (.str x)) S PD := by
  refine p_eqS ?_
  rw [decide_eq_true rfl]
  exact h
theorem p_neSS {x : Str} (h : PD (.bl false) S) : Wp (dEq true (.str x) (.str x)) S PD := by
  refine p_neS ?_
  rw [decide_eq_true rfl]
  exact h
theorem p_eqB {x y : Bool} (h : PD (.bl (decide (x = y))) S) : Wp (dEq false (.bl x) (.bl y)) S PD := wp_run.mpr h
theorem p_neB {x y : Bool} (h : PD (.bl (!decide (x = y))) S) : Wp (dEq true (.bl x) (.bl y)) S PD := wp_run.mpr h
end
mutual
def noB : PyData → Bool
  | .none | .int _ | .str _ => true
  | .bool _ | .dict _ => false
  | .list xs | .tuple xs => noBs xs
def noBs : List PyData → Bool
  | [] => true
  | x :: xs => noB x && noBs xs
end
mutual
theorem eqv_iff : ∀ p q : PyData, noB p = true → noB q = true → PyData.eqv p q = true → p = q
  | .none, q, _, h, e => by cases q <;> first | rfl | simp [PyData.eqv] at e
  | .int i, q, _, h, e => by cases q <;> simp [PyData.eqv, noB] at e h; rw [e]
  | .str x, q, _, h, e => by cases q <;> simp [PyData.eqv, noB] at e h; rw [e]
  | .list xs, .list ys, g, h, e => by
    unfold noB at g h
    unfold PyData.eqv at e
    rw [eqvAll_iff xs ys g h e]
  | .tuple xs, .tuple ys, g, h, e => by
    unfold noB at g h
    unfold PyData.eqv at e
    rw [eqvAll_iff xs ys g h e]
  | .list xs, .none, _, _, e | .list xs, .int _, _, _, e | .list xs, .str _, _, _, e | .list xs, .tuple _, _, _, e | .list xs, .bool _, _, _, e | .list xs, .dict _, _, _, e => by simp [PyData.eqv] at e
  | .tuple xs, .none, _, _, e | .tuple xs, .int _, _, _, e | .tuple xs, .str _, _, _, e | .tuple xs, .list _, _, _, e | .tuple xs, .bool _, _, _, e | .tuple xs, .dict _, _, _, e => by simp [PyData.eqv] at e
  | .bool _, _, g, _, _ => by simp [noB] at g
  | .dict _, _, g, _, _ => by simp [noB] at g
theorem eqvAll_iff : ∀ ps qs : List PyData, noBs ps = true → noBs qs = true → PyData.eqvAll ps qs = true → ps = qs
  | [], [], _, _, _ => rfl
  | [], _ :: _, _, _, e => by simp [PyData.eqvAll] at e
  | _ :: _, [], _, _, e => by simp [PyData.eqvAll] at e
  | p :: ps, q :: qs, g, h, e => by
    unfold noBs at g h
    unfold PyData.eqvAll at e
    rw [Bool.and_eq_true] at g h e
    rw [eqv_iff p q g.1 h.1 e.1, eqvAll_iff ps qs g.2 h.2 e.2]
end
@[irreducible] def Pln (k : Nat) (d : D) (p : PyData) : Prop := toP d = some p ∧ noB p = true ∧ p.canLay0 = true ∧ p.depth ≤ k
@[irreducible] def PlnL (k : Nat) (ds : List D) (ps : List PyData) : Prop := toPs ds = some ps ∧ noBs ps = true ∧ PyData.canLayAll0 ps = true ∧ PyData.depthAll ps ≤ k
theorem pln_int {i : Int} : Pln 0 (.int i) (.int i) := by unfold Pln; exact ⟨rfl, rfl, rfl, Nat.le_refl _⟩
theorem pll_nil : PlnL 0 [] [] := by unfold PlnL; exact ⟨rfl, rfl, rfl, Nat.le_refl _⟩
theorem pll_cons {j k : Nat} {d : D} {p : PyData} {ds : List D} {ps : List PyData} (h : Pln j d p) (l : PlnL k ds ps) : PlnL (j + k) (d :: ds) (p :: ps) := by
  unfold Pln at h
  unfold PlnL at *
  obtain ⟨a, b, c, e⟩ := h
  obtain ⟨a', b', c', e'⟩ := l
  refine ⟨?_, ?_, ?_, ?_⟩
  · unfold toPs
    rw [a, a']
  · unfold noBs
    rw [b, b']
    rfl
  · unfold PyData.canLayAll0
    rw [c, c']
    rfl
  · unfold PyData.depthAll
    omega
theorem pln_tup {k : Nat} {ds : List D} {ps : List PyData} (h : PlnL k ds ps) : Pln (k + 1) (.tup ds) (.tuple ps) := by
  unfold PlnL at h
  unfold Pln
  obtain ⟨a, b, c, e⟩ := h
  exact ⟨by unfold toP; rw [a]; rfl, by unfold noB; exact b, by unfold PyData.canLay0; exact c, by unfold PyData.depth; omega⟩
theorem eqv_dec {p q : PyData} (g : noB p = true) (h : noB q = true) (c : p.canLay0 = true) {P : Prop} [Decidable P] (i : p = q ↔ P) : PyData.eqv p q = decide P := by
  by_cases z : P
  · rw [decide_eq_true z]
    have e := i.mpr z
    subst e
    exact SeqAt.eqv_refl p c
  · rw [decide_eq_false z]
    cases e : PyData.eqv p q with
    | false => rfl
    | true => exact absurd (i.mp (eqv_iff p q g h e)) z
theorem eq_pln {j k : Nat} {d e : D} {p q : PyData} (neg : Bool) (h : Pln j d p) (l : Pln k e q) (hj : j ≤ 64) (hk : k ≤ 64) {P : Prop} [Decidable P] (i : p = q ↔ P)
    (z : dEq neg d e = match toP d, toP e with
      | some p, some q => if SeqAt.shaped p = true ∧ SeqAt.shaped q = true then M.pure (.bl (if neg then !PyData.eqv p q else PyData.eqv p q)) else M.stuck
      | _, _ => M.stuck) : dEq neg d e = M.pure (.bl (if neg then !decide P else decide P)) := by
  unfold Pln at h l
  obtain ⟨a, b, c, f⟩ := h
  obtain ⟨a', b', c', f'⟩ := l
  rw [z, a, a']
  simp only
  rw [eqv_dec b b' c i]
  refine if_pos ⟨?_, ?_⟩
  · unfold SeqAt.shaped
    rw [c, decide_eq_true (by omega)]
    rfl
  · unfold SeqAt.shaped
    rw [c', decide_eq_true (by omega)]
    rfl
theorem eq_self {k n : Nat} {d : D} (neg : Bool) (h : Shw k n d) (hk : k ≤ 64) : dEq neg d d = M.pure (.bl (!neg)) := by
  unfold Shw at h
  obtain ⟨p, a, b, c, e, f⟩ := h
  have g : SeqAt.shaped p = true := by
    unfold SeqAt.shaped
    rw [c, decide_eq_true (by omega)]
    rfl
  have z : ∀ d', d' = d → (match toP d, toP d' with
      | some p, some q => if SeqAt.shaped p = true ∧ SeqAt.shaped q = true then M.pure (.bl (if neg then !PyData.eqv p q else PyData.eqv p q)) else M.stuck
      | _, _ => M.stuck) = (M.pure (.bl (!neg)) : M D) := by
    rintro d' rfl
    rw [a]
    simp only [g, and_self, if_true, SeqAt.eqv_refl p c]
    cases neg <;> rfl
  cases d <;> first
    | exact z _ rfl
    | (show M.pure (D.bl (if neg then !decide (_ = _) else decide (_ = _))) = _; rw [decide_eq_true rfl]; cases neg <;> rfl)
theorem cut_take {α : Type} {xs : List α} {j : Int} (h0 : 0 ≤ j) : cutD xs none (some j) = xs.take j.toNat := by
  unfold cutD HT.sIx
  simp only [show ¬(j < 0) by omega, if_false, List.drop_zero, Nat.sub_zero]
  show List.take (min j.toNat xs.length) xs = _
  rw [List.take_eq_take_iff]
  omega
theorem cut_drop {α : Type} {xs : List α} {j : Int} (h0 : 0 ≤ j) : cutD xs (some j) none = xs.drop j.toNat := by
  unfold cutD HT.sIx
  simp only [show ¬(j < 0) by omega, if_false]
  show List.take (xs.length - min j.toNat xs.length) (xs.drop (min j.toNat xs.length)) = _
  by_cases l : j.toNat ≤ xs.length
  · rw [Nat.min_eq_left l]
    exact List.take_of_length_le (by rw [List.length_drop]; omega)
  · rw [Nat.min_eq_right (by omega), List.drop_of_length_le (Nat.le_refl _), List.drop_of_length_le (by omega)]
    simp
section
variable {S : List Ob} {PD : D → List Ob → Prop}
theorem p_take {ds : List D} {j : Int} (h0 : 0 ≤ j) (h : PD (.lst (ds.take j.toNat)) S) : Wp (dSl (.lst ds) none (some j)) S PD := by
  show Wp (M.pure (D.lst (cutD ds none (some j)))) S PD
  rw [cut_take h0]
  exact go_pure h
theorem p_drop {ds : List D} {j : Int} (h0 : 0 ≤ j) (h : PD (.lst (ds.drop j.toNat)) S) : Wp (dSl (.lst ds) (some j) none) S PD := by
  show Wp (M.pure (D.lst (cutD ds (some j) none))) S PD
  rw [cut_drop h0]
  exact go_pure h
theorem p_takeT {ds : List D} {j : Int} (h0 : 0 ≤ j) (h : PD (.tup (ds.take j.toNat)) S) : Wp (dSl (.tup ds) none (some j)) S PD := by
  show Wp (M.pure (D.tup (cutD ds none (some j)))) S PD
  rw [cut_take h0]
  exact go_pure h
theorem p_dropT {ds : List D} {j : Int} (h0 : 0 ≤ j) (h : PD (.tup (ds.drop j.toNat)) S) : Wp (dSl (.tup ds) (some j) none) S PD := by
  show Wp (M.pure (D.tup (cutD ds (some j) none))) S PD
  rw [cut_drop h0]
  exact go_pure h
theorem p_revL {ds : List D} (h : PD (.lst ds.reverse) S) : Wp (dRev (.lst ds)) S PD := wp_run.mpr h
theorem p_addL {as bs : List D} (l : as.length + bs.length ≤ lim) (h : PD (.lst (as ++ bs)) S) : Wp (dAdd (.lst as) (.lst bs)) S PD := by
  show Wp (if as.length + bs.length ≤ lim then M.pure (D.lst (as ++ bs)) else M.stuck) S PD
  rw [if_pos l]
  exact go_pure h
theorem p_addT {as bs : List D} (l : as.length + bs.length ≤ lim) (h : PD (.tup (as ++ bs)) S) : Wp (dAdd (.tup as) (.tup bs)) S PD := by
  show Wp (if as.length + bs.length ≤ lim then M.pure (D.tup (as ++ bs)) else M.stuck) S PD
  rw [if_pos l]
  exact go_pure h
theorem p_isT {ds : List D} {neg : Bool} (h : PD (.bl neg) S) : Wp (dIs neg (.tup ds) .non) S PD := by
  cases neg <;> exact wp_run.mpr h
theorem p_isO {c : Nat} {ds : List D} {neg : Bool} (h : PD (.bl neg) S) : Wp (dIs neg (.ins c ds) .non) S PD := by
  cases neg <;> exact wp_run.mpr h
theorem p_isI {i : Int} {neg : Bool} (h : PD (.bl neg) S) : Wp (dIs neg (.int i) .non) S PD := by
  cases neg <;> exact wp_run.mpr h
end
end Ev
local macro_rules | `(tactic| nest_fact) => `(tactic| first
  | assumption
  | exact Ev.shw_non
  | exact Ev.shw_bl _
  | exact Ev.shw_int (by regstrif_fact) (by first | decide | omega)
  | ((with_reducible apply Ev.shw_tup); nest_fact)
  | ((with_reducible apply Ev.shw_lst); nest_fact)
  | with_reducible exact Ev.shl_nil
  | ((with_reducible apply Ev.shl_cons); (· nest_fact); (· nest_fact)))
local macro_rules | `(tactic| regstrif_gather) => `(tactic| first
  | with_reducible refine Ev.p_eqSS ?_
  | with_reducible refine Ev.p_neSS ?_
  | with_reducible refine Ev.p_eqB ?_
  | with_reducible refine Ev.p_neB ?_
  | with_reducible refine Ev.p_isT ?_
  | with_reducible refine Ev.p_isO ?_
  | with_reducible refine Ev.p_isI ?_
  | with_reducible refine Ev.p_revL ?_
  | ((with_reducible show Ev.Wp (Ev.dRepr _) _ _); refine Ev.p_repr (by nest_fact) (by first | decide | omega) (by first | decide | omega) ?_)
  | ((with_reducible refine Ev.p_take ?_ ?_); (· omega))
  | ((with_reducible refine Ev.p_drop ?_ ?_); (· omega))
  | ((with_reducible refine Ev.p_takeT ?_ ?_); (· omega))
  | ((with_reducible refine Ev.p_dropT ?_ ?_); (· omega)))
set_option maxRecDepth 100000
set_option maxHeartbeats 2000000
namespace Ev
open PySem L2
@[irreducible] def Tg (t : Tgt) (d : D) (sd : List SV) (S : List Ob) (N : List SV → List Ob → Prop) : Prop := ∃ sd2 S2, t d sd S = some (sd2, S2) ∧ N sd2 S2
@[irreducible] def TgL (t : Tgts) (ds : List D) (sd : List SV) (S : List Ob) (N : List SV → List Ob → Prop) : Prop := ∃ sd2 S2, t ds sd S = some (sd2, S2) ∧ N sd2 S2
section
variable {S : List Ob} {sd : List SV} {N : List SV → List Ob → Prop} {R : D → List Ob → Prop} {B C : List SV → List Ob → Prop} {d : D} {ds : List D}
theorem gs_tg {g : List SV → M D} {t : Tgt} (h : Wp (g sd) S fun d S' => Tg t d sd S' N) : Ws (asgS g t) sd S N R B C := by
  refine gs_tgt (h.mono fun d S' q => ?_)
  unfold Tg at q
  obtain ⟨sd2, S2, e, q⟩ := q
  rw [e]
  exact q
theorem tg_set {i : Nat} (h : N (sd.set i (.val d)) S) : Tg (setT i) d sd S N := by
  unfold Tg
  exact ⟨_, _, rfl, h⟩
theorem tg_tup {k : Nat} {t : Tgts} (l : ds.length = k) (h : TgL t ds sd S N) : Tg (tupT k t) (.tup ds) sd S N := by
  unfold TgL at h
  unfold Tg
  obtain ⟨sd2, S2, e, q⟩ := h
  refine ⟨sd2, S2, ?_, q⟩
  show (if ds.length = k then t ds sd S else none) = _
  rw [if_pos l]
  exact e
theorem tg_lst {k : Nat} {t : Tgts} (l : ds.length = k) (h : TgL t ds sd S N) : Tg (tupT k t) (.lst ds) sd S N := by
  unfold TgL at h
  unfold Tg
  obtain ⟨sd2, S2, e, q⟩ := h
  refine ⟨sd2, S2, ?_, q⟩
  show (if ds.length = k then t ds sd S else none) = _
  rw [if_pos l]
  exact e
theorem tl_cons {t : Tgt} {ts : Tgts} (h : Tg t d sd S fun sd2 S2 => TgL ts ds sd2 S2 N) : TgL (consT t ts) (d :: ds) sd S N := by
  unfold Tg at h
  obtain ⟨sd1, S1, e, q⟩ := h
  unfold TgL at q ⊢
  obtain ⟨sd2, S2, e2, q⟩ := q
  refine ⟨sd2, S2, ?_, q⟩
  show (match t d sd S with | none => none | some (sd1, S1) => ts ds sd1 S1) = _
  rw [e]
  exact e2
theorem tl_nil (h : N sd S) : TgL (fun _ sd S => some (sd, S)) [] sd S N := by
  unfold TgL
  exact ⟨_, _, rfl, h⟩
theorem Tg.ex {t : Tgt} (h : Tg t d sd S N) : ∃ sd2 S2, t d sd S = some (sd2, S2) ∧ N sd2 S2 := by
  unfold Tg at h
  exact h
theorem gs_times {t : Tgt} {body : MS} {n : Nat} {lo : Int} (J : List SV → List Ob → Prop)
    (step : ∀ i sd S, lo ≤ i → i < lo + n → J sd S → Tg t (.int i) sd S fun sd1 S1 => Ws body sd1 S1 J R N J)
    (fin : ∀ sd S, J sd S → N sd S) (h : J sd S) : Ws (loopS t body (rngD lo n)) sd S N R B C := by
  refine gs_loop (J := fun ds sd S => (∀ d ∈ ds, d ∈ rngD lo n) ∧ J sd S) ?_ ?_ _ _ _ ⟨fun _ h => h, h⟩
  · rintro d ds sd S ⟨hd, hj⟩
    obtain ⟨i, rfl, h0, h1⟩ := rng_mem (hd d List.mem_cons_self)
    obtain ⟨sd1, S1, e1, q⟩ := (step i sd S h0 h1 hj).ex
    have hd2 : ∀ d ∈ ds, d ∈ rngD lo n := fun d h => hd d (List.mem_cons_of_mem _ h)
    exact ⟨sd1, S1, e1, q.mono (fun sd S h => ⟨hd2, h⟩) (fun _ _ h => h) (fun _ _ h => h) (fun sd S h => ⟨hd2, h⟩)⟩
  · rintro sd S ⟨_, hj⟩
    exact fin sd S hj
theorem gs_frzL {i : Nat} (e : sd[i]? = some (.own (.lst ds))) (h : N (sd.set i (.val (.lst ds))) S) : Ws (frzS i) sd S N R B C := gs_frz e h
theorem ws_sd {m : MS} {sd' : List SV} (e : sd = sd') (h : Ws m sd' S N R B C) : Ws m sd S N R B C := e ▸ h
theorem tl_sd {t : Tgts} {sd' : List SV} (e : sd = sd') (h : TgL t ds sd' S N) : TgL t ds sd S N := e ▸ h
end
end Ev
local macro_rules | `(tactic| regstrif_gather) => `(tactic| first
  | ((with_reducible show Ev.Ws _ (List.set _ _ _) _ _ _ _ _); apply Ev.ws_sd; (· first | (simp only [List.set_cons_zero, List.set_cons_succ]; done) | (simp only [List.set_cons_zero, List.set_cons_succ]; exact rfl)))
  | ((with_reducible show Ev.TgL _ _ (List.set _ _ _) _ _); apply Ev.tl_sd; (· first | (simp only [List.set_cons_zero, List.set_cons_succ]; done) | (simp only [List.set_cons_zero, List.set_cons_succ]; exact rfl)))
  | with_reducible refine Ev.gs_seq ?_
  | with_reducible refine Ev.gs_asg ?_
  | with_reducible refine Ev.tg_set ?_
  | ((with_reducible refine Ev.tg_tup ?_ ?_); (· exact rfl))
  | with_reducible refine Ev.tl_cons ?_
  | with_reducible refine Ev.tl_nil ?_
  | ((with_reducible refine Ev.tg_lst ?_ ?_); (· exact rfl))
  | ((with_reducible show Ev.Ws (Ev.asgS _ (Ev.tupT _ _)) _ _ _ _ _ _); refine Ev.gs_tg ?_)
  | ((with_reducible show Ev.Ws (Ev.appS _ _) _ _ _ _ _ _); refine Ev.gs_app (by exact rfl) (by simp only [List.length_append, List.length_cons, List.length_nil, List.length_map, Nat.zero_add, Nat.add_zero]; first | decide | (unfold Ev.lim; omega)) ?_)
  | ((with_reducible refine Ev.p_addL ?_ ?_); (· simp only [List.length_append, List.length_cons, List.length_nil, List.length_map, List.length_take, List.length_drop, List.length_reverse]; unfold Ev.lim; omega))
  | ((with_reducible refine Ev.p_addT ?_ ?_); (· simp only [List.length_append, List.length_cons, List.length_nil, List.length_map, List.length_take, List.length_drop, List.length_reverse]; unfold Ev.lim; omega))
  | ((with_reducible refine Ev.ite_dt ?_ ?_); (· first | with_reducible rfl | decide))
  | ((with_reducible refine Ev.ite_df ?_ ?_); (· decide))
  | ((with_reducible show Ev.Ws (Ev.frzS _) _ _ _ _ _ _); refine Ev.gs_frzL (by exact rfl) ?_))
set_option maxRecDepth 100000
set_option maxHeartbeats 2000000
namespace Ev
open PySem L2
theorem step_rev {α : Type} (xs : List α) : Ev.stepL (-1) xs = xs.reverse := by
  have n : stepNo xs.length (-1) = xs.length := by
    unfold stepNo stepLo Builtin.Slice.slicePlaces
    simp only [show (-1 : Int) < 0 by decide, if_true]
    simp
    omega
  unfold Ev.stepL
  rw [n]
  have lo : stepLo xs.length (-1) = (xs.length : Int) - 1 := by unfold stepLo; simp
  rw [lo]
  have : ∀ k, k ≤ xs.length → ((List.range k).filterMap fun (m : Nat) => xs[((xs.length : Int) - 1 + (m : Int) * (-1)).toNat]?) = (xs.drop (xs.length - k)).reverse := by
    intro k
    induction k with
    | zero => intro _; simp
    | succ k ih =>
      intro h
      have hk : xs.length - (k + 1) < xs.length := by omega
      have e : ((xs.length : Int) - 1 + (k : Int) * (-1)).toNat = xs.length - (k + 1) := by omega
      rw [List.range_succ, List.filterMap_append, ih (by omega), List.drop_eq_getElem_cons hk, List.reverse_cons]
      have e2 : xs.length - (k + 1) + 1 = xs.length - k := by omega
      rw [e2]
      congr 1
      simp only [List.filterMap_cons, List.filterMap_nil, e, List.getElem?_eq_getElem hk]
  have := this xs.length (Nat.le_refl _)
  simpa using this
theorem dStep_rev (ds : List D) : dStep (-1) (.tup ds) = M.pure (.tup ds.reverse) := by
  show M.pure (D.tup (Ev.stepL (-1) ds)) = _
  rw [step_rev]
section
variable {S : List Ob} {PD : D → List Ob → Prop}
theorem p_lenT0 (h : PD (.int 0) S) : Wp (dLen (.tup [])) S PD := wp_run.mpr h
theorem p_lenT1 {x0 : D} (h : PD (.int 1) S) : Wp (dLen (.tup [x0])) S PD := wp_run.mpr h
theorem p_lenT2 {x0 x1 : D} (h : PD (.int 2) S) : Wp (dLen (.tup [x0, x1])) S PD := wp_run.mpr h
theorem p_lenT3 {x0 x1 x2 : D} (h : PD (.int 3) S) : Wp (dLen (.tup [x0, x1, x2])) S PD := wp_run.mpr h
theorem p_lenT4 {x0 x1 x2 x3 : D} (h : PD (.int 4) S) : Wp (dLen (.tup [x0, x1, x2, x3])) S PD := wp_run.mpr h
theorem p_lenT5 {x0 x1 x2 x3 x4 : D} (h : PD (.int 5) S) : Wp (dLen (.tup [x0, x1, x2, x3, x4])) S PD := wp_run.mpr h
theorem p_lenL0 (h : PD (.int 0) S) : Wp (dLen (.lst [])) S PD := wp_run.mpr h
theorem p_lenL1 {x0 : D} (h : PD (.int 1) S) : Wp (dLen (.lst [x0])) S PD := wp_run.mpr h
theorem p_lenL2 {x0 x1 : D} (h : PD (.int 2) S) : Wp (dLen (.lst [x0, x1])) S PD := wp_run.mpr h
theorem p_lenL3 {x0 x1 x2 : D} (h : PD (.int 3) S) : Wp (dLen (.lst [x0, x1, x2])) S PD := wp_run.mpr h
theorem p_lenL4 {x0 x1 x2 x3 : D} (h : PD (.int 4) S) : Wp (dLen (.lst [x0, x1, x2, x3])) S PD := wp_run.mpr h
theorem p_lenL5 {x0 x1 x2 x3 x4 : D} (h : PD (.int 5) S) : Wp (dLen (.lst [x0, x1, x2, x3, x4])) S PD := wp_run.mpr h
theorem p_revT {ds : List D} (h : PD (.tup ds.reverse) S) : Wp (dStep (-1) (.tup ds)) S PD := by
  rw [dStep_rev]
  exact go_pure h
end
end Ev
local macro_rules | `(tactic| regstrif_gather) => `(tactic| first
  | with_reducible refine Ev.p_lenT0 ?_
  | with_reducible refine Ev.p_lenT1 ?_
  | with_reducible refine Ev.p_lenT2 ?_
  | with_reducible refine Ev.p_lenT3 ?_
  | with_reducible refine Ev.p_lenT4 ?_
  | with_reducible refine Ev.p_lenT5 ?_
  | with_reducible refine Ev.p_lenL0 ?_
  | with_reducible refine Ev.p_lenL1 ?_
  | with_reducible refine Ev.p_lenL2 ?_
  | with_reducible refine Ev.p_lenL3 ?_
  | with_reducible refine Ev.p_lenL4 ?_
  | with_reducible refine Ev.p_lenL5 ?_
  | with_reducible refine Ev.p_revT ?_)
set_option maxRecDepth 100000
set_option maxHeartbeats 2000000
namespace Ev
open PySem L2
section
variable {S : List Ob} {sd : List SV} {N : List SV → List Ob → Prop} {R : D → List Ob → Prop} {B C : List SV → List Ob → Prop} {Q : D → List Ob → Prop} {c m n : Nat} {ms : MS} {ds : List D}
theorem go_mk (l : ds.length + 1 = m) (h : Ws ms (slots n (.own (.ins c []) :: ds.map .val)) S (fun sd S' => ∃ es, sd[0]? = some (.own (.ins c es)) ∧ Q (.ins c es) S') (fun _ _ => False) (fun _ _ => False) (fun _ _ => False)) : Wp (mkFn c m n ms ds) S Q := by
  have h := h.run
  refine wp_run.mpr ?_
  unfold Run mkFn
  unfold RunS at h
  rw [if_pos l]
  rcases e : ms (slots n (.own (.ins c []) :: ds.map .val)) S with _ | ⟨sd | _ | _ | _ | _, S'⟩
  · rw [e] at h; exact h
  · rw [e] at h
    obtain ⟨es, e0, q⟩ := h
    unfold mkR
    simp only
    rw [e0]
    simp only [if_true]
    exact q
  · rw [e] at h; exact h
  · rw [e] at h; exact h
  · rw [e] at h; exact h
  · rw [e] at h; exact h
theorem gs_setF {i : Nat} {tbl : Nat → Option Nat} {g : List SV → M D} {j : Nat} (e : sd[i]? = some (.own (.ins c ds))) (t : tbl c = some j) (h : Wp (g sd) S fun d S' => ∃ es, putL ds j d = some es ∧ N (sd.set i (.own (.ins c es))) S') : Ws (setFS i tbl g) sd S N R B C := by
  have h := h.run
  refine ws_run.mpr ?_
  unfold RunS setFS exS
  unfold Run at h
  rcases e2 : g sd S with _ | ⟨_ | d, S'⟩
  · rw [e2] at h; exact h
  · rw [e2] at h; exact h
  · rw [e2] at h
    obtain ⟨es, e3, q⟩ := h
    simp only [e, t, e3]
    exact q
end
structure IsRt (n s : Int) : Prop where
  nn : 0 ≤ s
  le : s * s ≤ n
  lt : n < (s + 1) * (s + 1)
theorem IsRt.uniq {n s t : Int} (h : IsRt n s) (l : IsRt n t) : s = t := by
  have a := h.nn
  have b := l.nn
  rcases Int.lt_trichotomy s t with c | c | c
  · have x : (s + 1) * (s + 1) ≤ t * t := Int.mul_le_mul (by omega) (by omega) (by omega) (by omega)
    have := h.lt
    have := l.le
    omega
  · exact c
  · have x : (t + 1) * (t + 1) ≤ s * s := Int.mul_le_mul (by omega) (by omega) (by omega) (by omega)
    have := l.lt
    have := h.le
    omega
end Ev
set_option maxRecDepth 100000
set_option maxHeartbeats 2000000
namespace Ev
open PySem L2
theorem gs_sup {S : List Ob} {sd : List SV} {N : List SV → List Ob → Prop} {R : D → List Ob → Prop} {B C : List SV → List Ob → Prop} {c m2 n2 : Nat} {ms2 : MS} {fa : List SV → M (List D)} {es : List D}
    (e : sd[0]? = some (.own (.ins c es))) (no : (sd.drop 1).all notOwn = true)
    (h : Wp (fa sd) S fun ds S1 => ds.length + 1 = m2 ∧ Ws ms2 (slots n2 (.own (.ins c es) :: ds.map .val)) S1 (fun sd' S2 => ∃ o, sd'[0]? = some (.own o) ∧ N (sd.set 0 (.own o)) S2) (fun _ _ => False) (fun _ _ => False) (fun _ _ => False)) :
    Ws (supS c m2 n2 ms2 fa) sd S N R B C := by
  have h := h.run
  refine ws_run.mpr ?_
  unfold Run at h
  unfold RunS supS
  rw [e]
  simp only
  rw [if_pos ⟨trivial, no⟩]
  unfold exS
  rcases e2 : fa sd S with _ | ⟨_ | ds, S1⟩
  · rw [e2] at h; exact h
  · rw [e2] at h; exact h
  · rw [e2] at h
    obtain ⟨l, q⟩ := h
    have q := q.run
    unfold RunS at q
    simp only
    rw [if_pos l]
    rcases e3 : ms2 (slots n2 (.own (.ins c es) :: ds.map .val)) S1 with _ | ⟨sd' | _ | _ | _ | _, S2⟩
    · rw [e3] at q; exact q
    · rw [e3] at q
      obtain ⟨o, e4, q⟩ := q
      simp only [e4]
      exact q
    · rw [e3] at q; exact q
    · rw [e3] at q; exact q
    · rw [e3] at q; exact q
    · rw [e3] at q; exact q
end Ev
set_option maxRecDepth 100000
set_option maxHeartbeats 2000000
namespace Ev
open PySem PySem.Spec PyProof.Rows L2
end Ev
set_option maxRecDepth 100000
set_option maxHeartbeats 2000000
namespace Ev
open PySem PySem.Spec PyProof.Rows L2
end Ev
set_option maxRecDepth 100000
set_option maxHeartbeats 2000000
namespace Ev
open PySem PySem.Spec PyProof.Rows L2
end Ev
set_option maxRecDepth 100000
set_option maxHeartbeats 2000000
namespace Ev
open PySem PySem.Spec PyProof.Rows L2
def Txt (n : Nat) (m : M D) : Prop := ∃ y : Str, m = M.pure (.str y) ∧ y.length ≤ n
end Ev
set_option maxRecDepth 100000
set_option maxHeartbeats 2000000
namespace Ev
open PySem PySem.Spec PyProof.Rows L2
end Ev
set_option maxRecDepth 100000
set_option maxHeartbeats 2000000
namespace Ev
open PySem PySem.Spec PyProof.Rows L2
end Ev
set_option maxRecDepth 100000
set_option maxHeartbeats 2000000
namespace Ev
open PySem PySem.Spec PyProof.Rows L2
section
variable {P : Program} {w : World} {K : PySem.W.Frag} {mg : Str → Option Value} {base : Heap} {j k : Nat} {f : Addr} {fd : FuncData} {N ps : List Str}
def DecR (fr : List Env) (P : Program) (w : World) (H : Hp) (s : Shared) (Q : Hp → Prop) (r : Result) (s' : Shared) : Prop :=
  r = .ok (.ret .notImplemented) ∧ CE fr P w H s (fun v H' => v = .non ∧ Q H') .none s'
def DecS (P : Program) (w : World) (K : PySem.W.Frag) (mg : Str → Option Value) (base : Heap) (G : Sg) (k m n : Nat) (f : Addr) (fc : List SV → M Bool) : Prop :=
  ∀ (A : Around) (fr : List Env) (s : Shared) (wd : Wd) (us : List Value) (vs : List V) (ds : List D) (S S' : List Ob) (Q : Hp → Prop),
    Rm G.gd k A → Env0 P w K mg base A fr s wd.H → Vals vs us → RepS G wd S → RepVs G wd ds vs → ds.length = m → fc (slots n (ds.map .val)) S = some (.ok true, S') → (∀ w', Ext wd w' → RepS G w' S' → Q w'.H) →
    codeAny (model P w) A (.call (.ref f) ⟨us, []⟩) (DecR fr P w wd.H s Q) s
end
end Ev
set_option maxRecDepth 100000
set_option maxHeartbeats 2000000
namespace PySem.W
open PySem PyProof.Rows
end PySem.W
set_option maxRecDepth 100000
set_option maxHeartbeats 2000000
namespace PySem.W
open PyProof.Rows
open PySem.AutoSeq1 (wpAny_loadPart')
end PySem.W
namespace PySem.W
open PyProof.Rows L2
def KindV (K : Frag) (H : Hp) (v : V) (T : String) : Prop :=
  (v = .non ∧ T = "NoneType") ∨ (∃ b, v = .bl b ∧ T = "bool") ∨ (∃ i, v = .int i ∧ T = "int") ∨ (∃ x, v = .str x ∧ T = "str") ∨ (∃ a xs, v = .ref a ∧ SqT K H a xs ∧ T = "tuple") ∨ (∃ a xs, v = .ref a ∧ SqL K H a xs ∧ T = "list")
section
variable {X : Cx} {pins : List (Addr × Obj)} {σ : L2.St} {H : Hp} {s : Shared} {A : Around} {E : Value → Shared → Prop} {Q : Option Value → Shared → Prop} {v : V} {u : Value} {T : String} {l C dx : Addr}
theorem KindV.type (I : Inv X pins σ H s) (k : KindV X.K H v T) (r : L2.RelV v u) : s.TypeIs u T := by
  rcases k with ⟨rfl, rfl⟩ | ⟨b, rfl, rfl⟩ | ⟨i, rfl, rfl⟩ | ⟨x, rfl, rfl⟩ | ⟨a, xs, rfl, q, rfl⟩ | ⟨a, xs, rfl, q, rfl⟩
  · cases r; exact rfl
  · cases r; exact rfl
  · obtain ⟨t, rfl⟩ := r; exact rfl
  · obtain ⟨t, rfl⟩ := r; exact rfl
  · cases r
    obtain ⟨its, _, ⟨o, e, c, _⟩, _⟩ := I.tuple q
    exact ⟨o, e, c⟩
  · cases r
    obtain ⟨its, _, ⟨o, n, e, c, _⟩, _⟩ := I.list q
    exact ⟨o, e, c⟩
end
end PySem.W
set_option maxRecDepth 100000
set_option maxHeartbeats 2000000
namespace PySem.W
open PySem PyProof.Rows
end PySem.W
namespace PySem.W
open PyProof.Rows L2
end PySem.W
namespace Ev
open PySem PySem.Spec PyProof.Rows L2
section
variable {G : Sg} {X : Cx} {W : WX} {k : Nat} {σ : L2.St}
theorem DecS.mono {P : Program} {w : World} {K : PySem.W.Frag} {mg : Str → Option Value} {base : Heap} {j m n : Nat} {f : Addr} {fc : List SV → M Bool} (h : DecS P w K mg base G j m n f fc) (l : j ≤ k) : DecS P w K mg base G k m n f fc :=
  fun A fr s wd us vs ds S S' Q hr => h A fr s wd us vs ds S S' Q (hr.mono l)
end
end Ev
set_option maxRecDepth 100000
set_option maxHeartbeats 2000000
namespace Ev
open PySem PySem.Spec PyProof.Rows L2
end Ev
set_option maxRecDepth 100000
set_option maxHeartbeats 2000000
namespace Ev
open PySem PySem.Spec PyProof.Rows L2
section
variable {prog : Program} {w : World} {A : Around} {R : GenEnd} {Y : Protocol} {n : Nat} {s₀ : Shared} {c : Code} {fs : List Frame} {s : Shared} {env : Env}
  {K : Flow → Sem PySem.Fin} {J : Value → Sem PySem.Fin} {gd : Bool → Bool} {lv : List Value → List Value}
abbrev turnLeft (env : Env) : Value → Sem PySem.Fin := fun e => (do noteFrame e env; theTreesLotGoes e : Sem Unit).wrap (fun _ => .raise e) .raise id id
abbrev turnNext (again : Code) : Flow → Sem PySem.Fin := fun f => match f with
  | .next => .pure (.again again)
  | .cont => .pure (.again again)
  | .brk => .pure (.done .next)
  | .ret v => .pure (.done (.ret v))
abbrev loopBack (env : Env) (K : Flow → Sem PySem.Fin) (J : Value → Sem PySem.Fin) (gd : Bool → Bool) (lv : List Value → List Value) : Result → Sem PySem.Fin :=
  fun r => ((match r with | .ok f => (.pure f : Sem Flow) | .error e => .raise e).onRaise (cameBack env)).wrap K J gd lv
theorem seg_for {tg iter : Expr} {body : List Stmt} {pos : Pos} (hs : ∀ x, foldedSetIterable iter env x = pure x)
    (h : wpAny (model prog w) (A.over c fs) (eval iter env) (fun x s1 => wpAny (model prog w) (A.over c fs) (pyIter x) (fun it s2 => ∀ p,
        Seg (model prog w) A R Y n s₀ (.forLoop tg it body [] env) ((model prog w).den (.forLoop tg it body [] env)) (.ret (loopBack env K J gd lv) none (gd false) (lv []) c p [] :: fs) s2)
      (fun e s' => Seg (model prog w) A R Y n s₀ c (J e) fs s') s1) (fun e s' => Seg (model prog w) A R Y n s₀ c (J e) fs s') s) :
    Seg (model prog w) A R Y n s₀ c ((exec (.For tg iter body [] pos) env).wrap K J gd lv) fs s := by
  rw [exec_For]
  refine seg_at ?_
  show Seg _ _ _ _ _ _ _ ((do
    let v ← eval iter env
    let x ← foldedSetIterable iter env v
    standAt iter.pos
    let it ← holding [x] (pyIter x)
    runOwn (.forLoop tg it body [] env) env : Sem Flow).wrap K J gd lv) _ _
  refine seg_bind_wrap (wpAny_mono h (fun x s1 h1 => ?_) fun _ _ z => z)
  rw [hs x]
  refine seg_bind_wrap (wpAny_pure ?_)
  refine seg_bind_wrap (wpAny_standAt ?_)
  refine seg_bind_wrap (wpAny_holding (wpAny_mono h1 (fun it s2 h2 => ?_) fun _ _ z => z))
  exact seg_call h2
theorem seg_forLoop {tg : Expr} {it : Value} {body : List Stmt}
    (h : wpAny (model prog w) (A.over (.forLoop tg it body [] env) fs) (pyNext it) (fun r s1 => match r with
        | none => Seg (model prog w) A R Y n s₀ (.block [] env) ((model prog w).den (.block [] env)) fs s1
        | some v => wpAny (model prog w) (A.over (.forLoop tg it body [] env) fs) (letOwnedTupleGo tg it v) (fun _ s2 =>
            wpAny (model prog w) (A.over (.forLoop tg it body [] env) fs) (assign tg env v) (fun _ s3 =>
              Seg (model prog w) A R Y n s₀ (.forLoop tg it body [] env) ((execs body env).wrap (turnNext (.forLoop tg it body [] env)) (turnLeft env) id id) fs s3)
              (fun e s' => Seg (model prog w) A R Y n s₀ (.forLoop tg it body [] env) (turnLeft env e) fs s') s2)
            (fun e s' => Seg (model prog w) A R Y n s₀ (.forLoop tg it body [] env) (turnLeft env e) fs s') s1)
      (fun e s' => Seg (model prog w) A R Y n s₀ (.forLoop tg it body [] env) (turnLeft env e) fs s') s) :
    Seg (model prog w) A R Y n s₀ (.forLoop tg it body [] env) ((model prog w).den (.forLoop tg it body [] env)) fs s := by
  show Seg _ A R Y n s₀ _ ((forTurn tg it body [] env).onRaise (fun x => do noteFrame x env; theTreesLotGoes x)) fs s
  rw [Sem.onRaise_eq_wrap]
  have tl : ∀ e : Value, ((do noteFrame e env; theTreesLotGoes e : Sem Unit).bind fun _ => (Sem.raise e : Sem PySem.Fin)) = turnLeft env e := fun e => by
    rw [Sem.bind_eq_wrap]
  refine seg_bind_wrap (wpAny_standAt ?_)
  refine seg_bind_wrap (wpAny_onRaise (wpAny_mono h (fun r s1 h1 => ?_) fun e s' z => wpAny_standAt ?_))
  · cases r with
    | none => exact seg_again rfl h1
    | some v =>
      refine seg_bind_wrap (wpAny_mono h1 (fun _ s2 h2 => ?_) fun e s' z => ?_)
      · refine seg_bind_wrap (wpAny_mono h2 (fun _ s3 h3 => ?_) fun e s' z => ?_)
        · rw [Sem.bind_eq_wrap', Sem.wrap_wrap]
          have q : ∀ t, t = (execs body env).wrap (turnNext (.forLoop tg it body [] env)) (turnLeft env) id id → Seg (model prog w) A R Y n s₀ (.forLoop tg it body [] env) t fs s3 := fun t e => by
            rw [e]
            exact h3
          exact q _ (Sem.wrap_congr (execs body env) id id (fun f => by cases f <;> rfl) (fun e => tl e))
        · exact (tl e).symm ▸ z
      · exact (tl e).symm ▸ z
  · exact (tl e).symm ▸ z
end
def tGFor (wi : TI) (g : TG) (tb : TGn) : TGn := fun D ys σ H => wi σ H fun J H1 => ∃ W : Nat → Nat → List V → L2.St → Hp → Prop, (∃ m, W 0 m ys σ H1) ∧ ∀ i m ys σ H, W i m ys σ H →
  (J.stop i H ∧ D.nx ys σ H) ∨ (J.go i H ∧ ∃ N : List V → L2.St → Hp → Prop, (∀ ys' σ' H', N ys' σ' H' → ∃ m', m' < m ∧ W (i + 1) m' ys' σ' H') ∧
    ∀ x H', J.yld i H x H' → g x σ H' fun σ2 H2 => tb { D with nx := N, ct := N, bk := D.nx } ys σ2 H2)
section
variable {X : Cx}
theorem gi_less {S : Addr} {ip more : List (Addr × Obj)} {ys : List V} {σ : L2.St} {H : Hp} {s : Shared} (h : GI X S (ip ++ more) ys σ H s) : GI X S ip ys σ H s := by
  obtain ⟨acc, c, r, I⟩ := h
  refine ⟨acc, c, r, I.pins_of fun p hp => I.pin p (List.mem_append_right _ ?_)⟩
  rcases List.mem_cons.mp hp with z | z
  · exact z ▸ List.mem_cons_self
  · exact List.mem_cons_of_mem _ (List.mem_append_left _ z)
theorem gsg_for {tg iter : Expr} {body : List Stmt} {pos : Pos} {wi : TI} {gt : TG} {tb : TGn} (po : PassesOwn (model X.prog X.w) X.A X.env X.xe) (cm : X.calm = true) (hi : PI X tg iter wi) (ht : PG X tg gt) (hb : GSs X body tb)
    (hs : ∀ x, foldedSetIterable iter X.env x = pure x) : GS X (.For tg iter body [] pos) (tGFor wi gt tb) := by
  refine ⟨fun A S ip R n0 ys0 s0 c fs K J gd lv st σ0 H0 D g0 hn0 k hI q0 => ?_⟩
  obtain ⟨acc0, cc0, r0, I0⟩ := hI
  refine seg_for hs ?_
  rw [g0.over]
  refine wpAny_mono (hi.run ((S, lstObj acc0 cc0) :: ip) st σ0 H0 _ I0 q0) (fun xv s1 h1 => wpAny_mono h1 (fun itv s2 h2 p => ?_) fun e s' z => k.exc n0 s0 e s' z) fun e s' z => k.exc n0 s0 e s' z
  obtain ⟨it, fp, tn, J1, H2, rfl, I2, T, st2, f2, W, ⟨m0, w0⟩, turn⟩ := h2
  have fpo : ∀ {acc : Array Value} {cc : Nat} {H' : Hp}, (∀ b ∈ fp, H' b = none) → ∀ b ∈ fp, FpOk X ((S, lstObj acc cc) :: ip) H' b := fun {acc cc H'} hn b hb => by
    obtain ⟨a1, a2, a3, a4, a5, a6⟩ := f2 b hb
    refine ⟨hn b hb, a2, a3, a4, a5, fun q hq => ?_⟩
    rcases List.mem_append.mp hq with z | z
    · exact a6 q (List.mem_append_left _ z)
    · rcases List.mem_cons.mp z with z | z
      · rw [z]
        exact a6 (S, lstObj acc0 cc0) (List.mem_append_right _ List.mem_cons_self)
      · exact a6 q (List.mem_append_right _ (List.mem_cons_of_mem _ z))
  have gl := gc_loop (k := loopBack X.env K J gd lv) (c' := .forLoop tg (.ref it) body [] X.env) (l := lv []) (kp := []) (p := p) g0 rfl rfl
  have ovr := gl.over
  have leave : ∀ (n : Nat) (s0 : Shared) (e : Value) (s' : Shared), X.xe e s' → Seg (model X.prog X.w) A R (GY X S) n s0 (.forLoop tg (.ref it) body [] X.env) (turnLeft X.env e) (.ret (loopBack X.env K J gd lv) none (gd false) (lv []) c p [] :: fs) s' := fun n s0 e s' hx => by
    refine seg_wrap ?_
    rw [ovr]
    refine wpAny_bind (wpAny_mono (po e s' hx) (fun _ s3 hcb => wpAny_theTreesLotGoes ?_) fun y s3 hcb => ?_)
    · exact seg_leaf (Except.error e) (seg_cameBack g0 k hcb)
    · exact seg_leaf (Except.error y) (seg_cameBack g0 k hcb)
  have main : ∀ (m i n : Nat) (ys : List V) (s0 s : Shared) (σ : L2.St) (H : Hp), n + ys.length = sizeLine → W i m ys σ H → tn i s.heap → (∀ b ∈ fp, H b = none) → GI X S ip ys σ H s →
      Seg (model X.prog X.w) A R (GY X S) n s0 (.forLoop tg (.ref it) body [] X.env) ((model X.prog X.w).den (.forLoop tg (.ref it) body [] X.env)) (.ret (loopBack X.env K J gd lv) none (gd false) (lv []) c p [] :: fs) s := by
    intro m
    induction m using Nat.strongRecOn with
    | ind m ih =>
      intro i n ys s0 s σ H hn w tns fpn hG
      obtain ⟨acc, cc, r, I⟩ := hG
      refine seg_forLoop ?_
      rw [ovr]
      rcases turn i m ys σ H w with ⟨stop, q⟩ | ⟨goo, N, hN, step⟩
      · refine wpAny_mono (T.done X rfl rfl rfl cm i ((S, lstObj acc cc) :: ip) s σ H X.xe I (fpo fpn) tns stop) (fun r1 s1 h1 => ?_) fun e s' z => leave n s0 e s' z
        obtain ⟨rfl, I1⟩ := h1
        show Seg _ _ _ _ _ _ _ (leafOf (Except.ok Flow.next)) _ _
        exact seg_leaf (Except.ok Flow.next) (k.ok n ys s0 s1 Flow.next hn ⟨σ, H, ⟨acc, cc, r, I1⟩, q⟩)
      · refine wpAny_mono (T.item X rfl rfl rfl cm i ((S, lstObj acc cc) :: ip) s σ H X.xe I (fpo fpn) tns goo) (fun r1 s1 h1 => ?_) fun e s' z => leave n s0 e s' z
        obtain ⟨u, rfl, h1⟩ := h1
        refine wpAny_mono h1 (fun _ s2 h2 => ?_) fun e s' z => leave n s0 e s' z
        obtain ⟨x, H3, I3, rx, yx, tn3, fp3⟩ := h2
        have obs := T.obj _ _ tn3
        have I4 := I3.pinned (fpo fp3) obs
        refine wpAny_mono (ht.run _ s2 σ H3 x u _ I4 rx (step x H3 yx)) (fun _ s3 h3 => ?_) fun e s' z => leave n s0 e s' z
        obtain ⟨σ3, H4, I5, q5⟩ := h3
        have apart : ∀ q ∈ ip ++ pinsAt fp s2.heap, q.1 ≠ S := fun q hq => by
          rcases List.mem_append.mp hq with z | z
          · exact g0.ip q z
          · obtain ⟨hb, _⟩ := of_pinsAt z
            exact fun e => (f2 q.1 hb).2.2.2.2.2 (S, lstObj acc0 cc0) (List.mem_append_right _ List.mem_cons_self) e.symm
        have g1 : GC X S (ip ++ pinsAt fp s2.heap) A (.forLoop tg (.ref it) body [] X.env) (.ret (loopBack X.env K J gd lv) none (gd false) (lv []) c p [] :: fs) id := ⟨gl.pn, apart, gl.apart, gl.over, gl.split, gl.guard, gl.gd⟩
        refine hb.run A S (ip ++ pinsAt fp s2.heap) R n ys s0 _ _ _ _ id id s3 σ3 H4 { D with nx := N, ct := N, bk := D.nx } g1 hn ⟨fun n' ys' s0' s' f hn' hsp => ?_, fun n' s0' e s' z => leave n' s0' e s' z⟩ ⟨acc, cc, r, I5⟩ q5
        have again : ∀ (σ' : L2.St) (H' : Hp), GI X S (ip ++ pinsAt fp s2.heap) ys' σ' H' s' → N ys' σ' H' →
            Seg (model X.prog X.w) A R (GY X S) n' s0' (.forLoop tg (.ref it) body [] X.env) (.pure (.again (.forLoop tg (.ref it) body [] X.env))) (.ret (loopBack X.env K J gd lv) none (gd false) (lv []) c p [] :: fs) s' := fun σ' H' hG' hN' => by
          obtain ⟨m', lt, w'⟩ := hN ys' σ' H' hN'
          have held : ∀ b ∈ fp, ∀ o, s2.heap.get? b = some o → s'.heap.get? b = some o ∧ H' b = none := fun b hb o e => by
            obtain ⟨_, _, _, I'⟩ := hG'
            have z := I'.pin (b, o) (List.mem_append_right _ (List.mem_cons_of_mem _ (List.mem_append_right _ (mem_pinsAt hb e))))
            exact ⟨z.1, z.2.1⟩
          refine seg_again rfl (ih m' lt (i + 1) n' ys' s0' s' σ' H' hn' w' (T.keep _ _ _ tn3 fun b hb o e => (held b hb o e).1) (fun b hb => ?_) (gi_less hG'))
          obtain ⟨o, e, _⟩ := obs b hb
          exact (held b hb o e).2
        cases f with
        | next =>
          obtain ⟨σ', H', a, b⟩ := hsp
          exact again σ' H' a b
        | cont =>
          obtain ⟨σ', H', a, b⟩ := hsp
          exact again σ' H' a b
        | brk =>
          obtain ⟨σ', H', a, b⟩ := hsp
          exact seg_leaf (Except.ok Flow.next) (k.ok n' ys' s0' s' Flow.next hn' ⟨σ', H', gi_less a, b⟩)
        | ret v =>
          obtain ⟨v', σ', H', a, rv, b⟩ := hsp
          exact seg_leaf (Except.ok (Flow.ret v)) (k.ok n' ys' s0' s' (Flow.ret v) hn' ⟨v', σ', H', gi_less a, rv, b⟩)
  exact main m0 0 n0 ys0 s0 s2 σ0 H2 hn0 w0 st2 (fun b hb => (f2 b hb).1) ⟨acc0, cc0, r0, I2⟩
end
end Ev
set_option maxRecDepth 100000
set_option maxHeartbeats 2000000
namespace Ev
open PySem PySem.Spec PyProof.Rows L2
abbrev MG : Type := List SV → List Ob → List D → Option (Out × List Ob × List D)
def FinN (G : Sg) (W : WX) (w0 w : Wd) (D : GEnds) : Option (Out × List Ob × List Ev.D) → Prop
  | none => False
  | some (.next sd, S, out) => ∀ w' σ' ys, Stay w w' → R G w0 w' sd S σ' → RepVs G w' out ys → D.nx ys σ' w'.H
  | some (.ret _, _, _) => False
  | some (.brk sd, S, out) => ∀ w' σ' ys, Stay w w' → R G w0 w' sd S σ' → RepVs G w' out ys → D.bk ys σ' w'.H
  | some (.cont sd, S, out) => ∀ w' σ' ys, Stay w w' → R G w0 w' sd S σ' → RepVs G w' out ys → D.ct ys σ' w'.H
  | some (.err e sd, S, _) => ∀ w' σ' cls x, Stay w w' → R G w0 w' sd S σ' → RepX G w' e cls x → W cls x σ' w'.H
def tgN (G : Sg) (W : WX) (f : MG) : TGn := fun D ys σ H => ∃ w0 w sd S out, w.H = H ∧ R G w0 w sd S σ ∧ RepVs G w out ys ∧ FinN G W w0 w D (f sd S out)
abbrev PGS (G : Sg) (X : Cx) (W : WX) (st : Stmt) (f : MG) : Prop := GS X st (tgN G W f)
abbrev PGSs (G : Sg) (X : Cx) (W : WX) (st : List Stmt) (f : MG) : Prop := GSs X st (tgN G W f)
theorem gs_imp {X : Cx} {st : Stmt} {t t' : TGn} (h : GS X st t) (i : ∀ D ys σ H, t' D ys σ H → t D ys σ H) : GS X st t' :=
  ⟨fun A S ip R n ys s0 c fs K J gd lv s σ H D g hn k I q => h.run A S ip R n ys s0 c fs K J gd lv s σ H D g hn k I (i D ys σ H q)⟩
theorem gss_imp {X : Cx} {st : List Stmt} {t t' : TGn} (h : GSs X st t) (i : ∀ D ys σ H, t' D ys σ H → t D ys σ H) : GSs X st t' :=
  ⟨fun A S ip R n ys s0 c fs K J gd lv s σ H D g hn k I q => h.run A S ip R n ys s0 c fs K J gd lv s σ H D g hn k I (i D ys σ H q)⟩
theorem FinN.stay {G : Sg} {W : WX} {w0 w w1 : Wd} {D : GEnds} {r : Option (Out × List Ob × List Ev.D)} (e : Stay w w1) (h : FinN G W w0 w D r) : FinN G W w0 w1 D r := by
  rcases r with _ | ⟨_ | _ | _ | _ | _, _, _⟩
  · exact h
  · exact fun w' σ' ys s => h w' σ' ys (e.trans s)
  · exact h
  · exact fun w' σ' ys s => h w' σ' ys (e.trans s)
  · exact fun w' σ' ys s => h w' σ' ys (e.trans s)
  · exact fun w' σ' c x s => h w' σ' c x (e.trans s)
def plainG (f : MS) : MG := fun sd S out => match f sd S with
  | none => none
  | some (.ret _, _) => none
  | some (o, S') => some (o, S', out)
def yieldG (f : List SV → M D) : MG := fun sd S out => if out.length < lim then (match f sd S with
  | none => none
  | some (.error e, S1) => some (.err e sd, S1, out)
  | some (.ok d, S1) => some (.next sd, S1, out ++ [d])) else none
def nilG : MG := fun sd S out => some (.next sd, S, out)
def seqG (f g : MG) : MG := fun sd S out => match f sd S out with
  | some (.next sd', S', out') => g sd' S' out'
  | o => o
def loopG (t : Tgt) (body : MG) : List D → MG
  | [] => nilG
  | d :: ds => fun sd S out => match t d sd S with
    | none => none
    | some (sd1, S1) => match body sd1 S1 out with
      | some (.next sd2, S2, out2) => loopG t body ds sd2 S2 out2
      | some (.cont sd2, S2, out2) => loopG t body ds sd2 S2 out2
      | some (.brk sd2, S2, out2) => some (.next sd2, S2, out2)
      | o => o
def forG (f : List SV → M (List D)) (t : Tgt) (body : MG) : MG := fun sd S out => match f sd S with
  | none => none
  | some (.error e, S1) => some (.err e sd, S1, out)
  | some (.ok ds, S1) => loopG t body ds sd S1 out
section
variable {G : Sg} {X : Cx} {W : WX} {k : Nat}
theorem plain_at {f : MS} {D : GEnds} {ys : List V} {σ : L2.St} {H : Hp} (h : tgN G W (plainG f) D ys σ H) : tsV G W f (D.at ys) σ H := by
  obtain ⟨w0, w, sd, S, out, e, r, ro, q⟩ := h
  refine ⟨w0, w, sd, S, e, r, ?_⟩
  unfold plainG at q
  rcases hf : f sd S with _ | ⟨_ | _ | _ | _ | _, S1⟩
  · rw [hf] at q; exact q
  · rw [hf] at q
    exact fun w' σ' s r' => q w' σ' ys s r' (RepVs.stay s _ _ ro)
  · rw [hf] at q; exact q.elim
  · rw [hf] at q
    exact fun w' σ' s r' => q w' σ' ys s r' (RepVs.stay s _ _ ro)
  · rw [hf] at q
    exact fun w' σ' s r' => q w' σ' ys s r' (RepVs.stay s _ _ ro)
  · rw [hf] at q
    exact fun w' σ' cls x s r' rx => q w' σ' cls x s r' rx
theorem sg_plain {st : Stmt} {f : MS} (h : PSV G X W st f) : PGS G X W st (plainG f) := gs_imp (gs_ps h) fun D ys σ H q => plain_at q
theorem sg_nil : PGSs G X W [] nilG := gss_imp gss_nil fun D ys σ H q => by
  obtain ⟨w0, w, sd, S, out, e, r, ro, q⟩ := q
  subst e
  exact q w σ ys (Stay.refl w) r ro
theorem sg_cons {st : Stmt} {rest : List Stmt} {f g : MG} (h1 : PGS G X W st f) (h2 : PGSs G X W rest g) : PGSs G X W (st :: rest) (seqG f g) := by
  refine gss_imp (gss_cons h1 h2) fun D ys σ H q => ?_
  obtain ⟨w0, w, sd, S, out, e, r, ro, q⟩ := q
  refine ⟨w0, w, sd, S, out, e, r, ro, ?_⟩
  unfold seqG at q
  rcases hf : f sd S out with _ | ⟨_ | _ | _ | _ | _, S1, out1⟩
  · rw [hf] at q; exact q
  · rw [hf] at q
    exact fun w' σ' ys' s r' ro' => ⟨w0, w', _, S1, out1, rfl, r', ro', FinN.stay s q⟩
  · rw [hf] at q; exact q
  · rw [hf] at q; exact q
  · rw [hf] at q; exact q
  · rw [hf] at q; exact q
theorem sg_yield {e : Expr} {f : List SV → M D} {yp pos : Pos} (h : PV G X W e f) (hco : X.env.scope.isCoroutine = false) (hi : interactive X.env = false) : PGS G X W (.Expr (.Yield (some e) yp) pos) (yieldG f) := by
  refine gs_imp (gs_yield h hco hi) fun D ys σ H q => ?_
  obtain ⟨w0, w, sd, S, out, e, r, ro, q⟩ := q
  unfold yieldG at q
  by_cases l : out.length < lim
  · rw [if_pos l] at q
    refine ⟨by rw [← ro.length, ← lim_eq]; exact l, w0, w, sd, S, e, r, ?_⟩
    rcases hf : f sd S with _ | ⟨_ | d, S1⟩
    · rw [hf] at q; exact q
    · rw [hf] at q
      exact fun w' cls x ex s rx => q w' σ cls x (ex.stay r.st.dj) (r.step ex s) rx
    · rw [hf] at q
      exact fun w' v ex s rv => q w' σ (ys ++ [v]) (ex.stay r.st.dj) (r.step ex s) (RepVs.append (RepVs.mono ex r.st.dj _ _ ro) (RepVs.one rv))
  · rw [if_neg l] at q
    exact q.elim
theorem sg_for {ts : List Nat} {tg iter : Expr} {body : List Stmt} {f : List SV → M (List D)} {t : Tgt} {fb : MG} {pos : Pos} (c : Ctx G X W k) (hi : PIV G X W tg iter f) (hg : PGV G X ts tg t) (hb : PGSs G X W body fb) (hs : setFree iter = true) :
    PGS G X W (.For tg iter body [] pos) (forG f t fb) := by
  refine gs_imp (gsg_for c.po c.calm hi hg hb (set_free hs)) fun En ys0 σ H q => ?_
  obtain ⟨w0, w, sd, S, out, e, r, ro, q⟩ := q
  refine ⟨w0, w, sd, S, e, r, ?_⟩
  unfold forG at q
  rcases hf : f sd S with _ | ⟨_ | ds, S1⟩
  · rw [hf] at q; exact q
  · rw [hf] at q
    exact fun w' cls x ex s rx => q w' σ cls x (ex.stay r.st.dj) (r.step ex s) rx
  rw [hf] at q
  intro w1 J ex s1 Y
  have q1 : FinN G W w0 w1 En (loopG t fb ds sd S1 out) := FinN.stay (ex.stay r.st.dj) q
  have r1 := r.step ex s1
  have ro1 := RepVs.mono ex r.st.dj _ _ ro
  refine ⟨fun i m ys σ H => m = ds.length - i ∧ i ≤ ds.length ∧ ∃ w sd S out, w.H = H ∧ Stay w1 w ∧ R G w0 w sd S σ ∧ RepVs G w out ys ∧ FinN G W w0 w En (loopG t fb (ds.drop i) sd S out), ⟨_, rfl, Nat.zero_le _, w1, sd, S1, out, rfl, Stay.refl _, r1, ro1, q1⟩, ?_⟩
  rintro i m ys σ2 H2 ⟨rfl, hi2, w2, sd2, S2, out2, rfl, st2, r2, ro2, q2⟩
  by_cases hlt : i < ds.length
  · obtain ⟨d, hd, hdr⟩ := drop_cons hlt
    rw [hdr] at q2
    refine .inr ⟨Y.go w2 i st2 hlt, _, fun ys' σ' H' hN => ⟨ds.length - (i + 1), by omega, hN⟩, fun x H' hy => ?_⟩
    obtain ⟨w3, rfl, e3, s3, rx⟩ := Y.yld w2 i d x H' S2 st2 r2.st hd hy
    have r3 := r2.step e3 s3
    refine ⟨w0, w3, sd2, S2, d, rfl, r3, rx, ?_⟩
    unfold loopG at q2
    rcases ht : t d sd2 S2 with _ | ⟨sd4, S4⟩
    · rw [ht] at q2; exact q2
    · rw [ht] at q2
      simp only at q2
      intro w4 σ4 st4 r4 _
      have st24 : Stay w2 w4 := (e3.stay r2.st.dj).trans st4
      refine ⟨w0, w4, sd4, S4, out2, rfl, r4, RepVs.stay st24 _ _ ro2, ?_⟩
      rcases hbq : fb sd4 S4 out2 with _ | ⟨_ | _ | _ | _ | _, S5, out5⟩
      · rw [hbq] at q2; exact q2
      · rw [hbq] at q2
        exact fun w5 σ5 ys5 st5 r5 ro5 => ⟨rfl, hlt, w5, _, S5, out5, rfl, st2.trans (st24.trans st5), r5, ro5, FinN.stay (st24.trans st5) q2⟩
      · rw [hbq] at q2; exact q2
      · rw [hbq] at q2
        exact fun w5 σ5 ys5 st5 r5 ro5 => q2 w5 σ5 ys5 (st24.trans st5) r5 ro5
      · rw [hbq] at q2
        exact fun w5 σ5 ys5 st5 r5 ro5 => ⟨rfl, hlt, w5, _, S5, out5, rfl, st2.trans (st24.trans st5), r5, ro5, FinN.stay (st24.trans st5) q2⟩
      · rw [hbq] at q2
        exact fun w5 σ5 cl y st5 r5 => q2 w5 σ5 cl y (st24.trans st5) r5
  · have e : i = ds.length := by omega
    subst e
    rw [List.drop_length] at q2
    exact .inl ⟨Y.stop w2 _ st2 (Nat.le_refl _), q2 w2 σ2 ys (Stay.refl _) r2 ro2⟩
end
end Ev
set_option maxRecDepth 100000
set_option maxHeartbeats 2000000
namespace Ev
open PySem PySem.Spec PyProof.Rows L2
def Sg.un (G : Sg) : Sg := { G with gd := false }
section
variable {G : Sg} {w : Wd}
mutual
theorem rep_un : ∀ (d : D) (v : V), RepV G.un w d v ↔ RepV G w d v
  | .non, _ => Iff.rfl
  | .bl _, _ => Iff.rfl
  | .int _, _ => Iff.rfl
  | .str _, _ => Iff.rfl
  | .tup ds, v => by
    constructor
    · rintro ⟨a, vs, e, h, r⟩; exact ⟨a, vs, e, h, (reps_un ds vs).mp r⟩
    · rintro ⟨a, vs, e, h, r⟩; exact ⟨a, vs, e, h, (reps_un ds vs).mpr r⟩
  | .lst ds, v => by
    constructor
    · rintro ⟨a, vs, e, f, h, r⟩; exact ⟨a, vs, e, f, h, (reps_un ds vs).mp r⟩
    · rintro ⟨a, vs, e, f, h, r⟩; exact ⟨a, vs, e, f, h, (reps_un ds vs).mpr r⟩
  | .scr ds, v => by
    constructor
    · rintro ⟨a, vs, e, h, r⟩; exact ⟨a, vs, e, h, (reps_un ds vs).mp r⟩
    · rintro ⟨a, vs, e, h, r⟩; exact ⟨a, vs, e, h, (reps_un ds vs).mpr r⟩
  | .dct ks ds, v => by
    constructor
    · rintro ⟨a, vs, e, f, h, l, r⟩; exact ⟨a, vs, e, f, h, l, (reps_un ds vs).mp r⟩
    · rintro ⟨a, vs, e, f, h, l, r⟩; exact ⟨a, vs, e, f, h, l, (reps_un ds vs).mpr r⟩
  | .ins c ds, v => by
    constructor
    · rintro ⟨a, dx, vs, e, f, h, l, r⟩; exact ⟨a, dx, vs, e, f, h, l, (reps_un ds vs).mp r⟩
    · rintro ⟨a, dx, vs, e, f, h, l, r⟩; exact ⟨a, dx, vs, e, f, h, l, (reps_un ds vs).mpr r⟩
  | .ref _, _ => Iff.rfl
  | .ty _, _ => Iff.rfl
  | .cls _, _ => Iff.rfl
  | .raw _ _ _ ds, v => by
    constructor
    · rintro ⟨e, vs, h, r⟩; exact ⟨e, vs, h, (reps_un ds vs).mp r⟩
    · rintro ⟨e, vs, h, r⟩; exact ⟨e, vs, h, (reps_un ds vs).mpr r⟩
theorem reps_un : ∀ (ds : List D) (vs : List V), RepVs G.un w ds vs ↔ RepVs G w ds vs
  | [], _ => Iff.rfl
  | d :: ds, vs => by
    constructor
    · rintro ⟨v, r, e, h, t⟩; exact ⟨v, r, e, (rep_un d v).mp h, (reps_un ds r).mp t⟩
    · rintro ⟨v, r, e, h, t⟩; exact ⟨v, r, e, (rep_un d v).mpr h, (reps_un ds r).mpr t⟩
end
theorem repo_un {a : Addr} {o : Ob} : RepO G.un w a o ↔ RepO G w a o := by
  cases o with
  | lst ds =>
    constructor
    · rintro ⟨vs, h, r⟩; exact ⟨vs, h, (reps_un ds vs).mp r⟩
    · rintro ⟨vs, h, r⟩; exact ⟨vs, h, (reps_un ds vs).mpr r⟩
  | dct ks ds =>
    constructor
    · rintro ⟨vs, h, l, r⟩; exact ⟨vs, h, l, (reps_un ds vs).mp r⟩
    · rintro ⟨vs, h, l, r⟩; exact ⟨vs, h, l, (reps_un ds vs).mpr r⟩
  | ins c ds =>
    constructor
    · rintro ⟨dx, vs, h, l, r⟩; exact ⟨dx, vs, h, l, (reps_un ds vs).mp r⟩
    · rintro ⟨dx, vs, h, l, r⟩; exact ⟨dx, vs, h, l, (reps_un ds vs).mpr r⟩
  | tbl j => exact Iff.rfl
theorem store_un {S : List Ob} : RepS G.un w S ↔ RepS G w S := by
  constructor
  · rintro ⟨a, b, c, d, e⟩; exact ⟨a, b, c, d, fun n x o h1 h2 => repo_un.mp (e n x o h1 h2)⟩
  · rintro ⟨a, b, c, d, e⟩; exact ⟨a, b, c, d, fun n x o h1 h2 => repo_un.mpr (e n x o h1 h2)⟩
end
def finN : Option (Out × List Ob × List D) → Option (Except Exn (List D) × List Ob)
  | some (.next _, S, out) => some (.ok out, S)
  | some (.err e _, S, _) => some (.error e, S)
  | _ => none
def genFn (m n : Nat) (ms : MG) : List D → M (List D) := fun ds S => if ds.length = m then finN (ms (slots n (ds.map .val)) S []) else none
def FinL (G : Sg) (w : Wd) (Q : List V → Hp → Prop) : Option (Except Exn (List D) × List Ob) → Prop
  | some (.ok l, S) => ∀ w' vs, Ext w w' → RepS G w' S → RepVs G w' l vs → Q vs w'.H
  | _ => False
end Ev
set_option maxRecDepth 100000
set_option maxHeartbeats 2000000
namespace Ev
open PySem PySem.Spec PyProof.Rows L2
section
variable {P : Program} {w : World} {K : PySem.W.Frag} {mg : Str → Option Value} {base : Heap} {G : Sg} {k m : Nat} {f : Addr} {x qual : Str} {st : Stmt} {fd : FuncData} {N ps ks : List Str} {ms : MG} {ix : List Nat}
theorem FinL.un {wd : Wd} {Q : List V → Hp → Prop} {r : Option (Except Exn (List D) × List Ob)} (h : FinL G wd Q r) : FinL G.un wd Q r := by
  rcases r with _ | ⟨_ | l, S⟩
  · exact h
  · exact h
  · exact fun w' vs e s r => h w' vs e (store_un.mp s) ((reps_un _ _).mp r)
end
def pickN (tbl : Nat → Option (List D → M (List D))) (d : D) : M (List D → M (List D)) := M.bind (clsOf d) fun c => match tbl c with
  | some g => M.pure g
  | none => M.stuck
section
variable {G : Sg} {X : Cx} {W : WX} {k n m j : Nat} {mm : Str} {p pos apos : Pos} {e o : Expr} {es : List Expr} {kws : List Keyword} {ks : List Str} {fa fk : List SV → M (List D)} {fo : List SV → M D} {σ : L2.St}
theorem pickN_fin {α β : Type} {rep : Wd → α → β → Prop} {W' : Value → Option Addr → Hp → Prop} {w : Wd} {Q : β → Hp → Prop} {S : List Ob} {tbl : Nat → Option (List D → M (List D))} {d : D} {kk : (List D → M (List D)) → M α} {v : V} (s : RepS G w S) (rd : RepV G w d v)
    (h : FinG G rep W' w Q (M.bind (pickN tbl d) kk S)) : ∃ c g, tbl c = some g ∧ FinG G rep W' w Q (kk g S) ∧ ∃ a dx vs, v = .ref a ∧ w.H a = some (.ins (G.ca c) dx ((G.fn c).zip vs)) := by
  unfold pickN M.bind at h
  rcases hc : clsOf d S with _ | ⟨x | c, S2⟩
  · rw [hc] at h; exact h.elim
  · exact absurd hc clsOf_noerr
  · obtain ⟨rfl, a, dx, vs, e1, h1⟩ := clsOf_rep s rd hc
    rw [hc] at h
    simp only at h
    rcases ht : tbl c with _ | g
    · rw [ht] at h; exact h.elim
    · rw [ht] at h
      exact ⟨c, g, ht, h, a, dx, vs, e1, h1⟩
end
end Ev
set_option maxRecDepth 100000
set_option maxHeartbeats 2000000
namespace Ev
open PySem L2
@[irreducible] def Wg (f : MG) (sd : List SV) (S : List Ob) (out : List D) (N : List SV → List Ob → List D → Prop) : Prop := match f sd S out with
  | some (.next sd', S', out') => N sd' S' out'
  | _ => False
section
variable {f g : MG} {sd : List SV} {S : List Ob} {out : List D} {N N' : List SV → List Ob → List D → Prop}
theorem wg_seq (h : Wg f sd S out (fun sd' S' out' => Wg g sd' S' out' N)) : Wg (seqG f g) sd S out N := by
  unfold Wg at *
  unfold seqG
  rcases hf : f sd S out with _ | ⟨_ | _ | _ | _ | _, _, _⟩ <;> rw [hf] at h <;> first | exact h.elim | skip
  simpa [Wg] using h
theorem wg_nil (h : N sd S out) : Wg nilG sd S out N := by
  unfold Wg nilG
  exact h
theorem wg_plain {m : MS} (h : Ws m sd S (fun sd' S' => N sd' S' out) (fun _ _ => False) (fun _ _ => False) (fun _ _ => False)) : Wg (plainG m) sd S out N := by
  have h := h.run
  unfold RunS at h
  unfold Wg plainG
  rcases hf : m sd S with _ | ⟨_ | _ | _ | _ | _, _⟩ <;> rw [hf] at h <;> first | exact h.elim | exact h
theorem wg_yield {e : List SV → M D} (l : out.length < lim) (h : Wp (e sd) S fun d S' => N sd S' (out ++ [d])) : Wg (yieldG e) sd S out N := by
  have h := h.run
  unfold Run at h
  unfold Wg yieldG
  rw [if_pos l]
  rcases hf : e sd S with _ | ⟨_ | _, _⟩ <;> rw [hf] at h <;> first | exact h.elim | exact h
theorem wg_loop {t : Tgt} (J : List D → List SV → List Ob → List D → Prop) (step : ∀ d ds sd S out, J (d :: ds) sd S out → ∃ sd1 S1, t d sd S = some (sd1, S1) ∧ Wg f sd1 S1 out (fun sd2 S2 out2 => J ds sd2 S2 out2))
    (fin : ∀ sd S out, J [] sd S out → N sd S out) : ∀ (ds : List D) (sd : List SV) (S : List Ob) (out : List D), J ds sd S out → Wg (loopG t f ds) sd S out N
  | [], sd, S, out, h => wg_nil (fin sd S out h)
  | d :: ds, sd, S, out, h => by
    obtain ⟨sd1, S1, e, hb⟩ := step d ds sd S out h
    have ih := wg_loop J step fin ds
    unfold Wg at hb ⊢
    unfold loopG
    rw [e]
    simp only
    rcases hf : f sd1 S1 out with _ | ⟨_ | _ | _ | _ | _, _, _⟩ <;> rw [hf] at hb <;> first | exact hb.elim | skip
    have := ih _ _ _ hb
    unfold Wg at this
    exact this
theorem wg_for {fi : List SV → M (List D)} {t : Tgt} (J : List D → List SV → List Ob → List D → Prop) (h : Wp (fi sd) S fun ds S' => J ds sd S' out)
    (step : ∀ d ds sd S out, J (d :: ds) sd S out → ∃ sd1 S1, t d sd S = some (sd1, S1) ∧ Wg f sd1 S1 out (fun sd2 S2 out2 => J ds sd2 S2 out2))
    (fin : ∀ sd S out, J [] sd S out → N sd S out) : Wg (forG fi t f) sd S out N := by
  have h := h.run
  unfold Run at h
  unfold Wg forG
  rcases hf : fi sd S with _ | ⟨_ | ds, S1⟩ <;> rw [hf] at h <;> first | exact h.elim | skip
  have := wg_loop J step fin ds sd S1 out h
  unfold Wg at this
  exact this
theorem wp_gen {m n : Nat} {ms : MG} {ds : List D} {P : List D → List Ob → Prop} (e : ds.length = m) (h : Wg ms (slots n (ds.map .val)) S [] fun _ S' out => P out S') : Wp (genFn m n ms ds) S P := by
  refine wp_run.mpr ?_
  unfold Wg at h
  unfold Run genFn
  rw [if_pos e]
  rcases hf : ms (slots n (ds.map .val)) S [] with _ | ⟨_ | _ | _ | _ | _, _, _⟩ <;> rw [hf] at h <;> first | exact h.elim | exact h
end
end Ev
set_option maxRecDepth 100000
set_option maxHeartbeats 2000000
namespace PySem.SeqAt
open AutoSeq1 (wpAny_loadPart')
open MeetsSeq MeetsSeq2 MeetsSeq3
end PySem.SeqAt
namespace PySem.SeqAt
open PyProof.Rows
end PySem.SeqAt
namespace Ev
open PySem PySem.Spec PyProof.Rows L2
section
variable {G : Sg} {X : Cx} {W : WX} {k : Nat}
def dNeZ : D → D → M D
  | .dct _ _, .str _ => M.pure (.bl true)
  | .dct _ _, .tup _ => M.pure (.bl true)
  | d, e => dEq true d e
theorem v_dict0 {pos : Pos} : PV G X W (.Dict [] [] pos) (fun _ => M.pure (.dct [] [])) := by
  refine PE.imp pe_dnewK fun σ H Q q p hp => ?_
  obtain ⟨w0, w, sd, S, e, r, q⟩ := q
  subst e
  exact q (w.frz p (.dK [])) _ (Ext.frz hp) (r.st.frz hp) ⟨p, [], rfl, .inr rfl, upd_same, rfl, rfl⟩
end
end Ev
set_option maxRecDepth 100000
set_option maxHeartbeats 2000000
namespace Ev
open PySem PySem.Spec PyProof.Rows L2
structure KTabD (K : PySem.W.Frag) (w : World) (G : Sg) (d : Addr) (js : List (Str × Option D)) : Prop where
  ex : ∃ es n, KDict K w d es n ∧ es.toList.map He.keyOf = He.keysIn w.params (js.map (·.1))
  val : ∀ z e, js.lookup z = some (some e) → ∃ u v, PySem.W.nsIn K d z = some (some u) ∧ RelV v u ∧ ∀ wd : Wd, RepV G wd e v
theorem find_keys {w : World} {z : Str} : ∀ {l : List DictEntry} {js : List (Str × Option D)}, l.map He.keyOf = He.keysIn w.params (js.map (·.1)) → (l.find? (·.key.isStr z)).isSome = (js.lookup z).isSome ∧ l.any (·.refKey) = false
  | [], [], _ => ⟨rfl, rfl⟩
  | [], _ :: _, h => by cases h
  | _ :: _, [], h => by cases h
  | e :: l, (k, x) :: js, h => by
    have h1 : He.keyOf e :: l.map He.keyOf = some (k, PyData.keyHash w.params k) :: He.keysIn w.params (js.map (·.1)) := h
    injection h1 with h2 h3
    obtain ⟨i1, i2⟩ := find_keys (z := z) h3
    unfold He.keyOf at h2
    split at h2
    · rename_i y t q
      obtain ⟨h5, h6⟩ := Prod.mk.inj (Option.some.inj h2)
      subst h5
      have hs : e.key.isStr z = (y == z) := by rw [q]; rfl
      have hr : e.refKey = false := by unfold DictEntry.refKey; rw [q]
      refine ⟨?_, by rw [List.any_cons, hr, i2]; rfl⟩
      rw [List.find?_cons, List.lookup_cons, hs]
      by_cases hz : y = z
      · subst hz
        simp
      · have e1 : (y == z) = false := by simpa using hz
        have e2 : (z == y) = false := by simpa using fun q => hz q.symm
        rw [e1, e2]
        exact i1
    · cases h2
theorem KTabD.ns {K : PySem.W.Frag} {w : World} {G : Sg} {d : Addr} {js : List (Str × Option D)} (T : KTabD K w G d js) (z : Str) : ∃ r, PySem.W.nsIn K d z = some r ∧ r.isSome = (js.lookup z).isSome := by
  obtain ⟨es, n, k, h⟩ := T.ex
  obtain ⟨i1, i2⟩ := find_keys (z := z) h
  rcases hf : es.toList.find? (·.key.isStr z) with _ | e
  · rw [hf] at i1
    refine ⟨none, ?_, i1⟩
    unfold PySem.W.nsIn
    rw [k.at_]
    simp only [hf, i2, Bool.false_eq_true, if_false]
  · rw [hf] at i1
    refine ⟨some e.val, ?_, i1⟩
    unfold PySem.W.nsIn
    rw [k.at_]
    simp only [hf]
end Ev
namespace Ev
open PySem L2
end Ev
namespace Ev
open PySem PySem.Spec PyProof.Rows L2
end Ev
set_option maxRecDepth 100000
set_option maxHeartbeats 2000000
namespace Ev
open PySem PySem.Spec PyProof.Rows L2
end Ev
set_option maxRecDepth 100000
set_option maxHeartbeats 2000000
namespace Ev
open PySem PySem.Spec PyProof.Rows L2
end Ev
set_option maxRecDepth 100000
set_option maxHeartbeats 2000000
namespace Ev
open PySem PySem.Spec PyProof.Rows L2
end Ev
set_option maxRecDepth 100000
set_option maxHeartbeats 2000000
namespace Ev
open PySem PySem.Spec PyProof.Rows L2
end Ev
set_option maxRecDepth 100000
set_option maxHeartbeats 1000000
namespace Ev
open PySem PySem.Spec PyProof.Rows L2
end Ev
set_option maxRecDepth 100000
set_option maxHeartbeats 1000000
namespace Ev
open PySem PySem.Spec PyProof.Rows L2
end Ev
set_option maxRecDepth 100000
set_option maxHeartbeats 2000000
namespace Ev
open PySem PySem.Spec PyProof.Rows L2
end Ev
set_option maxRecDepth 100000
set_option maxHeartbeats 2000000
namespace Ev
open PySem PySem.Spec PyProof.Rows L2
end Ev
set_option maxRecDepth 100000
set_option maxHeartbeats 1000000
namespace Ev
open PySem PySem.Spec PyProof.Rows L2
end Ev
set_option maxRecDepth 100000
set_option maxHeartbeats 1000000
namespace Ev
open PySem PySem.Spec PyProof.Rows L2
end Ev
set_option maxRecDepth 100000
set_option maxHeartbeats 1000000
namespace Ev
open PySem PySem.Spec PyProof.Rows L2
end Ev
set_option maxRecDepth 100000
set_option maxHeartbeats 2000000
namespace PySem.W
open PySem PyProof.Rows SeqAt
open MeetsSeq MeetsSeq2 MeetsSeq3 SeqRoads2
section
variable {prog : Program} {w : World}
def Nones (prog : Program) (w : World) (A0 : Around) (l : Addr) (x : Value) (m : Nat) (J : Nat → Shared → Prop) : Prop :=
  ∀ (i : Nat) (s : Shared), J i s → ∃ items n dd sl, items.size = m ∧ s.heap.get? l = some { cls := .type "list", dict := dd, data := .seq items n, slots := sl } ∧
    ∀ (h : i < items.size) (E : Value → Shared → Prop), wpAny (model prog w) A0.in1 (eqBool items[i] x) (fun b s' => b = false ∧ J (i + 1) s') E s
theorem none_loop (l : Addr) (m : Nat) (x : Value) (J : Nat → Shared → Prop) (A0 : Around) (hl : Nones prog w A0 l x m J) (k : Nat) :
    ∀ i : Nat, m - i = k → MeetsIn prog w (Builtin.«list.__contains__.loop» ⟨[.ref l, x, rawInt i], []⟩)
      (fun A R s => A = A0 ∧ J i s ∧ i ≤ m ∧ ∀ s', J m s' → R (.ok (.ret (.bool false))) s') := by
  induction k with
  | zero =>
    intro i hk A R s h
    obtain ⟨rfl, hj, hi0, h⟩ := h
    obtain ⟨items, n, dd, sl, hm, hls, _⟩ := hl i s hj
    have ei : i = items.size := by omega
    subst hm
    subst ei
    have hz := h s hj
    obtain ⟨hp, g, d, tk, os⟩ := s
    wp_walk using PySem.AutoSeq1.wpAny_loadPart' hls
    have hi : items[((items.size : Nat) : Int).toNat]? = none := by simp
    rw [hi]
    wp_walk
    exact hz
  | succ k ih =>
    intro i hk A R s h
    obtain ⟨rfl, hj, hi0, h⟩ := h
    obtain ⟨items, n, dd, sl, hm, hls, he⟩ := hl i s hj
    have hlt : i < items.size := by omega
    have one := fun E => he hlt E
    obtain ⟨hp, g, d, tk, os⟩ := s
    wp_walk using PySem.AutoSeq1.wpAny_loadPart' hls
    have hi : items[((i : Nat) : Int).toNat]? = some items[i] := by simp [hlt]
    rw [hi]
    refine wpAny_bind (wpAny_mono (one _) (fun b s' z => ?_) fun _ _ e => e)
    obtain ⟨rfl, hj'⟩ := z
    have hc : ((i : Int) + 1) = ((i + 1 : Nat) : Int) := by push_cast; rfl
    obtain ⟨hp', g', d', tk', os'⟩ := s'
    wp_walk
    rw [hc]
    exact ⟨plainId_quiet plain_contains_loop _, codeAny_builtin entry_contains_loop (by
      rw [Around.under_plainId plain_contains_loop _]
      exact ih (i + 1) (by omega) A R _ ⟨rfl, hj', by omega, h⟩)⟩
theorem none_contains (l : Addr) (m : Nat) (x : Value) (J : Nat → Shared → Prop) (A0 : Around) (hl : Nones prog w A0 l x m J) :
    MeetsIn prog w (Builtin.«list.__contains__» ⟨[.ref l, x], []⟩) (fun A R s => A = A0 ∧ J 0 s ∧ ∀ s', J m s' → R (.ok (.ret (.bool false))) s') := by
  intro A R s h
  obtain ⟨rfl, hj, h⟩ := h
  obtain ⟨items, n, dd, sl, hm, hls, _⟩ := hl 0 s hj
  obtain ⟨hp, g, d, tk, os⟩ := s
  wp_walk using PySem.AutoSeq1.wpAny_loadPart' hls
  exact ⟨plainId_quiet plain_contains_loop _, codeAny_builtin entry_contains_loop (by
    rw [Around.under_plainId plain_contains_loop _]
    exact none_loop l m x J A hl _ 0 rfl A R _ ⟨rfl, hj, Nat.zero_le _, h⟩)⟩
variable {A : Around} {E : Value → Shared → Prop} {s : Shared}
theorem none_in {l : Addr} {m : Nat} {x : Value} {Q : Value → Shared → Prop} (J : Nat → Shared → Prop) (hl : Nones prog w A l x m J) (h0 : J 0 s) (h : ∀ s', J m s' → Q (.bool false) s') :
    wpAny (model prog w) A (compareOp .In x (.ref l)) Q E s := by
  obtain ⟨items, n, dd, sl, hm, ho, _⟩ := hl 0 s h0
  show wpAny _ A (do return .bool (← contains (.ref l) x)) Q E s
  refine wpAny_bind (wpAny_contains_slot (T := "list") ⟨_, ho, rfl⟩ F.slot_list_contains (wpAny_mono (call_meetsIn (Q := fun v s' => v = .bool false ∧ J m s') F.slot_list_contains ⟨_, ho, rfl⟩ F.entry_list_contains (F.args_list_contains_2 _ _) (none_contains l m x J A hl) ⟨rfl, h0, fun s' z => ⟨rfl, z⟩⟩) (fun v s' hv => ?_) fun _ _ e => e))
  obtain ⟨rfl, z⟩ := hv
  exact wpAny_truthy_bool (wpAny_pure (h _ z))
variable {K : Frag} {x C : Addr} {ox : Obj} {od : Option Obj} {f : Addr}
end
end PySem.W
namespace PySem.W
open PyProof.Rows L2
end PySem.W
namespace Ev
open PySem PySem.Spec PyProof.Rows L2
end Ev
set_option maxRecDepth 100000
set_option maxHeartbeats 2000000
namespace Ev
open PySem PySem.Spec PyProof.Rows L2
section
variable {G : Sg} {X : Cx} {pins : List (Addr × Obj)} {σ : L2.St} {s : Shared} {w : Wd} {S : List Ob}
def Wd.lam (w : Wd) (P c' : Addr) (q : Str) (ps : Array Value) : Wd := ⟨w.m, fun a => w.F a ∨ a = c', upd (upd w.H P (.tbl ps)) c' (LamX.CodeO c' q), w.x⟩
theorem lam_world {P c' : Addr} {n j : Nat} {ps ps' : Array Value} (st : RepS G w S) (hn : w.m[n]? = some P) (hj : S[n]? = some (.tbl j)) (hP : w.H P = some (.tbl ps)) (nc : w.H c' = none) (eP : P = G.ta j)
    (tr : TriplesOk ps'.toList) (told : ∀ (pos : Pos) (cv : Value), codeAmong pos ps'.toList = some cv → cv = .ref c' ∨ ∃ c, cv = .ref c ∧ w.F c ∧ w.H c = some (LamX.CodeO c (G.tq j))) : Ext w (w.lam P c' (G.tq j) ps') ∧ RepS G (w.lam P c' (G.tq j) ps') S := by
  have hm : P ∈ w.m := List.mem_of_getElem? hn
  have cm : c' ∉ w.m := fun z => st.there z nc
  have nP : P ≠ c' := fun z => cm (z ▸ hm)
  have off : ∀ {b : Addr}, b ≠ P → b ≠ c' → (w.lam P c' (G.tq j) ps').H b = w.H b := fun {b} h1 h2 => by
    show upd (upd w.H P (.tbl ps')) c' _ b = _
    rw [upd_ne h2, upd_ne h1]
  have atc : (w.lam P c' (G.tq j) ps').H c' = some (LamX.CodeO c' (G.tq j)) := upd_same
  have atP : (w.lam P c' (G.tq j) ps').H P = some (.tbl ps') := by
    show upd (upd w.H P (.tbl ps')) c' _ P = _
    rw [upd_ne nP, upd_same]
  have there : ∀ {b : Addr}, w.H b ≠ none → b ≠ c' := fun {b} h z => h (z ▸ nc)
  have ex : Ext w (w.lam P c' (G.tq j) ps') := by
    refine ⟨⟨[], by simp [Wd.lam]⟩, fun _ h => .inl h, fun b u hb e => ?_, fun _ h => .inl h, fun b h => h.imp id fun z => by rw [z]; exact nc, fun b h => ?_⟩
    · rw [off (fun z : b = P => hb (by rw [z]; exact hm)) (there (by rw [e]; exact fun q => nomatch q))]
      exact e
    · by_cases z : b = c'
      · rw [z]; exact nc
      · by_cases y : b = P
        · rw [y, atP] at h; cases h
        · rw [off y z] at h
          exact h
  have sty := ex.stay st.dj
  refine ⟨ex, st.len, st.nd, fun a h => ?_, fun a h => ?_, fun i a u h1 h2 => ?_⟩
  · rcases h with h | h
    · exact st.dj a h
    · rw [h]; exact cm
  · rcases h with h | h
    · rw [off (fun z : a = P => st.dj a h (by rw [z]; exact hm)) (there (st.fh a h))]
      exact st.fh a h
    · rw [h, atc]
      exact fun q => nomatch q
  · by_cases y : a = P
    · subst y
      have ei : i = n := (List.getElem?_inj (List.getElem?_eq_some_iff.mp (show w.m[i]? = some a from h1)).1 st.nd).mp ((show w.m[i]? = some a from h1).trans hn.symm)
      subst ei
      rw [hj] at h2
      cases h2
      refine ⟨eP, hm, ps', atP, tr, fun pos cv hc => ?_⟩
      rcases told pos cv hc with z | ⟨c, z1, z2, z3⟩
      · exact ⟨c', z, .inr rfl, atc⟩
      · exact ⟨c, z1, .inl z2, sty.H c _ z2 z3⟩
    · exact RepO.to (off y (there (st.there (List.mem_of_getElem? h1)))) sty (st.ob i a u h1 h2)
theorem lam_make3 {c : Addr} {n j : Nat} {params : Arguments} {body : Expr} {scope : Scope} {pos : Pos} {E : Value → Shared → Prop} {Q : Value → Shared → Prop} (I : Inv X pins σ w.H s) (st : RepS G w S) (hj : S[n]? = some (.tbl j)) (TB : LamX.TabB X.base X.mg c (G.ta j))
    (hcode : X.env.code = .ref c) (hq : G.tq j = X.env.qual ++ "<lambda>") (hdef : defaultsOf params X.env = ([], [])) (hfree : ∀ y ∈ scope.names, y.2 = .free → ∃ c, X.env.cells.lookup y.1 = some c)
    (h : ∀ (f c' : Addr) (pm ctv : Value) (w1 : Wd) (s' : Shared), Inv X pins σ w1.H s' → Ext w w1 → RepS G w1 S → s'.heap.get? f = some (PySem.W.kla_obj "<lambda>" (X.env.qual ++ "<lambda>") params body scope (cloFrom X.env.cells scope.names []) pm c' ctv) →
      w1.H f = none → f ∉ frs X.stack → w1.F c' → w1.H c' = some (LamX.CodeO c' (X.env.qual ++ "<lambda>")) → Q (.ref f) s') :
    wpAny (model X.prog X.w) X.A (eval (.Lambda params body scope pos) X.env) Q E s := by
  have ln : n < w.m.length := by
    rw [st.len]
    exact (List.getElem?_eq_some_iff.mp hj).1
  have hn := List.getElem?_eq_getElem ln
  obtain ⟨eP, hm, ps, hP, tr, told⟩ := st.ob n _ _ hn hj
  generalize w.m[n] = P at hn eP hm hP
  subst eP
  have ob0 : s.heap.get? (G.ta j) = some { cls := .none, data := .fields ps } := I.hok (G.ta j) _ hP
  have bm := TB.bm.keeps I.bk
  have out : ∀ g : Addr, s.heap.objs.size ≤ g → g ∉ frs X.stack := fun g hg z => by
    rcases List.mem_cons.mp (I.stkSub _ z) with e | e
    · subst e
      exact Nat.lt_irrefl _ (Nat.lt_of_lt_of_le I.lt hg)
    · exact I.nofs hg e
  refine PySem.W.kla_eval hdef ?_
  rcases hc : codeAmong pos ps.toList with _ | cv
  · refine PySem.W.kla_makeFunction (mg := X.mg) (c := c) (P := G.ta j) (ps := ps) (closure_ok hfree) I.ok.glob (I.mod.glob.keeps I.bk) hcode (TB.code.keeps I.bk) ob0 tr hc TB.gP bm ?_
    intro c1 ctv h1 tk keep1 ge1 lt1 rec1 tab1
    obtain ⟨c2, oc, us, t, e2, ho, hd, hu⟩ := rec1
    cases e2
    have nc : w.H c1 = none := I.hok.fresh ge1
    have sz : s.heap.objs.size ≤ h1.objs.size := Nat.le_trans ge1 (Nat.le_of_lt lt1)
    have J := LamX.inv_table (q := G.tq j) (t' := tk) (more := #[rawInt pos.line, rawInt pos.col, .ref c1]) (h' := h1.push (PySem.W.kla_obj "<lambda>" (X.env.qual ++ "<lambda>") params body scope (cloFrom X.env.cells scope.names []) ((X.mg "__name__").getD .none) c1 ctv)) I hP
      (fun b o ne e => Heap.get?_push_of_some _ (keep1 b o ne e)) (Heap.get?_push_of_some _ tab1) ge1 ⟨oc, us, t, Heap.get?_push_of_some _ ho, hd, by rw [hq]; exact hu⟩
    have el : (ps ++ #[rawInt pos.line, rawInt pos.col, .ref c1]).toList = ps.toList ++ [rawInt pos.line, rawInt pos.col, .ref c1] := by simp
    obtain ⟨ex, st1⟩ := lam_world (ps' := ps ++ #[rawInt pos.line, rawInt pos.col, .ref c1]) st hn hj hP nc rfl (by rw [el]; exact PySem.TriplesOk_snoc _ _ _ _ tr) (fun p v hv => by
      rw [el] at hv
      rcases LamX.among_app _ tr hv with z | z
      · exact .inr (told p v z)
      · exact .inl z)
    refine h h1.objs.size c1 ((X.mg "__name__").getD .none) ctv (w.lam (G.ta j) c1 (G.tq j) (ps ++ #[rawInt pos.line, rawInt pos.col, .ref c1])) _ J ex st1 (Heap.get?_push_size _ rfl) ?_ (out _ sz) (.inr rfl) ?_
    · have n1 : h1.objs.size ≠ c1 := Nat.ne_of_gt lt1
      have n2 : h1.objs.size ≠ G.ta j := Nat.ne_of_gt (Nat.lt_of_lt_of_le (Heap.lt_size ob0) sz)
      show upd (upd w.H _ _) _ _ _ = none
      rw [upd_ne n1, upd_ne n2]
      exact I.hok.fresh sz
    · rw [← hq]
      exact upd_same
  · obtain ⟨c1, e, fc, hco⟩ := told pos cv hc
    subst e
    refine PySem.W.kla_makeFunctionHit (mg := X.mg) (c := c) (P := G.ta j) (ps := ps) (closure_ok hfree) I.ok.glob (I.mod.glob.keeps I.bk) hcode (TB.code.keeps I.bk) ob0 tr hc bm ?_
    intro ctv h1 tk keep1 sz
    have J : Inv X pins σ w.H { s with heap := h1.push (PySem.W.kla_obj "<lambda>" (X.env.qual ++ "<lambda>") params body scope (cloFrom X.env.cells scope.names []) ((X.mg "__name__").getD .none) c1 ctv), toks := tk } := I.kept fun b o e => Heap.get?_push_of_some _ (keep1 b o e)
    exact h h1.objs.size c1 ((X.mg "__name__").getD .none) ctv w _ J (Ext.refl w) st (Heap.get?_push_size _ rfl) (I.hok.fresh sz) (out _ sz) fc (by rw [← hq]; exact hco)
end
end Ev
set_option maxRecDepth 100000
set_option maxHeartbeats 2000000
namespace Ev
open PySem PySem.Spec PyProof.Rows L2
theorem fly_keeps {B h h' : Heap} {l : List Env} {e : Addr} {Z : Obj → Prop} (x : HandSPX.FlyingZ B l e Z h) (k : ∀ b o, h.get? b = some o → h'.get? b = some o) : HandSPX.FlyingZ B l e Z h' := by
  obtain ⟨f1, f2, f3, oe, vs, T, oT, ts, q1, q2, q3, q4, q5, q6, q7, q8, q9⟩ := x
  refine ⟨fun b o z => k b o (f1 b o z), f2, f3.of_keeps fun b o z _ => ⟨o, k b o z, rfl⟩, oe, vs, T, oT, ts, k _ _ q1, q2, q3, q4, q5, q6, k _ _ q7, q8, q9⟩
def w3 (K : PySem.W.Frag) (cs : List Value) (i : Nat) (ts : Addr → Value → Option Addr → TS) (En : Ends) : WX := fun cls d σ H => PySem.W.exmAny K cls cs = some true ∧
  ∀ a, H a = none → ts a cls d { nx := fun σ' H' => En.nx (σ'.set i none) H', rt := En.rt, bk := fun σ' H' => En.bk (σ'.set i none) H', ct := fun σ' H' => En.ct (σ'.set i none) H' } (σ.set i (some (.ref a))) H
section
variable {X : Cx} {x1 x2 x3 n : Str} {c1 c2 c3 : Value} {i kk : Nat} {body suite : List Stmt} {b₀ : Stmt} {p1 p2 p3 tp pos pos' : Pos} {tb : WX → TS} {ts : Addr → Value → Option Addr → TS}
theorem s_try3 (hs : X.stack = X.env :: X.outer) (hf : X.env.frame = some X.env.locals) (hN : X.N.Nodup) (hi : X.N[i]? = some n) (hln : X.env.kindOf n = some .local) (n1 : Names X x1 c1) (n2 : Names X x2 c2) (n3 : Names X x3 c3)
    (hb : ∀ (W : WX) (pn : List (Addr × Obj)) (xe : Value → Shared → Prop), L2N.Takes (X.tr pn xe) W → PassesOwn (model X.prog X.w) X.A X.env xe → PSs (X.tr pn xe) body (tb W))
    (hsu : ∀ (a : Addr) (oe : Obj) (cls : Value) (d : Option Addr) (pn : List (Addr × Obj)), L2N.Zn cls d oe → (∃ vs, oe.data = .fields vs) → PSs (X.suite a ((a, oe) :: pn)) (b₀ :: suite) (ts a cls d)) :
    PS X (.Try body [.ExceptHandler (some (.Tuple [.Name x1 p1, .Name x2 p2, .Name x3 p3] kk tp)) (some n) (b₀ :: suite) pos'] [] [] pos) (fun En σ H => tb (w3 X.K [c1, c2, c3] i ts En) En σ H) := by
  constructor
  intro pins s σ H En I h
  have ok := I.ok
  have frs_ : X.A.frames = some (X.env :: X.outer) := by
    rw [ok.frames, hs]
  refine wpAny_Try_except ?_
  have run := (hb (w3 X.K [c1, c2, c3] i ts En) (X.pn ++ pins) (fun e sa => wpAny (model X.prog X.w) X.A (noteFrame e X.env) (fun _ sb => wpAny (model X.prog X.w) X.A (setFlight e none) (fun _ sc =>
    wpAny (model X.prog X.w) X.A (handleBy e X.env [.ExceptHandler (some (.Tuple [.Name x1 p1, .Name x2 p2, .Name x3 p3] kk tp)) (some n) (b₀ :: suite) pos']) (SP X pins En) X.xe sc) X.xe sb) X.xe sa) ?_ PassesOwn.looking).run [] s σ H En (I.toTry _) h
  · refine wpAny_mono run (fun f s1 hsp => ?_) (fun e s1 he => he)
    cases f with
    | next =>
      obtain ⟨σ2, H2, J2, q⟩ := hsp
      exact wpAny_execs_nil ⟨σ2, H2, J2.ofTry ok, q⟩
    | ret u =>
      obtain ⟨v, σ2, H2, J2, r, q⟩ := hsp
      exact ⟨v, σ2, H2, J2.ofTry ok, r, q⟩
    | brk =>
      obtain ⟨σ2, H2, J2, q⟩ := hsp
      exact ⟨σ2, H2, J2.ofTry ok, q⟩
    | cont =>
      obtain ⟨σ2, H2, J2, q⟩ := hsp
      exact ⟨σ2, H2, J2.ofTry ok, q⟩
  · rintro u s2 ⟨a, B, sI, pins2, σ2, H2, cls, d, rfl, J0, nb, up, sky, na, os, ag, hx, go⟩
    have J : Inv X pins σ2 H2 sI := J0.ofTry ok
    show wpAny (model X.prog X.w) X.A (noteFrame (.ref a) X.env) _ _ _
    refine L2N.Sky.land L2N.Zn.steady frs_ hf (by rw [← hs]; exact sky) ?_
    intro h3 fl3 up3
    have J3 : Inv X pins σ2 H2 { s2 with heap := h3 } := J.landed nb fl3.1 (up.trans up3) os ag
    obtain ⟨oe3, vs3, e3, z3, d3⟩ := fl3.there
    have nfr : a ∉ frs (X.env :: X.outer) := by
      intro hm
      obtain ⟨_, o2, q2, hnf⟩ := fl3.2.2.1.mem hm
      rw [e3] at q2
      cases q2
      exact hnf _ d3
    have nL : a ≠ X.env.locals := by
      intro z
      exact nfr (List.mem_filterMap.mpr ⟨X.env, List.mem_cons_self, by rw [hf, z]⟩)
    have nF : a ∉ X.fs := by
      intro hm
      obtain ⟨v, hv, q⟩ := List.mem_filterMap.mp hm
      exact nfr (List.mem_filterMap.mpr ⟨v, List.mem_cons_of_mem _ hv, q⟩)
    have S3 := J3.suite e3 d3 na nL nF
    refine wpAny_handleBy_cons (codeAny_handlers_test ?_) (by intro q; cases q)
    have name : ∀ {x : Str} {c : Value} {p : Pos} {Q E : Value → Shared → Prop}, Names X x c → Q c { s2 with heap := h3 } → wpAny (model X.prog X.w) (X.A.mark (some (.ref a))) (eval (.Name x p) X.env) Q E { s2 with heap := h3 } := by
      intro x c p Q E hc q
      obtain ⟨hg, hdbg, hm | ⟨hm, hv, hnn⟩⟩ := hc
      · exact ld_glob (X := X.suite a ((a, oe3) :: (X.pn ++ pins))) S3 hg hm q hdbg
      · exact ld_blt (X := X.suite a ((a, oe3) :: (X.pn ++ pins))) S3 hg hm hv q hnn hdbg
    refine wpAny_Tuple (wpAny_items_cons (name n1 (wpAny_items_cons (name n2 (wpAny_items_cons (name n3 (wpAny_items_nil ⟨by size_fits, ?_⟩)))))))
    have kp : ∀ b o, h3.get? b = some o → (h3.push { cls := .type "tuple", data := .seq [c1, c2, c3].toArray }).get? b = some o := fun b o q => Heap.get?_push_of_some _ q
    have LT : PySem.W.Looks (model X.prog X.w) h3 (typeOf (.ref a)) cls := by
      intro A Q E s k q
      refine wpAny_typeOf_ref (k _ _ e3) ?_
      rw [z3.1]
      exact q
    refine (PySem.W.exm_tup3 (M := model X.prog X.w) (J3.kIn.keeps kp) (LT.keeps kp) (Heap.get?_push_size h3 rfl) hx).here ?_
    refine codeAny_handlers_suite_as ?_
    have flP := fly_keeps fl3 kp
    refine HandSPX.lands_againZ flP ?_
    intro h4 fl4 up4
    have J4 : Inv X pins σ2 H2 { s2 with heap := h4 } := J.landed nb fl4.1 (((up.trans up3).trans (Heap.UpToSlots.of_keeps kp)).trans up4) os ag
    obtain ⟨oe4, vs4, e4, z4, d4⟩ := fl4.there
    have S4 := J4.suite e4 d4 na nL nF
    refine store_ok (X := X.suite a ((a, oe4) :: (X.pn ++ pins))) (v := .ref a) S4 hN hi (.inl hln) rfl ?_ (.inr hln)
    intro s5 S5
    have end_ : ∀ {s6 : Shared} {σ6 : L2.St} {H6 : Hp} {Q : Shared → Prop}, Inv (X.suite a ((a, oe4) :: (X.pn ++ pins))) [] σ6 H6 s6 → (∀ s7, Inv X pins (σ6.set i none) H6 s7 → Q s7) →
        wpAny (model X.prog X.w) X.A (do bindName X.env n .none; unbindBehindTheSuite X.env n pos') (fun _ s7 => Q s7) X.xe s6 := fun S6 hq => gone_ok (S6.unsuite ok) hN hi hln hq
    refine wpAny_mono ((hsu a oe4 cls d (X.pn ++ pins) z4 ⟨_, d4⟩).run [] s5 _ H2 _ S5 (go a na)) ?_ (fun _ _ z => z.elim)
    intro f s6 hsp
    cases f with
    | ret u =>
      obtain ⟨v6, σ6, H6, S6, r6, q6⟩ := hsp
      exact end_ S6 fun s7 J7 => ⟨v6, _, H6, J7, r6, q6⟩
    | next =>
      obtain ⟨σ6, H6, S6, q6⟩ := hsp
      exact end_ S6 fun s7 J7 => ⟨_, H6, J7, q6⟩
    | brk =>
      obtain ⟨σ6, H6, S6, q6⟩ := hsp
      exact end_ S6 fun s7 J7 => ⟨_, H6, J7, q6⟩
    | cont =>
      obtain ⟨σ6, H6, S6, q6⟩ := hsp
      exact end_ S6 fun s7 J7 => ⟨_, H6, J7, q6⟩
end
end Ev
set_option maxRecDepth 100000
set_option maxHeartbeats 4000000
namespace Ev
open PySem PySem.Spec PyProof.Rows L2
def lamN (X : Cx) (A : Around) (outer : List Env) (s : Shared) (H : Hp) (E : XK) (scope : Scope) (f c' : Addr) : Cx :=
  (LamX.lamCx X A outer s H E scope f c').tr [] fun e s' => wpAny (model X.prog X.w) (A.deeper (LamX.lamEnv X scope s.heap.objs.size f c')) (leaving (LamX.lamEnv X scope s.heap.objs.size f c') e)
    (fun _ s'' => L2N.CX X.prog X.w outer H s E e s'') (fun e' s'' => L2N.CX X.prog X.w outer H s E e' s'') s'
theorem ctxL {G : Sg} {X : Cx} {A : Around} {outer : List Env} {s : Shared} {H : Hp} {E : XK} {scope : Scope} {f c' : Addr} {k : Nat} (cK : G.K = X.K) (nd : X.N.Nodup) (hr : Rm G.gd (k + 1) (A.deeper (LamX.lamEnv X scope s.heap.objs.size f c'))) :
    Ctx G (lamN X A outer s H E scope f c') (WF E) k := ⟨cK, rfl, hr, nd, fun σ => L2N.passAt (L2N.takes_of rfl rfl rfl rfl) σ, L2.passes_of rfl⟩
abbrev XC (P : Program) (w : World) (K : PySem.W.Frag) (mg : Str → Option Value) (base : Heap) (N : List Str) (qual : Str) (st : Stmt) (f : Addr) (cdv : Value) (A : Around) (fr : List Env) (s : Shared) (H : Hp) : Cx :=
  cxOf C8.CX0 P w K mg base N qual (defScope st) f cdv A fr s H C8.E0
section
variable {G : Sg} {X : Cx} {W : WX} {k : Nat}
theorem act3 {pins : List (Addr × Obj)} {σ : L2.St} {H : Hp} {s : Shared} {Ng : List Str} {qg : Str} {stg : Stmt} {g f c' : Addr} {cdg pm ctv : Value} {params : Arguments} {body : Expr} {scope : Scope} {i : Nat} {a : Str} {pn : List (Addr × Obj)} {xe : Value → Shared → Prop} {Wt : WX} {E : XK} {tb : TE} {p1 p2 : Pos}
    (I : Inv X pins σ H s) (L : LamX.LamS X.env.scope scope) (hf : s.heap.get? f = some (PySem.W.kla_obj "<lambda>" (X.env.qual ++ "<lambda>") params body scope (cloFrom X.env.cells scope.names []) pm c' ctv)) (hfn : H f = none) (hfr : f ∉ frs X.stack)
    (hbind : bindArgs (PySem.W.kla_fn "<lambda>" (X.env.qual ++ "<lambda>") params body scope (cloFrom X.env.cells scope.names []) pm (.ref c') ctv) ⟨[], []⟩ = pure [])
    (tk : L2N.Takes ((XC X.prog X.w X.K X.mg X.base Ng qg stg g cdg X.A X.stack s H).tr pn xe) Wt) (hW : ∀ cls d σ' H', σ'.length = Ng.length → E cls d H' → Wt cls d σ' H') (hr : Rm G.gd (k + 2) (X.A.deeper (envOfC qg (defScope stg) s.heap.objs.size g cdg)))
    (hbody : ∀ (A : Around) (outer : List Env) (s1 : Shared) (H1 : Hp), Rm G.gd (k + 1) (A.deeper (LamX.lamEnv X scope s1.heap.objs.size f c')) → PE (lamN X A outer s1 H1 E scope f c') body tb)
    (hN : Ng[i]? = some a) (hv : Vis (defScope stg) a) (hd : (a == ("__debug__" : Str)) = false) (hcd : (a == ("__classdict__" : Str)) = false) :
    PE ((XC X.prog X.w X.K X.mg X.base Ng qg stg g cdg X.A X.stack s H).tr pn xe) (.Call (.Name a p1) [] [] p2)
      (fun σZ HZ Q => σZ[i]? = some (some (.ref f)) ∧ HZ c' = some (LamX.CodeO c' (X.env.qual ++ "<lambda>")) ∧ tb σ HZ Q) := by
  constructor
  intro pinsZ sZ σZ HZ Q IZ ⟨hs, hc, ht⟩
  have nm := (pe_var (pos := p1) (i := i) hN hv hd hcd).run pinsZ sZ σZ HZ (fun v H1 => v = .ref f ∧ H1 = HZ) IZ ⟨.ref f, hs, rfl, rfl⟩
  refine wpAny_Call_Name_kw (thn nm ?_)
  rintro u s1 ⟨v, H1, I1, r1, rfl, rfl⟩
  obtain rfl : u = Value.ref f := r1
  have of1 := I1.base.keep f _ hf hfn hfr (fun z => nomatch (show f ∈ ([] : List Addr) from z))
  refine PySem.W.callWith_F0 ⟨_, _, _, _, of1⟩ ?_
  have un : Un (frs X.stack) [] H H1 s.heap s1.heap := I1.base
  obtain ⟨⟨oc, vs, t, hoc, hdc, hvc⟩, _, _⟩ := I1.hok c' _ hc
  have rc : codeAny (model X.prog X.w) (X.A.deeper (envOfC qg (defScope stg) s.heap.objs.size g cdg)) (.call (.ref f) ⟨[], []⟩) (CR (L2N.CX X.prog X.w) (envOfC qg (defScope stg) s.heap.objs.size g cdg :: X.stack) X.prog X.w H1 s1 Q E) s1 := by
    refine PySem.W.kla_callFunE hr.room.depth of1 rfl L.co L.gen rfl ⟨c', oc, vs, t, rfl, hoc, hdc, hvc⟩ ?_
    rw [hbind]
    refine wpAny_pure (wpAny_newFunctionEnv (fun y hy => (L.own y hy).2) (fun y hy => absurd hy (by simp)) ?_ L.kind)
    intro h₁ hns hsb
    refine ⟨I1.nolimit.fresh _ hsb, ?_⟩
    show codeAny _ _ (.expr body (LamX.lamEnv X scope s1.heap.objs.size f c')) _ _
    have kp : ∀ b o, s1.heap.get? b = some o → h₁.get? b = some o := by
      intro b o e
      exact hsb.extBut b o (Nat.ne_of_lt (Heap.lt_size e)) (Heap.get?_push_of_some _ e)
    have J0 := LamX.lam_start2 (E := E) (f := f) (c' := c') (tk := s1.toks + ([] : List (Str × Value)).length) I L I1.env0 hr.room.hd un hns kp
    have J : Inv (lamN X (X.A.deeper (envOfC qg (defScope stg) s.heap.objs.size g cdg)) (envOfC qg (defScope stg) s.heap.objs.size g cdg :: X.stack) s1 H1 E scope f c') [] σ H1 { s1 with heap := h₁, toks := s1.toks + ([] : List (Str × Value)).length } := J0.toTry _
    refine PySem.W.kla_codeExpr (wpAny_mono ((hbody _ _ s1 H1 (hr.deeper _)).run [] _ _ H1 Q J ht) ?_ fun e s' hq => hq)
    rintro v s' ⟨w', H', J', rv, q⟩
    exact ⟨w', H', J'.os, J'.bare, J'.base, J'.hok, rv, q⟩
  refine wpAny_call (codeAny_mono rc ?_)
  intro r s' hq
  rcases r with e | fl
  · exact tk e s' (L2N.XE.of_call I1 (fun cls d H' h => hW cls d σZ H' I1.len h) hq)
  · cases fl with
    | ret u => exact I1.after hq
    | next => exact hq.elim
    | brk => exact hq.elim
    | cont => exact hq.elim
def caughtM (giv : Str) (rp : D → M D) (tc : Nat → D → M D) (m : M D) : M D := fun S => match m S with
  | some (.ok d, S1) => M.bind (rp d) (fun u => M.pure (.lst [.str giv, u])) S1
  | some (.error ⟨c, some d⟩, S1) => tc c d S1
  | _ => none
def CForm (st : Stmt) (giv a n x1 x2 x3 : Str) (b₀ : Stmt) (suite : List Stmt) : Prop := ∃ (j0 kk : Nat) (q0 q1 q2 q3 q4 q5 q6 q7 t1 t2 t3 t4 t5 : Pos),
  defBody st = [.Try [.Return (some (.List [.Constant (.str giv) j0 q0, .Call (.Name "repr" q1) [.Call (.Name a q2) [] [] q3] [] q4] q5)) q6] [.ExceptHandler (some (.Tuple [.Name x1 t1, .Name x2 t2, .Name x3 t3] kk t4)) (some n) (b₀ :: suite) t5] [] [] q7]
structure CaughtT (P : Program) (w : World) (K : PySem.W.Frag) (mg : Str → Option Value) (base : Heap) (G : Sg) (k : Nat) (g : Addr) (x : Str) (giv : Str) (rp : D → M D) (tc : Nat → D → M D) : Prop where
  ex : ∃ (fd : FuncData) (st : Stmt) (Ng : List Str) (a n x1 x2 x3 : Str) (c1 c2 c3 : Value) (i : Nat) (b₀ : Stmt) (suite : List Stmt) (ms : Nat → Option (Addr → Addr → MS)), Fun K x x st g fd ∧ L2.Binds K fd [a] [] ∧ FnScope Ng [a] (defScope st) ∧ CForm st giv a n x1 x2 x3 b₀ suite ∧
    Ng[0]? = some a ∧ Vis (defScope st) a ∧ (a == ("__debug__" : Str)) = false ∧ (a == ("__classdict__" : Str)) = false ∧ Ng[i]? = some n ∧ i ≠ 0 ∧ (defScope st).names.lookup n = some .local ∧
    (∀ (cdv : Value) (A : Around) (fr : List Env) (s : Shared) (H : Hp), Names (XC P w K mg base Ng x st g cdv A fr s H).nox x1 c1 ∧ Names (XC P w K mg base Ng x st g cdv A fr s H).nox x2 c2 ∧ Names (XC P w K mg base Ng x st g cdv A fr s H).nox x3 c3 ∧
      Gl (XC P w K mg base Ng x st g cdv A fr s H) "repr") ∧ mg "repr" = none ∧
    (∀ (cdv : Value) (A : Around) (fr : List Env) (s : Shared) (H : Hp) (pn : List (Addr × Obj)) (xe : Value → Shared → Prop), Ctx G ((XC P w K mg base Ng x st g cdv A fr s H).tr pn xe) NoW k → CallR ((XC P w K mg base Ng x st g cdv A fr s H).tr pn xe) (.builtin "repr") (rDs G (on1 rp))) ∧
    (∀ c d S o, tc c d S = some o → ∃ m u S', ms c = some m ∧ o = (.ok u, S') ∧ ∀ a dd, m a dd ((slots Ng.length []).set i (.val (.raw (.ref a) dd [G.xf c] [d]))) S = some (.ret u, S')) ∧
    (∀ c m, ms c = some m → PySem.W.exmAny K (G.xc c) [c1, c2, c3] = some true ∧
      ∀ (cdv : Value) (A : Around) (fr : List Env) (s : Shared) (H : Hp) (a : Addr) (oe : Obj) (dd : Addr) (pn : List (Addr × Obj)), Rm G.gd (k + 1) (A.deeper (envOfC x (defScope st) s.heap.objs.size g cdv)) → L2N.Zn (G.xc c) (some dd) oe → (∃ vs, oe.data = .fields vs) →
        PSsV G ((XC P w K mg base Ng x st g cdv A fr s H).nox.suite a ((a, oe) :: pn)) NoW (b₀ :: suite) (m a dd))
def isTb (j : Nat) : Ob → Bool
  | .tbl i => i == j
  | _ => false
def hasTbl (j : Nat) (m : M D) : M D := fun S => if S.any (isTb j) = true then m S else none
theorem hasTbl_at {j : Nat} {S : List Ob} (h : S.any (isTb j) = true) : ∃ n : Nat, S[n]? = some (Ob.tbl j) := by
  obtain ⟨o, ho, e⟩ := List.any_eq_true.mp h
  obtain ⟨n, hn⟩ := List.mem_iff_getElem?.mp ho
  cases o with
  | tbl i =>
    have e : i = j := by simpa [isTb] using e
    subst e
    exact ⟨n, hn⟩
  | _ => cases e
theorem vals_one {d : D} {v : V} {w : Wd} (h : RepV G w d v) : RepVs G w [d] [v] := ⟨v, [], rfl, h, rfl⟩
theorem v_lamcall {j : Nat} {cc g : Addr} {x giv : Str} {rp : D → M D} {tc : Nat → D → M D} {params : Arguments} {body : Expr} {scope : Scope} {fe : List SV → M D} {p lpos pos : Pos} (c : Ctx G X W (k + 2)) (C : CaughtT X.prog X.w X.K X.mg X.base G (k + 1) g x giv rp tc)
    (hg : Gl X x) (hm : X.mg x = some (.ref g)) (hdb : (x == ("__debug__" : Str)) = false) (TB : LamX.TabB X.base X.mg cc (G.ta j)) (hcode : X.env.code = .ref cc) (hq : G.tq j = X.env.qual ++ "<lambda>") (L : LamX.LamS X.env.scope scope) (hdef : defaultsOf params X.env = ([], []))
    (hbind : ∀ (q : Str) (cl : List (Str × Addr)) (pm cv ctv : Value), bindArgs (PySem.W.kla_fn "<lambda>" q params body scope cl pm cv ctv) ⟨[], []⟩ = pure [])
    (hl : ∀ (A : Around) (outer : List Env) (s : Shared) (H : Hp) (E : XK) (f c' : Addr), Ctx G (lamN X A outer s H E scope f c') (WF E) k → PV G (lamN X A outer s H E scope f c') (WF E) body fe) :
    PV G X W (.Call (.Name x p) [.Lambda params body scope lpos] [] pos) (fun sd => hasTbl j (caughtM giv rp tc (fe sd))) := by
  constructor
  intro pins s σ H Q I ⟨w0, w, sd, S, eH, r, q⟩
  simp only [hasTbl] at q
  split at q
  case isFalse => exact q.elim
  next hany =>
  obtain ⟨n, hj⟩ := hasTbl_at hany
  obtain ⟨fd, st, Ng, a, nn, x1, x2, x3, c1, c2, c3, i, b₀, suite, ms, F, hb, SC, cf, h0, hva, ha1, ha2, hi, hi0, hln, hnm, hrm, hrp, htc, hms⟩ := C.ex
  obtain ⟨oc, od, kV, doc, pm, an, cdv, ct, osl, rfl, lk, hcd⟩ := F.ex
  subst eH
  refine wpAny_Call_Name_kw (ld_glob I hg hm ?_ hdb)
  refine PySem.W.callWith_K (h₀ := X.base) I.ok.mod.kin F.kp ?_ (by rfl) (by rfl)
  show wpAny _ _ (spliced ((false, eval (.Lambda params body scope lpos) X.env) :: backTo pos (starEach [] X.env))) _ _ s
  refine Calls.spliced_cons (lam_make3 I r.st hj TB hcode hq hdef (L.has I.ok) ?_)
  intro f c' pm' ctv w1 s1 I1 e1 st1 hf hfn hfr fc hco
  have r1 : R G w0 w1 sd S σ := r.step e1 st1
  have q1 := FinG.ext e1 q
  refine Calls.spliced_nil ⟨I1.kIn, ?_⟩
  have rc : codeAny (model X.prog X.w) X.A (.call (.ref g) ⟨[.ref f], []⟩) (CR C8.CX0 X.stack X.prog X.w w1.H s1 Q C8.E0) s1 := by
    refine LamX.run_ofS (N := Ng) (ps := [a]) (us := [.ref f]) (vs := [.ref f]) lk hcd SC (k := k + 2) c.rm.room I1.env0 (hb s1 [.ref f] I1.kIn rfl) (.cons rfl .nil) rfl ?_
    intro hroom
    have hr2 : Rm G.gd (k + 2) (X.A.deeper (envOfC x (defScope st) s1.heap.objs.size g cdv)) := ⟨hroom, c.rm.gd⟩
    obtain ⟨j0, kk, q0, q1', q2, q3, q4, q5, q6, q7, t1, t2, t3, t4, t5, eb⟩ := cf
    obtain ⟨nm1, nm2, nm3, glr⟩ := hnm cdv X.A X.stack s1 w1.H
    rw [eb]
    let ts : Addr → Value → Option Addr → TS := fun ea cls d En σ' H' => ∃ cx m dd, ms cx = some m ∧ cls = G.xc cx ∧ d = some dd ∧ tsV G NoW (m ea dd) En σ' H'
    let tb : WX → TS := fun Wt En σ' H' => ∃ Ech : XK, (∀ cls d σ2 H2, σ2.length = Ng.length → Ech cls d H2 → Wt cls d σ2 H2) ∧ σ'[0]? = some (some (.ref f)) ∧ H' c' = some (LamX.CodeO c' (X.env.qual ++ "<lambda>")) ∧
      teV G (WF Ech) fe σ H' fun v H2 => rDs G (on1 rp) [v] H2 fun u H3 => [V.str giv, u].length ≤ sizeLine ∧ ∀ p, H3 p = none → En.rt (.ref p) (upd H3 p (.lst [.str giv, u]))
    refine ⟨_, (pss_one (s_try3 (X := (XC X.prog X.w X.K X.mg X.base Ng x st g cdv X.A X.stack s1 w1.H).nox) (ts := ts) (tb := tb) rfl rfl SC.nd hi hln nm1 nm2 nm3 ?_ ?_)).nox, ?_⟩
    · intro Wt pn xe tk po
      constructor
      rintro pins' s' σ' H' En I' ⟨Ech, hW, h1, h2, h3⟩
      have hp := act3 (k := k) (i := 0) (p1 := q2) (p2 := q3) I1 L hf hfn hfr (hbind _ _ _ _ _) tk hW hr2 (fun A outer sz Hz hrz => hl A outer sz Hz Ech f c' (ctxL c.cK c.nd hrz)) h0 hva ha1 ha2
      have cz : Ctx G ((XC X.prog X.w X.K X.mg X.base Ng x st g cdv X.A X.stack s1 w1.H).tr pn xe) NoW (k + 1) := by
        refine ⟨c.cK, rfl, hr2, SC.nd, fun σ pins H s e s' I c => ?_, po⟩
        obtain ⟨_, _, _, _, _, _, _, _, _, _, _, _, z⟩ := c
        exact z.elim
      have hrep := hrp cdv X.A X.stack s1 w1.H pn xe cz
      have hq := pss_one (ps_ret (pos := q6) (pe_lst (pos := q5) (pa_cons (show PE _ (.Constant (.str giv) j0 q0) (tC (.str giv)) from pe_str) (pa_cons (pe_callB (p := q1') (pos := q4) hrep glr hrm (by decide +kernel) (pa_cons hp pa_nil)) pa_nil))))
      exact hq.run pins' s' σ' H' En I' ⟨h1, h2, h3⟩
    · intro ea oe cls d pn hz hv
      constructor
      rintro pins' s' σ' H' En I' ⟨cx, m, dd, hm', rfl, rfl, h'⟩
      exact ((hms cx m hm').2 cdv X.A X.stack s1 w1.H ea oe dd pn hr2 hz hv).run pins' s' σ' H' En I' h'
    · let Ech : XK := fun cls d H2 => ∃ w2 S2 e, w2.H = H2 ∧ Ext w1 w2 ∧ RepS G w2 S2 ∧ RepX G w2 e cls d ∧ FinG G (RepV G) (fun c x H => W c x σ H) w1 Q (match e with | ⟨cx, some dv⟩ => tc cx dv S2 | _ => none)
      refine ⟨Ech, ?_, start_get (vs := [.ref f]) (i := 0) rfl, hco, w0, w1, sd, S, rfl, r1, ?_⟩
      · rintro cls d σ2 H2 hln2 ⟨w2, S2, ⟨cx, ao⟩, rfl, e12, st2, rx, q2⟩
        rcases ao with _ | dv
        · exact q2.elim
        · simp only at q2
          rcases ho : tc cx dv S2 with _ | o
          · rw [ho] at q2; exact q2.elim
          · rw [ho] at q2
            obtain ⟨m, u, S', hm', rfl, hfin⟩ := htc cx dv S2 o ho
            obtain ⟨rfl, dd, v, rfl, fd, hd, rv⟩ := rx
            refine ⟨(hms cx m hm').1, fun ea na => ⟨cx, m, dd, hm', rfl, rfl, w2, w2, _, S2, rfl, R.setv (d := .raw (.ref ea) dd [G.xf cx] [dv]) (v := .ref ea) (sd := slots Ng.length []) ?_ ⟨rfl, [v], .inr ⟨fd, hd⟩, vals_one rv⟩ i, ?_⟩⟩
            · have no : ∀ {z : Nat} {y : SV}, (slots Ng.length [])[z]? = some y → y = .no := by
                intro z y hz
                unfold slots at hz
                rw [List.nil_append, List.getElem?_replicate] at hz
                split at hz
                · exact (Option.some.inj hz).symm
                · cases hz
              refine ⟨Ext.refl w2, st2, by rw [hln2]; simp [slots], fun z y h => ?_, fun z o h => ?_, fun z z' o o' b h => ?_, fun b o _ h => ?_⟩
              · cases no h
              · cases no h
              · cases no h
              · cases no h
            · rw [hfin ea dd]
              intro w' v' e' s' rv'
              exact q2 w' v' (e12.trans e') s' rv'
      · unfold caughtM at q1
        rcases hf1 : fe sd S with _ | ⟨⟨cx, ao⟩ | d, S1⟩
        · rw [hf1] at q1; exact q1.elim
        · rw [hf1] at q1
          intro w' cls xx e' s' rx
          refine ⟨w', S1, ⟨cx, ao⟩, rfl, e', s', rx, ?_⟩
          rcases ao with _ | dv
          · exact q1
          · exact q1
        · rw [hf1] at q1
          intro w' v e' s' rv
          refine ⟨_, w', S1, [d], rfl, s', vals_one rv, fin_step (FinG.ext e' q1) fun w3 S3 d3 v3 e3 s3 rv3 q3 => ⟨by size_fits, fun p hp => ?_⟩⟩
          exact q3 (w3.frz p (.lst [.str giv, v3])) _ (Ext.frz hp) (s3.frz hp) ⟨p, _, rfl, .inr rfl, upd_same, ⟨.str giv, [v3], rfl, rfl, vals_one (RepV.mono (Ext.frz hp) s3.dj _ _ rv3)⟩⟩
  refine wpAny_call (codeAny_mono rc ?_)
  intro res s2 hq2
  rcases res with e | fl
  · exact (show False from hq2).elim
  · cases fl with
    | ret u => exact I1.after hq2
    | next => exact hq2.elim
    | brk => exact hq2.elim
    | cont => exact hq2.elim
end
end Ev
set_option maxRecDepth 100000
set_option maxHeartbeats 4000000
namespace Ev
open PySem PySem.Spec PyProof.Rows L2
section
variable {prog : Program} {w : World} {A : Around} {E : Value → Shared → Prop} {s : Shared} {K : PySem.W.Frag} {x Dc : Addr} {ox od : Obj}
open PySem.W PySem.Calls in
theorem err_class {Q : Option Value → Shared → Prop} (C : ExcC K Dc) (X : K.In s.heap) (I : PySem.W.InstAt s.heap x ox Dc (some od)) (h : Q (some (.ref Dc)) { s with toks := s.toks + 1 }) : wpAny (model prog w) A (getAttr? (.ref x) "__class__") Q E s := by
  have hc : (clsIn K Dc).isSome = true := by
    obtain ⟨cd, hc, _⟩ := any_some C.hd
    rw [hc]
    rfl
  have hf : findObj K Dc (some od) "__class__" = some (.bind (.builtin "getset_descriptor.__get__") (.builtin "object.__class__")) := findObj_data hc C.ha C.hn C.ht
  obtain ⟨hp, g, dr, t, os⟩ := s
  have Lt := I.type (M := model prog w)
  have Lg := looks_findIn (M := model prog w) X C.hg
  have Lh := looks_findIn (M := model prog w) X C.hk
  have Lf := looks_find (M := model prog w) X I hf
  have sub : Looks (model prog w) hp (isInstance (.ref x) (.type "BaseException")) true := Lt.andThen (looks_subIn X C.hs)
  have b0 : (false && onTheHeap (Value.builtin "BaseException.__getattribute__")) = false := rfl
  have b2 : (Value.builtin "BaseException.__getattribute__" == Value.builtin "object.__getattribute__") = false := by decide +kernel
  have b1 : (onTheHeap (Value.ref Dc) && Value.builtin "BaseException.__getattribute__" == Value.builtin "object.__getattribute__") = false := by
    rw [b2]
    rfl
  unfold getAttr? getAttrBy? getAttrBy
  refine wpAny_bind (wpAny_mkText (wpAny_bind (wpAny_attempt (wpAny_holding (wpAny_bind (Lt.at (wpAny_bind (Lg.at ?_))))))))
  show wpAny _ _ (if (onTheHeap (Value.ref Dc) && Value.builtin "BaseException.__getattribute__" == Value.builtin "object.__getattribute__") = true then _ else _) _ _ _
  rw [b1, if_neg Bool.false_ne_true]
  unfold getAttrByItsOwn hookBefore
  refine wpAny_bind ?_
  rw [if_pos (show onTheHeap (Value.ref Dc) = true from rfl)]
  refine Lh.at ?_
  refine wpAny_bind (wpAny_attempt (wpAny_holding ?_))
  unfold callGetattribute
  rw [b0, if_neg Bool.false_ne_true]
  unfold boundAndCalled
  rw [PySem.F.excAttr_ValueError.ga.bind (.ref x)]
  refine wpAny_bind (wpAny_pure ?_)
  show wpAny _ _ (call (.builtin "BaseException.__getattribute__") [.ref x, .str "__class__" t]) _ _ _
  refine wpAny_call (codeAny_call_builtin PySem.F.excAttr_ValueError.ga.plain PySem.F.entry_bexc_ga ?_)
  refine @check_slot (model prog w) _ _ ⟨hp, g, dr, t + 1, os⟩ "BaseException.__getattribute__" "BaseException" "__getattribute__" (.ref x) [.str "__class__" t] [] _ (by decide +kernel) (by decide +kernel) sub (PySem.F.args_bexc_ga (.ref x) (.str "__class__" t)) ?_
  unfold Builtin.«object.__getattribute__»
  refine wpAny_bind (wpAny_of_eq (a := ((Value.ref x : Value), [Value.str "__class__" t])) (by first | rfl | (simp only [slotArgs]; rfl)) ?_)
  refine wpAny_bind (wpAny_pure (wpAny_bind (Lt.at (wpAny_bind (Lf.at ?_)))))
  show wpAny _ _ (holding [Value.builtin "object.__class__"] (call (.builtin "getset_descriptor.__get__") [.builtin "object.__class__", .ref x, .ref Dc]) >>= ret) _ _ _
  refine wpAny_bind (wpAny_holding (wpAny_call (class_get (s := ⟨hp, g, dr, t + 1, os⟩) (ox := ox) (od := some od) X I C.hm ?_)))
  refine wpAny_pure ?_
  show wpAny _ _ (handedOut (.ref Dc)) _ _ _
  rw [handedOut_of (v := .ref Dc) rfl]
  first
    | exact wpAny_pure (wpAny_pure h)
    | exact wpAny_pure h
    | exact wpAny_pure (wpAny_bind (wpAny_pure (wpAny_pure h)))
open PySem.W in
theorem err_kit (C : ExcC K Dc) : PySem.W.KitX K (.ref x) (.ref Dc) (fun h => ∃ ox od, PySem.W.InstAt h x ox Dc (some od)) := by
  have cls : ∃ cd, clsIn K Dc = some cd := by
    obtain ⟨cd, hc, _⟩ := any_some C.hd
    exact ⟨cd, hc⟩
  have own : ∃ c' d' cd' sl', K.lookup Dc = some ⟨c', d', .cls cd', sl'⟩ := by
    obtain ⟨cd, hc⟩ := cls
    unfold clsIn at hc
    split at hc
    · rename_i c' d' cd' sl' ho
      exact ⟨c', d', cd', sl', ho⟩
    · cases hc
  obtain ⟨c', d', cd', sl', ho⟩ := own
  refine ⟨fun M h X I => ?_, fun M h X I => ?_, fun h tp dd its n sl X htp => ?_, fun X I k => ?_⟩
  · obtain ⟨ox, od, I⟩ := I
    exact I.type
  · intro A' Q' E' s' k q
    unfold isType loadHead
    exact wpAny_bind (wpAny_loadPart (k _ _ (X _ _ ho)) (wpAny_pure q))
  · refine Bool.eq_false_iff.mpr fun q => ?_
    have e : Dc = tp := Value.ref.inj (beq_iff_eq.mp q)
    rw [← e, X _ _ ho] at htp
    cases htp
  · obtain ⟨ox, od, I⟩ := I
    exact err_class C X I k
end
structure CtxH (G : Sg) (X : Cx) (k : Nat) (a dd : Addr) (Dc : Addr) : Prop where
  cK : G.K = X.K
  nd : X.N.Nodup
  room : L2H.RoomH k X.A
  gd : G.gd = true → X.A.guards = some []
  pin : ∃ o : Obj, (a, o) ∈ X.pn ∧ L2H.Hot1 X.A (a, o) ∧ L2N.Zn (.ref Dc) (some dd) o ∧ ∃ vs, o.data = .fields vs
theorem vals2 {v1 v2 : V} {us : List Value} (h : Vals [v1, v2] us) : ∃ u1 u2, us = [u1, u2] ∧ RelV v1 u1 ∧ RelV v2 u2 := by
  cases h with
  | cons a h =>
    cases h with
    | cons b h =>
      cases h
      exact ⟨_, _, rfl, a, b⟩
section
variable {G : Sg} {X : Cx} {W : WX} {k : Nat} {a dd Dc : Addr}
theorem CtxH.inst {pins : List (Addr × Obj)} {σ : L2.St} {H : Hp} {s : Shared} {fs : List (Str × V)} (c : CtxH G X k a dd Dc) (I : Inv X pins σ H s) (hd : H dd = some (.xd fs)) : ∃ (ox od : Obj) (mA : Str → Option Value), PySem.W.InstAt s.heap a ox Dc (some od) ∧ (∀ name, PySem.W.lookIn name od = some (mA name)) ∧ ∀ n, RelO (fs.lookup n) (mA n) := by
  obtain ⟨o, h1, h2, hz, vs, hv⟩ := c.pin
  obtain ⟨ha, _⟩ := I.pin (a, o) (List.mem_append_left _ h1)
  obtain ⟨mA, hns, hr⟩ := I.hok dd _ hd
  obtain ⟨od, ho, hl⟩ := lookIn_ns hns
  refine ⟨o, od, mA, ⟨ha, hz.1, ?_, by rw [hz.2.1]; exact ho⟩, hl, hr⟩
  unfold PySem.W.notCls
  rw [hv] <;> rfl
def isaH (a dd : Addr) (sub : Nat → Option Bool) (bt : String → Option Bool) : D → D → M D
  | .raw (.ref b) d2 (_ :: _) _, .cls c => if b = a ∧ d2 = dd then (match sub c with | some r => M.pure (.bl r) | none => M.stuck) else M.stuck
  | .raw (.ref b) d2 (_ :: _) _, .raw (.ty n) _ _ _ => if b = a ∧ d2 = dd then (match bt n with | some r => M.pure (.bl r) | none => M.stuck) else M.stuck
  | _, _ => M.stuck
theorem raw_at {w : Wd} {u v : V} {d2 : Addr} {f : Str} {fs : List Str} {ds : List D} (h : RepV G w (.raw u d2 (f :: fs) ds) v) : v = u ∧ ∃ vs, w.H d2 = some (.xd ((f :: fs).zip vs)) ∧ RepVs G w ds vs := by
  obtain ⟨e, vs, h1, h2⟩ := h
  rcases h1 with h1 | h1
  · cases h1
  · exact ⟨e, vs, h1.2, h2⟩
structure IsaH (G : Sg) (K : PySem.W.Frag) (Dc : Addr) (sub : Nat → Option Bool) (bt : String → Option Bool) : Prop where
  ex : ExcC K Dc
  cl : ∀ c b, sub c = some b → PySem.W.kitOne K (.ref Dc) (.ref (G.ca c)) = some b
  ty : ∀ n b, bt n = some b → PySem.W.kitOne K (.ref Dc) (.type n) = some b
theorem c_isaH {sub : Nat → Option Bool} {bt : String → Option Bool} (c : CtxH G X k a dd Dc) (T : IsaH G X.K Dc sub bt) : CallR X (.builtin "isinstance") (rDs G (on2 (isaH a dd sub bt))) := by
  intro pins s σ H xs us Q I rx ⟨W', w, S, ds, eH, st, rv, q⟩
  subst eH
  rcases ds with _ | ⟨x, _ | ⟨y, _ | ⟨z, ds⟩⟩⟩
  · exact q.elim
  · exact q.elim
  · obtain ⟨v1, r1, rfl, rv1, v2, r2, rfl, rv2, hnil⟩ := rv
    obtain rfl : r2 = [] := hnil
    obtain ⟨u1, u2, rfl, ru1, ru2⟩ := vals2 rx
    have key : ∀ {b d2 : Addr} {f : Str} {fs : List Str} {es : List D} {b' : Bool} {W' : Value → Option Addr → Hp → Prop}, x = .raw (.ref b) d2 (f :: fs) es → b = a → d2 = dd → PySem.W.kitOne X.K (.ref Dc) u2 = some b' → FinG G (RepV G) W' w Q (M.pure (.bl b') S) →
        wpAny (model X.prog X.w) X.A (call (.builtin "isinstance") [u1, u2]) (EP X pins σ Q) X.xe s := by
      intro b d2 f fs es b' W' ex eb ed hk qk
      subst ex eb ed
      obtain ⟨ev, vs, hd, _⟩ := raw_at rv1
      subst ev
      obtain rfl : u1 = Value.ref b := ru1
      obtain ⟨ox, od, mA, J, _⟩ := c.inst I hd
      have fin : Q (.bl b') w.H := fin_pure (rep := RepV G) (a := D.bl b') (b := V.bl b') qk st rfl
      exact PySem.W.kia_one (err_kit T.ex) I.kIn ⟨ox, od, J⟩ hk (fun z => nomatch z) fun tk => ⟨.bl b', w.H, I.kept (t' := tk) fun _ _ z => z, rfl, fin⟩
    replace q : FinG G (RepV G) W' w Q (isaH a dd sub bt x y S) := q
    unfold isaH at q
    split at q
    · next x1 y1 b d2 f fs es c2 =>
      obtain ⟨⟨h1, h2⟩, q2⟩ := FinG.ite q
      rcases hr : sub c2 with _ | r
      · rw [hr] at q2; exact q2.elim
      · rw [hr] at q2
        obtain rfl : v2 = V.ref (G.ca c2) := rv2
        obtain rfl : u2 = Value.ref (G.ca c2) := ru2
        exact key rfl h1 h2 (T.cl _ _ hr) q2
    · next x1 y1 b d2 f fs es n d3 f3 e3 =>
      obtain ⟨⟨h1, h2⟩, q2⟩ := FinG.ite q
      rcases hr : bt n with _ | r
      · rw [hr] at q2; exact q2.elim
      · rw [hr] at q2
        obtain ⟨rfl, _⟩ := rv2
        obtain rfl : u2 = Value.type n := ru2
        exact key rfl h1 h2 (T.ty _ _ hr) q2
    · exact q.elim
  · exact q.elim
theorem v_tyX {x : Str} {n : String} {pos : Pos} (hg : Gl X x) (hm : X.mg x = none) (hv : bootBuiltins x = some (.type n)) (hn : x ≠ "__name__") (hd : (x == ("__debug__" : Str)) = false) : PV G X W (.Name x pos) (fun _ => M.pure (.raw (.ty n) 0 [] [])) := by
  constructor
  intro pins s σ H Q I ⟨w0, w, sd, S, eH, r, q⟩
  subst eH
  exact ld_blt I hg hm hv ⟨.ty n, w.H, I, rfl, fin_pure q r.st ⟨rfl, [], .inl rfl, rfl⟩⟩ hn hd
def attrH (a dd : Addr) (n : Str) : D → M D
  | .raw (.ref b) d2 [f] [d] => if b = a ∧ d2 = dd ∧ f = n then M.pure d else M.stuck
  | _ => M.stuck
theorem v_attrH {e : Expr} {fe : List SV → M D} {n : Str} {pos : Pos} (c : CtxH G X k a dd Dc) (T : XfC X.K Dc) (hno : PySem.W.findIn X.K (.ref Dc) n = some none) (he : PV G X W e fe) (hb : plainBase e = true) : PV G X W (.Attribute e n pos) (fun sd => M.bind (fe sd) (attrH a dd n)) := by
  constructor
  intro pins s σ H Q I ⟨w0, w, sd, S, eH, r, q⟩
  refine attr_of (attr_base hb) (thn (he.run pins s σ H (fun v H1 => ∃ w1 S1 d, w1.H = H1 ∧ RepS G w1 S1 ∧ RepV G w1 d v ∧ FinG G (RepV G) (fun c x H => W c x σ H) w1 Q (attrH a dd n d S1)) I ?_) ?_)
  · exact ⟨w0, w, sd, S, eH, r, fin_step q fun w1 S1 d v e1 s1 rv q1 => ⟨w1, S1, d, rfl, s1, rv, q1⟩⟩
  · rintro u s1 ⟨v, H1, I1, rv, w1, S1, d, eH1, s1', rd, q1⟩
    subst eH1
    unfold attrH at q1
    split at q1
    · next b d2 f dv =>
      obtain ⟨⟨h1, h2, h3⟩, q2⟩ := FinG.ite q1
      clear q1
      subst h1 h2 h3
      obtain ⟨ev, vs, hd, rvs⟩ := raw_at rd
      obtain ⟨v1, r1, rfl, rv1, hn1⟩ := rvs
      obtain rfl : r1 = [] := hn1
      subst ev
      obtain rfl : u = Value.ref b := rv
      obtain ⟨ox, od, mA, J, hl, hr⟩ := c.inst I1 hd
      have hz := hr f
      rw [show ([f].zip [v1]).lookup f = some v1 by simp [List.zip]] at hz
      obtain ⟨u1, hu, ru⟩ := RelO.some_of hz
      exact HandSPX.exc_get I1.kIn J T.ga T.gg T.exC (PySem.W.findObj_own T.hdC hno rfl (by rw [hl, hu])) (handed_of ru) ⟨v1, w1.H, I1.tok _, ru, fin_pure q2 s1' rv1⟩
    · exact q1.elim
end
end Ev
set_option maxRecDepth 100000
set_option maxHeartbeats 4000000
namespace Ev
open PySem PySem.Spec PyProof.Rows L2
abbrev blkH (X : Cx) (s : Shared) (H : Hp) (scope : Scope) (cenv : Env) (fp : List Addr) (p : Addr × Obj) : Cx := (X.blk s H scope cenv fp).tr [p] fun _ _ => False
section
variable {X : Cx}
theorem lc_hot {pins : List (Addr × Obj)} {s : Shared} {σ : L2.St} {H : Hp} {Q : VK} {elt tg iter : Expr} {ifs : List Expr} {scope : Scope} {own : List (Str × Nat)} {pos pos' : Pos} {wi : TI} {g : TG} {tt : TT} {te : TE} {Qf : Value → Shared → Prop} {p : Addr × Obj}
    (hot : L2H.Hot1 X.A p) (hp : p ∈ X.pn) (hN : X.N.Nodup) (I : Inv X pins σ H s) (hi : L2H.PIH X tg iter wi) (ok : BlkOk X.N X.env.scope scope own)
    (hg : ∀ (s : Shared) (H : Hp) (C : Addr) (cl : List (Str × Addr)) (fp : List Addr), PG (blkH X s H scope (compEnvC scope cl C X.env) fp p) tg g) (ht : ∀ (s : Shared) (H : Hp) (C : Addr) (cl : List (Str × Addr)) (fp : List Addr), PTs (blkH X s H scope (compEnvC scope cl C X.env) fp p) ifs tt)
    (he : ∀ (s : Shared) (H : Hp) (C : Addr) (cl : List (Str × Addr)) (fp : List Addr), PE (blkH X s H scope (compEnvC scope cl C X.env) fp p) elt te) (hs : ∀ x, foldedSetIterable iter X.env x = pure x)
    (h : tLc wi g tt te (own.map (·.2)) σ H Q)
    (hRR : ∀ Dl C s' m H', Inv X pins σ H' s' → Q (.ref Dl) H' → s'.heap.Ns C m → FpOk X pins H' C → compPost (model X.prog X.w) X.A X.xe none Qf (.ref Dl) C (.ok .next) s') :
    wpAny (model X.prog X.w) X.A (comprehension (.ListComp elt [⟨tg, iter, ifs, 0⟩] scope pos) scope X.env pos' (newList []) false (eval iter X.env) none) Qf X.xe s := by
  have hfree : ∀ y ∈ scope.names, y.2 = .free → ∃ c, X.env.cells.lookup y.1 = some c := by
    intro y hy e
    exact (ok.free y hy e).elim (fun k => I.ok.has _ (.inl k)) (fun k => I.ok.has _ (.inr k))
  have uniq : ∀ y ∈ scope.names, y.2 = .local → _ := fun y hy e => by
    have z := ok.uniq y hy
    rw [e] at z
    exact z
  refine wpAny_comprehension_free (use := none) rfl hs (closure_ok hfree) ok.kind uniq (thn (hi.run pins s σ H _ I h) fun xv sa hx => thn hx fun itv sb h2 => ?_)
  obtain ⟨it, fp, tn, J, Hb, rfl, Ib, T, stb, fb, q⟩ := h2
  refine wpAny_newObj_type (newEnv_comp ?_) (by show 0 ≤ sizeLine; decide)
  generalize hL : sb.heap.objs.size = L
  have freeL : Hb L = none := Ib.hok.fresh (Nat.le_of_eq hL)
  obtain ⟨Wn, ⟨m0, w0⟩, turn⟩ := q L freeL
  generalize hsc : ({ sb with heap := sb.heap.push { cls := .type "list", data := .seq ([] : List Value).toArray } } : Shared) = sc
  have Ic : Inv X pins σ (upd Hb L (.lst [])) sc := by
    rw [← hsc]
    refine Ib.laid (t' := sb.toks) (fun b o e => Heap.get?_push_of_some _ e) (Nat.le_of_eq hL) ⟨Nat.zero_le _, [], 0, .nil, ?_⟩
    rw [← hL]
    exact Heap.get?_push_size _ rfl
  have hc : sc.heap = sb.heap.push { cls := .type "list", data := .seq ([] : List Value).toArray } := by
    rw [← hsc]
  have fc : ∀ b ∈ fp, FpOk X pins (upd Hb L (.lst [])) b ∧ b < sc.heap.objs.size := by
    intro b hb
    obtain ⟨o, e, _⟩ := T.obj _ _ stb b hb
    have lt : b < sb.heap.objs.size := Heap.lt_size e
    refine ⟨⟨?_, (fb b hb).2⟩, ?_⟩
    · rw [upd_ne (by rw [← hL]; exact Nat.ne_of_lt lt)]
      exact (fb b hb).1
    · rw [hc, Heap.size_push]
      exact Nat.lt_succ_of_lt lt
  have stc : tn 0 sc.heap := T.keep _ _ _ stb fun b _ o e => by
    rw [hc]
    exact Heap.get?_push_of_some _ e
  have Pc := Ic.pin p (List.mem_append_left _ hp)
  have Id0 := block_start Ic ok hN fc
  have pg := hg sc (upd Hb L (.lst [])) sc.heap.objs.size (cellsFrom (sc.heap.objs.size + 1) scope.names (cloFrom X.env.cells scope.names [])) fp
  have pt := ht sc (upd Hb L (.lst [])) sc.heap.objs.size (cellsFrom (sc.heap.objs.size + 1) scope.names (cloFrom X.env.cells scope.names [])) fp
  have pe := he sc (upd Hb L (.lst [])) sc.heap.objs.size (cellsFrom (sc.heap.objs.size + 1) scope.names (cloFrom X.env.cells scope.names [])) fp
  show codeAny _ _ (.compStart (.ListComp elt [⟨tg, iter, ifs, 0⟩] scope pos) 0 (.ref it) (.ref L) (compEnvC scope (cellsFrom (sc.heap.objs.size + 1) scope.names (cloFrom X.env.cells scope.names [])) sc.heap.objs.size X.env)) (compPost (model X.prog X.w) X.A X.xe none Qf (.ref L) sc.heap.objs.size) { sc with heap := pushCells (sc.heap.push { cls := .type "dict", data := .dict #[] }) scope.names }
  have nfp : ∀ b ∈ fp, (upd Hb L (.lst [])) b = none := fun b hb => (fc b hb).1.1
  generalize hce : compEnvC scope (cellsFrom (sc.heap.objs.size + 1) scope.names (cloFrom X.env.cells scope.names [])) sc.heap.objs.size X.env = ce at Id0 pg pt pe ⊢
  have cL : ce.locals = sc.heap.objs.size := by
    subst hce
    rfl
  generalize hHc : upd Hb L (.lst []) = Hc at Ic Id0 pg pt pe w0 nfp fc Pc
  have kd : ∀ b o, sc.heap.get? b = some o → (pushCells (sc.heap.push { cls := .type "dict", data := .dict #[] }) scope.names).get? b = some o := fun b o e => pushCells_keeps _ _ _ _ (Heap.get?_push_of_some _ e)
  generalize hsd : ({ sc with heap := pushCells (sc.heap.push { cls := .type "dict", data := .dict #[] }) scope.names } : Shared) = sd at Id0 ⊢
  have std : tn 0 sd.heap := T.keep _ _ _ stc fun b _ o e => by
    rw [← hsd]
    exact kd b o e
  have Id : Inv (blkH X sc Hc scope ce fp p) [] (wipe σ (own.map (·.2))) Hc sd := by
    refine Inv.toTry (pins := [p]) (Id0.pins_of fun q hq => ?_) fun _ _ => False
    obtain rfl : q = p := by simpa using hq
    refine ⟨by rw [← hsd]; exact kd _ _ Pc.1, Pc.2.1, ?_, fun hm => ?_, Pc.2.2.2.2⟩
    · show q.1 ≠ ce.locals
      rw [cL]
      exact Nat.ne_of_lt (Heap.lt_size Pc.1)
    · exact (List.mem_cons.mp (Ic.stkSub q.1 hm)).elim Pc.2.2.1 Pc.2.2.2.1
  have hotY : L2H.HotC (blkH X sc Hc scope ce fp p) := ⟨p, hot, List.mem_singleton.mpr rfl⟩
  have stat : ∀ {σ' : L2.St} {H' : Hp} {s' : Shared}, Inv (blkH X sc Hc scope ce fp p) [] σ' H' s' → (∀ b ∈ fp, H' b = none) → ∀ b ∈ fp, FpOk (blkH X sc Hc scope ce fp p) [] H' b := by
    intro σ' H' s' I' hn b hb
    refine ⟨hn b hb, (I'.ok.exf b hb).1, I'.ok.exfs b hb, .inl hb, fun x c e => (I'.ok.exf b hb).2 x c e, fun q hq => ?_⟩
    have hq : q ∈ [p] ++ ([] : List (Addr × Obj)) := hq
    obtain rfl : q = p := by simpa using hq
    exact (fc b hb).1.2.2.2.2.2 q (List.mem_append_left _ hp)
  have loop : codeAny (model X.prog X.w) X.A (.compLoop (.ListComp elt [⟨tg, iter, ifs, 0⟩] scope pos) 0 (.ref it) (.ref L) ce) (compPost (model X.prog X.w) X.A X.xe none Qf (.ref L) sc.heap.objs.size) sd := by
    refine compLoop_any (fun n s' => ∃ i H', Inv (blkH X sc Hc scope ce fp p) [] (wipe σ (own.map (·.2))) H' s' ∧ tn i s'.heap ∧ (∀ b ∈ fp, H' b = none) ∧ Wn i n H') ?_ m0 ⟨0, Hc, Id, std, nfp, w0⟩
    rintro n se ⟨i, He, Ie, ste, ne, we⟩
    rcases turn i n He we with ⟨stop, qq⟩ | ⟨go, Nx, hNx, step⟩
    · refine thnF (T.done (blkH X sc Hc scope ce fp p) rfl rfl rfl hotY i [] se _ He (fun _ _ => False) Ie (stat Ie ne) ste stop) ?_
      rintro r sf ⟨rfl, If⟩
      have Ig : Inv X pins σ He sf := Ic.call' (ch := fp) If.os If.base If.hok If.bare fun b hb => ⟨(fc b hb).1.2.2.2.1, (fc b hb).1.2.1, (fc b hb).1.2.2.2.2.1, (fc b hb).1.2.2.2.2.2⟩
      have nC : He sc.heap.objs.size = none := by
        rw [← cL]
        exact If.free
      obtain ⟨m, hn, _⟩ := If.loc
      have hn : sf.heap.Ns ce.locals m := hn
      rw [cL] at hn
      exact hRR L sc.heap.objs.size sf m He Ig qq hn (Ic.fpOk (Nat.le_refl _) nC)
    · refine thnF (T.item (blkH X sc Hc scope ce fp p) rfl rfl rfl hotY i [] se _ He (fun _ _ => False) Ie (stat Ie ne) ste go) ?_
      rintro r sf ⟨u, rfl, hf⟩
      refine thnF hf ?_
      rintro _ sg ⟨x, Hg, Ig, rg, yg, stg, ng⟩
      have Ig' := Ig.pinned (stat Ig ng) (T.obj _ _ stg)
      refine thnF (pg.run _ sg _ Hg x u _ Ig' rg (step x Hg yg)) ?_
      rintro _ sh ⟨σh, Hh, Ih, wh, qh⟩
      refine thnF (pt.run _ sh σh Hh _ Ih qh) ?_
      rintro b sk ⟨Hk, Ik, qk⟩
      have fin : ∀ {s' : Shared} {H' : Hp}, Inv (blkH X sc Hc scope ce fp p) ([] ++ pinsAt fp sg.heap) σh H' s' → Nx H' → ∃ m, m < n ∧ ∃ i H', Inv (blkH X sc Hc scope ce fp p) [] (wipe σ (own.map (·.2))) H' s' ∧ tn i s'.heap ∧ (∀ b ∈ fp, H' b = none) ∧ Wn i m H' := by
        intro s' H' I' nx
        obtain ⟨m', hm, w'⟩ := hNx H' nx
        have at_ : ∀ b ∈ fp, ∀ o, sg.heap.get? b = some o → s'.heap.get? b = some o ∧ H' b = none := by
          intro b hb o e
          have z := I'.pin (b, o) (List.mem_append_right _ (List.mem_append_right _ (mem_pinsAt hb e)))
          exact ⟨z.1, z.2.1⟩
        have hl : (wipe σ (own.map (·.2))).length = σh.length := by
          rw [← wh, wipe_length]
        refine ⟨m', hm, i + 1, H', (I'.unpinned (pins := [])).weak hl ?_, T.keep _ _ _ stg fun b hb o e => (at_ b hb o e).1, fun b hb => ?_, w'⟩
        · intro j v e
          rw [← wh] at e
          exact (wipe_some e).1
        · obtain ⟨o, e, _⟩ := T.obj _ _ stg b hb
          exact (at_ b hb o e).2
      cases b with
      | true =>
        simp only [if_true] at qk ⊢
        refine thnF (pe.run _ sk σh Hk _ Ik qk) ?_
        rintro z sl ⟨yv, Hl, Il, rl, acc, hDl, hzl, nx⟩
        exact app_ok (X := blkH X sc Hc scope ce fp p) Il hDl hzl rl fun sm Im => fin Im nx
      | false =>
        simp only [Bool.false_eq_true, if_false] at qk ⊢
        exact fin Ik qk
  exact codeAny_compStart_list loop (T.self X.A 0 _ _ _ std loop)
theorem pe_lcH {elt tg iter : Expr} {ifs : List Expr} {scope : Scope} {own : List (Str × Nat)} {pos : Pos} {wi : TI} {g : TG} {tt : TT} {te : TE} {p : Addr × Obj} (hot : L2H.Hot1 X.A p) (hp : p ∈ X.pn) (hN : X.N.Nodup) (hi : L2H.PIH X tg iter wi) (ok : BlkOk X.N X.env.scope scope own)
    (hg : ∀ (s : Shared) (H : Hp) (C : Addr) (cl : List (Str × Addr)) (fp : List Addr), PG (blkH X s H scope (compEnvC scope cl C X.env) fp p) tg g) (ht : ∀ (s : Shared) (H : Hp) (C : Addr) (cl : List (Str × Addr)) (fp : List Addr), PTs (blkH X s H scope (compEnvC scope cl C X.env) fp p) ifs tt)
    (he : ∀ (s : Shared) (H : Hp) (C : Addr) (cl : List (Str × Addr)) (fp : List Addr), PE (blkH X s H scope (compEnvC scope cl C X.env) fp p) elt te) (hs : ∀ x, foldedSetIterable iter X.env x = pure x) :
    PE X (.ListComp elt [⟨tg, iter, ifs, 0⟩] scope pos) (tLc wi g tt te (own.map (·.2))) := by
  constructor
  intro pins s σ H Q I h
  rw [eval_ListComp]
  refine lc_hot hot hp hN I hi ok hg ht he hs h ?_
  intro Dl C s' m H' I' q hn f
  refine ⟨m, hn, fun h'' sb => ?_⟩
  obtain ⟨f0, f1, f2, f3, f4, f5⟩ := f
  exact ⟨.ref Dl, H', I'.turned (t' := s'.toks) (fun b o hb e => (sb.2 b hb).trans e) f0 f1 f3 f4 f5, rfl, q⟩
end
end Ev
set_option maxRecDepth 100000
set_option maxHeartbeats 4000000
namespace Ev
open PySem PySem.Spec PyProof.Rows L2
section
variable {G : Sg} {X : Cx} {W : WX} {k : Nat} {a dd Dc : Addr}
abbrev PIVH (G : Sg) (X : Cx) (W : WX) (tg iter : Expr) (f : List SV → M (List D)) : Prop := L2H.PIH X tg iter (fun σ H Rr => teG G (Yld G) W f σ H Rr)
theorem i_rng1H {tg ar : Expr} {n : Nat} {f : List SV → M (List D)} {p pos : Pos} (hg : Gl X "range") (hm : X.mg "range" = none) (ha : PLn G X W n [ar] f) (hs : notStar ar = true) : PIVH G X W tg (.Call (.Name "range" p) [ar] [] pos) (fun sd => M.bind (f sd) rng1) := by
  have base := L2H.pi_range1H (tg := tg) (p := p) (pos := pos) hg hm ha (starEach_cons hs)
  refine ⟨fun pins s σ H Rr I q => base.run pins s σ H Rr I ?_⟩
  obtain ⟨w0, w, sd, S, e, r, q⟩ := q
  refine ⟨w0, w, sd, S, e, r, fin_step q fun w1 S1 ds vs e1 s1 rv q1 => ?_⟩
  rcases ds with _ | ⟨d, _ | ⟨d2, ds⟩⟩
  · exact q1.elim
  · cases d with
    | int j =>
      obtain ⟨v, t, ev, h1, h2⟩ := rv.1
      cases (show t = [] from h2)
      cases (show v = .int j from h1)
      obtain ⟨⟨c1, c2⟩, q1⟩ := FinG.ite q1
      exact ⟨j, ev, c1, c2, fin_pure q1 s1 yld_rng⟩
    | _ => exact q1.elim
  · cases d <;> exact q1.elim
theorem v_lcH {elt tg iter : Expr} {ifs : List Expr} {scope : Scope} {own : List (Str × Nat)} {pos : Pos} {fi : List SV → M (List D)} {ts : List Nat} {t : TgP} {tt : List SV → M Bool} {fe : List SV → M D} (c : CtxH G X k a dd Dc) (hi : PIVH G X W tg iter fi) (ok : BlkOk X.N X.env.scope scope own)
    (hg : ∀ (s : Shared) (H : Hp) (C : Addr) (cl : List (Str × Addr)) (fp : List Addr) (o : Obj), PGP G (blkH X s H scope (compEnvC scope cl C X.env) fp (a, o)) ts tg t) (ht : ∀ (s : Shared) (H : Hp) (C : Addr) (cl : List (Str × Addr)) (fp : List Addr) (o : Obj), PTsV G (blkH X s H scope (compEnvC scope cl C X.env) fp (a, o)) NoW ifs tt)
    (he : ∀ (s : Shared) (H : Hp) (C : Addr) (cl : List (Str × Addr)) (fp : List Addr) (o : Obj), PV G (blkH X s H scope (compEnvC scope cl C X.env) fp (a, o)) NoW elt fe) (hs : setFree iter = true) (hts : ∀ i ∈ ts, i ∈ own.map (·.2)) :
    PV G X W (.ListComp elt [⟨tg, iter, ifs, 0⟩] scope pos) (lcS fi (own.map (·.2)) t tt fe) := by
  obtain ⟨o, h1, h2, _⟩ := c.pin
  have base := pe_lcH (pos := pos) h2 h1 c.nd hi ok (fun s H C cl fp => hg s H C cl fp o) (fun s H C cl fp => ht s H C cl fp o) (fun s H C cl fp => he s H C cl fp o) (set_free hs)
  exact PE.imp base fun σ H Q h => lc_read hts h
theorem s_setH {i : Nat} {x : Str} {e : Expr} {f : List SV → M D} {pos pos' : Pos} (c : CtxH G X k a dd Dc) (hi : X.N[i]? = some x) (hx : Loc X.env.scope x) (he : PV G X W e f) (hs : swapFree e = true) (hf : X.fn x = true ∨ X.env.scope.names.lookup x = some .local) :
    PSV G X W (.Assign [.Name x pos'] e pos) (asgS f (setT i)) := by
  refine PS.imp (ps_set c.nd hi hx he (swap_free hs) hf) ?_
  rintro D σ H ⟨w0, w, sd, S, e, r, q⟩
  exact ⟨w0, w, sd, S, e, r, exS_step q r fun w1 S1 d v e1 r1 rv q1 => q1 w1 (σ.set i (some v)) (Stay.refl w1) (r1.setv rv i)⟩
theorem c_reprH (c : CtxH G X k a dd Dc) (hg : G.gd = true) : CallR X (.builtin "repr") (rDs G (on1 dRepr)) := c_repr0 c.cK (c.gd hg) (by have := c.room.un; omega)
def dEqI : D → D → M D
  | .int i, .int j => M.pure (.bl (decide (i = j)))
  | _, _ => M.stuck
theorem o_eqI : OpR X (compareOp .Eq) (rD2 G dEqI) := by
  refine OpR.imp op_eq fun v u H Q q => ?_
  obtain ⟨W, w, S, d, e, rfl, s, r1, r2, q⟩ := q
  unfold dEqI at q
  split at q
  · cases (show v = _ from r1)
    cases (show u = _ from r2)
    have q2 := fin_pure (b := V.bl _) q s rfl
    exact ⟨rfl, by simpa using q2⟩
  · exact q.elim
end
structure FnHA (P : Program) (w : World) (K : PySem.W.Frag) (mg : Str → Option Value) (base : Heap) (G : Sg) (k : Nat) (f Dc : Addr) (sem : Addr → Addr → List D → M D) : Prop where
  run : ∀ (A : Around) (fr : List Env) (s : Shared) (H : Hp) (us : List Value) (vs : List V) (Q : VK) (a dd : Addr) (o : Obj),
    L2H.RoomH k A → (G.gd = true → A.guards = some []) → L2H.Hot1 A (a, o) → L2H.PinOk fr H s (a, o) → L2N.Zn (.ref Dc) (some dd) o → (∃ xs, o.data = .fields xs) → Env0 P w K mg base A fr s H → Vals vs us → spV G (sem a dd) vs H Q C8.E0 →
    codeAny (model P w) A (.call (.ref f) ⟨us, []⟩) (CR C8.CX0 fr P w H s Q C8.E0) s
  kp : PySem.W.keepIn K (.ref f) = true
abbrev XH (P : Program) (w : World) (K : PySem.W.Frag) (mg : Str → Option Value) (base : Heap) (N : List Str) (qual : Str) (st : Stmt) (f : Addr) (cdv : Value) (A : Around) (fr : List Env) (s : Shared) (H : Hp) (p : Addr × Obj) : Cx :=
  L2H.cxH C8.CX0 P w K mg base N qual (defScope st) f cdv A fr s H C8.E0 p
def BodyH (P : Program) (w : World) (K : PySem.W.Frag) (mg : Str → Option Value) (base : Heap) (G : Sg) (k : Nat) (f Dc : Addr) (N : List Str) (qual : Str) (st : Stmt) (ms : Addr → Addr → MS) : Prop :=
  ∀ (cdv : Value) (A : Around) (fr : List Env) (s : Shared) (H : Hp) (a dd : Addr) (o : Obj), CtxH G (XH P w K mg base N qual st f cdv A fr s H (a, o)) k a dd Dc → PSsV G (XH P w K mg base N qual st f cdv A fr s H (a, o)) NoW (defBody st) (ms a dd)
section
variable {P : Program} {w : World} {K : PySem.W.Frag} {mg : Str → Option Value} {base : Heap} {G : Sg} {k : Nat} {f Dc : Addr} {x qual : Str} {st : Stmt} {fd : FuncData} {N ps : List Str} {ms : Addr → Addr → MS}
theorem fnh_rule (F : Fun K x qual st f fd) (SC : FnScope N ps (defScope st)) (hb : L2.Binds K fd ps []) (cK : G.K = K) (B : BodyH P w K mg base G k f Dc N qual st ms) {m n : Nat} (em : ps.length = m) (en : N.length = n) (hmn : m ≤ n) :
    FnHA P w K mg base G (k + 1) f Dc (fun a dd => runFn m n (ms a dd)) := by
  have kp := F.kp
  obtain ⟨oc, od, kV, doc, pm, an, cdv, ct, osl, rfl, lk, hcd⟩ := F.ex
  refine ⟨?_, kp⟩
  rintro A fr s H us vs Q a dd o hr gd hot pin zn fl e0 rv ⟨wd, ds, S, rfl, rs, rvs, q⟩
  simp only [runFn] at q
  split at q
  case isFalse => exact q.elim
  next hl =>
  subst em en
  have lv : vs.length = ps.length := by
    rw [← rvs.length]
    exact hl
  have inK : K.In s.heap := e0.mod.kin.keeps fun b o e => (e0.bs b o e).1
  have noL : s.heap.NoLimit := e0.mod.nolimit.keeps fun b o e => (e0.bs b o e).1
  have kinds : ∀ y ∈ ps.zip us, (defScope st).names.lookup y.1 = some .local ∨ ((defScope st).names.lookup y.1 = some .cell ∧ ((cellsFrom (s.heap.objs.size + 1) (defScope st).names []).lookup y.1).isSome = true) := by
    rintro ⟨n, v⟩ hy
    exact (SC.par n (List.of_mem_zip hy).1).imp id fun q => ⟨q, PySem.W.cellsFrom_some _ _ _ (.inl q)⟩
  have bnd := hb s us inK (by rw [List.append_nil, ← rv.length]; exact lv)
  rw [List.append_nil] at bnd
  refine codeAny_call_function hr.depth (inK _ _ lk) rfl SC.co SC.gen rfl (PySem.W.codeRec_of inK hcd) (bnd _ _ _ _ ?_)
  refine wpAny_newFunctionEnv_cells SC.kind kinds ?_
  rintro env rfl s1 x
  refine ⟨noL.keeps x.toInCall.keep, codeAny_func ?_⟩
  have I := L2H.inv_startH (CX := C8.CX0) (P := P) (w := w) (E := C8.E0) SC pin e0 lv rv x
  have bd := B cdv A fr s wd.H a dd o ⟨cK, SC.nd, hr.deeper _, gd, o, List.mem_singleton.mpr rfl, hot, zn, fl⟩
  have run := bd.run [] s1 _ wd.H { nx := fun _ H' => Q .non H', rt := Q } I (fin_body (E := fun _ _ _ => False) (Q := Q) rfl rs rvs (by omega) q)
  refine wpAny_mono run ?_ (fun e s' hs => hs)
  intro fl s' hs
  cases fl with
  | ret u =>
    obtain ⟨v, σ', H', J, r', q⟩ := hs
    exact ⟨v, H', J.os, J.bare, J.base, J.hok, r', q⟩
  | next =>
    obtain ⟨σ', H', J, q⟩ := hs
    exact ⟨V.non, H', J.os, J.bare, J.base, J.hok, rfl, q⟩
  | brk =>
    obtain ⟨_, _, _, q⟩ := hs
    exact (show False from q).elim
  | cont =>
    obtain ⟨_, _, _, q⟩ := hs
    exact (show False from q).elim
end
section
variable {G : Sg} {X : Cx} {W : WX} {k n : Nat} {a dd Dc f : Addr} {sem : Addr → Addr → List D → M D} {x : Str} {p pos : Pos} {e : Expr} {es : List Expr} {fa : List SV → M (List D)}
theorem v_callH (c : CtxH G X k a dd Dc) (F : FnHA X.prog X.w X.K X.mg X.base G k f Dc sem) (hg : Gl X x) (hm : X.mg x = some (.ref f)) (ha : PLn G X W n (e :: es) fa) (hs : (e :: es).all notStar = true) (hd : (x == ("__debug__" : Str)) = false) :
    PV G X W (.Call (.Name x p) (e :: es) [] pos) (fun sd => M.bind (fa sd) fun ds => noErr (sem a dd ds)) := by
  have hs2 : notStar e = true ∧ es.all notStar = true := by simpa using hs
  constructor
  intro pins s σ H Q I ⟨w0, w, sd, S, eH, r, q⟩
  refine wpAny_Call_Name_kw (ld_glob I hg hm ?_ hd)
  refine PySem.W.callWith_K (h₀ := X.base) I.ok.mod.kin F.kp (thn (ha.run pos pins s σ H (fun vs H1 => spV G (sem a dd) vs H1 Q C8.E0) I ?_) ?_) (starEach_cons hs2.1) (starEach_all hs2.2 pos)
  · exact ⟨w0, w, sd, S, eH, r, fin_step q fun w1 S1 ds vs e1 s1 rv q1 => ⟨w1, ds, S1, rfl, s1, rv.1, noErr_fin q1⟩⟩
  · rintro us s1 ⟨vs, H1, I1, rv, q1⟩
    refine ⟨I1.kIn, ?_⟩
    obtain ⟨o, hp, hot, hz, hv⟩ := c.pin
    have P1 := I1.pin (a, o) (List.mem_append_left _ hp)
    have pin : L2H.PinOk X.stack H1 s1 (a, o) := ⟨P1.1, P1.2.1, fun hm => (List.mem_cons.mp (I1.stkSub a hm)).elim P1.2.2.1 P1.2.2.2.1, P1.2.2.2.2⟩
    refine wpAny_call (codeAny_mono (F.run X.A X.stack s1 H1 us vs Q a dd o c.room c.gd hot pin hz hv I1.env0 rv q1) ?_)
    intro res s2 hq
    rcases res with er | fl
    · exact (show False from hq).elim
    · cases fl with
      | ret u => exact I1.after hq
      | next => exact hq.elim
      | brk => exact hq.elim
      | cont => exact hq.elim
end
end Ev
set_option maxRecDepth 100000
set_option maxHeartbeats 4000000
namespace Ev
open PySem PySem.Spec PyProof.Rows L2
section
open PySem.HandSPX Builtin Builtin.ObjectAttr
variable {prog : Program} {w : World} {A : Around} {E : Value → Shared → Prop} {R : Result → Shared → Prop} {hp : Heap} {g : Array GenState} {d : Drawn} {t : Nat} {os : OsState}
def refsT (tl : List Value) : List Value → Bool
  | .ref _ :: r => refsT tl r
  | l => l == tl
theorem refsT_cases (tl : List Value) : ∀ l : List Value, refsT tl l = true → (∃ c r, l = .ref c :: r ∧ refsT tl r = true) ∨ l = tl := by
  intro l e
  cases l with
  | nil => exact .inr (beq_iff_eq.mp e)
  | cons a r =>
    cases a with
    | ref c => exact .inl ⟨c, r, rfl, e⟩
    | _ => exact .inr (beq_iff_eq.mp e)
theorem refsT_pass {tl : List Value} (self : Value) (h0 : tl.isEmpty = false) (p : refuseLoop self "__setattr__" tl = pure ()) : ∀ l : List Value, refsT tl l = true → refuseLoop self "__setattr__" l = pure ()
  | [], e => by
    rcases refsT_cases tl [] e with ⟨_, _, q, _⟩ | q
    · cases q
    · rw [← q] at h0
      cases h0
  | a :: l, e => by
    rcases refsT_cases tl (a :: l) e with ⟨c, r, q, z⟩ | q
    · obtain ⟨rfl, rfl⟩ := List.cons.inj q
      rw [refuseLoop_ref]
      exact refsT_pass self h0 p l z
    · rw [q]
      exact p
theorem refsT_contains {tl : List Value} (Y : String) : ∀ l : List Value, refsT tl l = true → l.contains (.type Y) = tl.contains (.type Y)
  | [], e => by
    rcases refsT_cases tl [] e with ⟨_, _, q, _⟩ | q
    · cases q
    · rw [q]
  | a :: l, e => by
    rcases refsT_cases tl (a :: l) e with ⟨c, r, q, z⟩ | q
    · obtain ⟨rfl, rfl⟩ := List.cons.inj q
      rw [List.contains_cons, refsT_contains Y l z]
      rfl
    · rw [q]
theorem refsT_ne {tl : List Value} (h0 : tl.isEmpty = false) {l : List Value} (e : refsT tl l = true) : l.isEmpty = false := by
  cases l with
  | nil =>
    rcases refsT_cases tl [] e with ⟨_, _, q, _⟩ | q
    · cases q
    · rw [← q] at h0
      cases h0
  | cons _ _ => rfl
theorem osaT {tl : List Value} {K : PySem.W.Frag} {nm : Str} {tk : Tok} {y : Value} {x C : Addr} {fv : Array Value} {cd : ClassData} (h0 : tl.isEmpty = false) (hO : tl.contains (.type "object") = true) (pas : ∀ self, refuseLoop self "__setattr__" tl = pure ())
    (kin : K.In hp) (hx : hp.get? x = some { cls := .ref C, data := .fields fv }) (hC : PySem.W.clsIn K C = some cd) (hm : refsT tl cd.mro = true) (hd : cd.hasDict = true) (no : PySem.W.findIn K (.ref C) nm = some none)
    (fin : ∀ h2 tk2 dx, (∀ b o, b ≠ x → hp.get? b = some o → h2.get? b = some o) → hp.objs.size ≤ dx → dx ≠ x → h2.get? x = some { cls := .ref C, dict := some dx, data := .fields fv } →
      h2.Ns1 dx (fun z => if z = nm then some y else none) → R (.ok (.ret .none)) ⟨h2, g, d, tk2, os⟩) :
    codeAny (model prog w) A (.call (.builtin "object.__setattr__") ⟨[.ref x, .str nm tk, y], []⟩) R ⟨hp, g, d, t, os⟩ := by
  have inst : PySem.W.InstAt hp x { cls := .ref C, data := .fields fv } C none := ⟨hx, rfl, rfl, trivial⟩
  have fs := F.store_object
  have ne := refsT_ne h0 hm
  have ob : cd.mro.contains (.type "object") = true := (refsT_contains "object" _ hm).trans hO
  have xs : x ≠ hp.objs.size := Nat.ne_of_lt (Heap.lt_size hx)
  have isO : PySem.W.Looks (model prog w) hp (isInstance (.ref x) (.type "object")) true := by
    refine inst.type.andThen (PySem.W.looks_mroIn kin ?_)
    unfold PySem.W.mroIn
    rw [hC, Option.bind_some, if_neg (by rw [ne]; decide), ob]
  have mr : PySem.W.Looks (model prog w) hp (mroOf (.ref C)) cd.mro := (PySem.W.looks_clsIn kin hC).andThen .now
  have l3 : PySem.W.Looks (model prog w) hp (storeTaker? none) none := .now
  have cl : PySem.W.Looks (model prog w) hp (classData C) cd := PySem.W.looks_clsIn kin hC
  refine codeAny_call_builtin fs.slot.plain fs.entry (@PySem.W.check_slot (model prog w) _ _ ⟨hp, g, d, t, os⟩ "object.__setattr__" "object" "__setattr__" (.ref x) [.str nm tk, y] [] _ fs.kind fs.split isO (fs.args (.ref x) (.str nm tk) y) ?_)
  rw [PySem.W.osa_eq, refuse_eq]
  refine wpAny_bind (wpAny_bind (inst.type.at (wpAny_bind (mr.at ?_))))
  rw [refsT_pass _ h0 (pas _) _ hm]
  refine wpAny_pure (wpAny_bind (inst.type.at (wpAny_bind ((PySem.W.looks_findIn kin no).at (wpAny_bind (l3.at ?_))))))
  show wpAny _ _ (storeInOwnDict (.ref x) (.ref C) (.str nm tk) nm y false) _ _ _
  obtain ⟨_, _, _, _, _, hdc, _, _, _, _, _⟩ := cd
  dsimp only at hd
  subst hd
  unfold storeInOwnDict
  unfold ownDictForStores
  repeat (first | with_reducible refine store_in_new ?_ ?_ | with_reducible refine wpAny_loadPart_at hx ?_ | with_reducible refine cl.at ?_ | wp_step)
  · exact ⟨_, #[], _, (Heap.get?_update_ne _ _ _ _ xs.symm).trans (Heap.get?_push_at rfl rfl), rfl, fun e he => absurd he (by simp), fun _ => rfl⟩
  · intro h2 tk2 hn hs
    have x1 : (hp.push { cls := .type "dict", data := .dict #[] }).get? x = some { cls := .ref C, data := .fields fv } := Heap.get?_push_of_some _ hx
    refine fin h2 tk2 hp.objs.size (fun b o hb ho => ?_) (Nat.le_refl _) xs.symm ?_ hn
    · exact (hs.2 b (Nat.ne_of_lt (Heap.lt_size ho))).trans ((Heap.get?_update_ne _ _ _ _ hb).trans (Heap.get?_push_of_some _ ho))
    · exact (hs.2 x xs).trans (Heap.get?_update_self _ x1 rfl)
end
structure OexG (K : PySem.W.Frag) (C : Addr) : Prop where
  cls : ∃ (tl : List Value) (B newId initId : String), ∃ nm q N bs bm sn sub ab col dd k0 k1 k2 k3 k5, ExcBaseFacts B newId initId tl ∧ tl.isEmpty = false ∧ tl.contains (.type "object") = true ∧ (∀ self, refuseLoop self "__setattr__" tl = pure ()) ∧
    K.lookup C = some (excClassObj nm q C N bs bm true sn sub ab col dd k0 k1 k2 k3 k5 newId) ∧ refsT tl bm = true
  sa : PySem.W.findIn K (.ref C) "__setattr__" = some (some (.builtin "object.__setattr__"))
  exC : PySem.W.subIn K (.ref C) (.type "BaseException") = some true
  tyC : PySem.W.typeIn K (.ref C) = some (.type "type")
  kC : PySem.W.keepIn K (.ref C) = true
abbrev tlE (B : String) : List Value := [.type B, .type "Exception", .type "BaseException", .type "object"]
theorem pas_V : ∀ self, refuseLoop self "__setattr__" (tlE "ValueError") = pure () := F.store_ValueError.passes
section
variable {X : Cx} {pins : List (Addr × Obj)} {σ : L2.St} {H : Hp} {s : Shared} {a C dx : Addr} {f : Str} {y : V} {u : Value} {fs : List (Str × V)} {Q : Unit → Shared → Prop} {E : Value → Shared → Prop} {A : Around}
theorem ost_newG (T : OexG X.K C) (I : Inv X pins σ H s) (e : H a = some (exo a C none)) (no : PySem.W.findIn X.K (.ref C) f = some none) (ry : RelV y u)
    (fin : ∀ dx s2, H dx = none → dx ≠ a → Inv X pins σ (upd (upd H dx (exd dx [(f, y)])) a (exo a C (some dx))) s2 → Q () s2) : wpAny (model X.prog X.w) A (setAttr (.ref a) f u) Q E s := by
  obtain ⟨tl, B, nI, iI, nm, q, N, bs, bm, sn, sub, ab, col, dd, k0, k1, k2, k3, k5, FB, t0, tO, pas, hC, hbm⟩ := T.cls
  have hcl : PySem.W.clsIn X.K C = some { name := nm, bases := bs, mro := .ref C :: bm, ns := N, qualname := q, hasDict := true, slotNames := sn, subclasses := sub, abstract := ab, collection := col, hasDel := false } := by
    unfold PySem.W.clsIn
    rw [hC] <;> rfl
  obtain ⟨t1, ho⟩ := exo_at I.hok e
  obtain ⟨hp, g, d, t, os⟩ := s
  refine PySem.W.set_plain I.kIn (ox := { cls := .ref C, dict := none, data := .fields #[.ref t1, .none, .none, .none, .bool false, .none] }) (od := none) ⟨ho, rfl, rfl, trivial⟩ T.sa (osaT t0 tO pas I.kIn ho hcl hbm rfl no fun h2 tk2 dx k dn dne hx hn => ?_)
  have free : H dx = none := I.hok.fresh dn
  have nd : ∀ {b : Addr} {o : Obj}, hp.get? b = some o → b ≠ dx := fun {b o} q => Nat.ne_of_lt (Nat.lt_of_lt_of_le (Heap.lt_size q) dn)
  have na : ∀ {b : Addr}, H b = none → b ≠ a := by
    intro b n z
    rw [z, e] at n
    cases n
  have un : Un X.fs [] H (upd (upd H dx (exd dx [(f, y)])) a (exo a C (some dx))) hp h2 := by
    constructor
    case keep => exact fun b o q n _ _ => k b o (na n) q
    case slot => exact fun b o q n _ _ => ⟨o.slots, k b o (na n) q⟩
    case free =>
      intro b o q n _
      rw [upd_ne (na n), upd_ne (nd q)]
      exact n
    case there =>
      intro b o q _
      by_cases hb : b = a
      · rw [hb]
        exact ⟨_, hx⟩
      · exact ⟨o, k b o hb q⟩
    case tups =>
      intro b xs q
      rw [upd_ne (at_ne e q exo_tup), upd_ne (ne_of_none q free)]
      exact q
    case frzs =>
      intro b o v q
      rw [upd_ne (at_ne e q exo_frz), upd_ne (ne_of_none q free)]
      exact q
    case tbls =>
      intro b ps q
      refine ⟨#[], ?_⟩
      rw [upd_ne (at_ne e q exo_tbl), upd_ne (ne_of_none q free), q]
      simp
  refine fin dx _ free dne (I.un (t' := tk2) un fun b o q => ?_)
  by_cases hb : b = a
  · subst hb
    rw [upd_same] at q
    cases q
    exact exo_ok hx
  rw [upd_ne hb] at q
  by_cases hd : b = dx
  · subst hd
    rw [upd_same] at q
    cases q
    exact exd_ok hn (relO_put (fs := []) ry fun g => True.intro)
  rw [upd_ne hd] at q
  refine (I.hok b o q).stay (fun c v hc z => k c v ?_ z) (fun c hc => ?_) (fun c xs hc => ?_)
  · rcases hc with hc | hc
    · rw [hc]
      exact hb
    · exact at_ne e hc exo_own
  · rw [upd_ne (at_ne e hc exo_own), upd_ne (ne_of_none hc free)]
    exact hc
  · rw [upd_ne (at_ne e hc exo_tup), upd_ne (ne_of_none hc free)]
    exact hc
end
def tOstG (K : PySem.W.Frag) (f : Str) (to te : TE) : TS := fun D σ H => te σ H fun y H1 => to σ H1 fun x H2 => ∃ a C : Addr, x = .ref a ∧ OexG K C ∧ PySem.W.findIn K (.ref C) f = some none ∧ H2 a = some (exo a C none) ∧
  ∀ dx, H2 dx = none → dx ≠ a → D.nx σ (upd (upd H2 dx (exd dx [(f, y)])) a (exo a C (some dx)))
theorem ps_ostG {X : Cx} {o e : Expr} {to te : TE} {f : Str} {p2 pos : Pos} (ho : PE X o to) (he : PE X e te) (hs : swapsWith e (some (.Attribute o f p2)) pos.line X.env = pure false := by rfl) : PS X (.Assign [.Attribute o f p2] e pos) (tOstG X.K f to te) := by
  constructor
  intro pins s σ H D I h
  refine plainObj_wpAny_Assign_Attribute (thn (he.run pins s σ H _ I h) ?_) hs
  rintro v s1 ⟨y, H1, I1, r1, q1⟩
  refine thn (ho.run pins s1 σ H1 _ I1 q1) ?_
  rintro u s2 ⟨x, H2, I2, r2, a, C, rfl, T, no, ea, q⟩
  obtain rfl : u = Value.ref a := r2
  exact ost_newG T I2 ea no r1 fun dx s3 n ne J => ⟨σ, _, J, q dx n ne⟩
def ErrForm (st : Stmt) (f slf par : Str) : Prop := ∃ p1 p2 p3 p4, defBody st = [.Assign [.Attribute (.Name slf p1) f p2] (.Name par p3) p4]
structure ErrT (K : PySem.W.Frag) (mg : Str → Option Value) (G : Sg) (cx : Nat) (x : Str) : Prop where
  ex : ∃ (C fI : Addr) (fd : FuncData) (st : Stmt) (qual slf par : Str), G.xc cx = .ref C ∧ mg x = some (.ref C) ∧ OexG K C ∧ PySem.W.findIn K (.ref C) "__init__" = some (some (.ref fI)) ∧ PySem.W.typeIn K (.ref fI) = some (.type "function") ∧ PySem.W.findIn K (.ref C) (G.xf cx) = some none ∧
    Fun K "__init__" qual st fI fd ∧ L2.Binds K fd [slf, par] [] ∧ FnScope [slf, par] [slf, par] (defScope st) ∧ ErrForm st (G.xf cx) slf par ∧ ((slf == ("__debug__" : Str)) = false ∧ (slf == ("__classdict__" : Str)) = false) ∧ (par == ("__debug__" : Str)) = false ∧ (par == ("__classdict__" : Str)) = false
def spErr (f : Str) : Sp := fun vs H Q _ => ∃ (a C : Addr) (y : V), vs = [.ref a, y] ∧ H a = some (exo a C none) ∧ ∀ dx, H dx = none → dx ≠ a → Q .non (upd (upd H dx (exd dx [(f, y)])) a (exo a C (some dx)))
section
variable {P : Program} {w : World} {K : PySem.W.Frag} {mg : Str → Option Value} {base : Heap}
theorem vis_par {N ps : List Str} {sc : Scope} {y : Str} (S : FnScope N ps sc) (h : y ∈ ps) : Vis sc y := (S.par y h).elim (fun z => .inl z) fun z => .inr (.inl z)
theorem err_init {fI : Addr} {fd : FuncData} {st : Stmt} {qual slf par f : Str} (Cok : ∀ C : Addr, Prop) (hC : ∀ C, Cok C → OexG K C ∧ PySem.W.findIn K (.ref C) f = some none) (F : Fun K "__init__" qual st fI fd) (S : FnScope [slf, par] [slf, par] (defScope st)) (e : ErrForm st f slf par) (d1 : (slf == ("__debug__" : Str)) = false) (d2 : (slf == ("__classdict__" : Str)) = false)
    (d3 : (par == ("__debug__" : Str)) = false) (d4 : (par == ("__classdict__" : Str)) = false) : FnOk P w K mg base C8.CX0 1 fI fd [slf, par] (fun vs H Q E => spErr f vs H Q E ∧ ∀ a C, vs.head? = some (V.ref a) → H a = some (exo a C none) → Cok C) := by
  obtain ⟨oc, od, kV, doc, pm, an, cdv, ct, osl, rfl, lk, hcd⟩ := F.ex
  refine fn_of (k := 0) lk hcd S (fun vs H Q E h => ?_) fun A fr s H vs Q E hr h => ?_
  · obtain ⟨⟨a, C, y, rfl, _⟩, _⟩ := h
    rfl
  · obtain ⟨p1, p2, p3, p4, eb⟩ := e
    obtain ⟨⟨a, C, y, rfl, ha, q⟩, ok⟩ := h
    rw [eb]
    refine ⟨_, pss_one (ps_ostG (pe_var (i := 0) rfl (vis_par S (by simp)) d1 d2) (pe_var (i := 1) rfl (vis_par S (by simp)) d3 d4)), ?_⟩
    obtain ⟨h1, h2⟩ := hC C (ok a C rfl ha)
    exact ⟨y, rfl, .ref a, rfl, a, C, rfl, h1, h2, ha, fun dx n ne => q dx n ne⟩
end
section
variable {G : Sg} {X : Cx} {W : WX} {k cx : Nat} {x : Str} {e : Expr} {fe : List SV → M D} {p pos pos' : Pos}
theorem mkErr (c : Ctx G X W k) (hk : 1 ≤ k) (T : ErrT X.K X.mg G cx x) (hg : Gl X x) (hdb : (x == ("__debug__" : Str)) = false) (he : PV G X W e fe) (hs : notStar e = true) :
    L2N.PMk X (.Call (.Name x p) [e] [] pos) (fun σ H Q => teV G W fe σ H fun y H1 => ∀ d, H1 d = none → Q (G.xc cx) (some d) (upd H1 d (.xd [(G.xf cx, y)]))) := by
  obtain ⟨C, fI, fd, st, qual, slf, par, eC, hm, TC, iC, tI, hno, F, hb, SC, ef, ⟨d1, d2⟩, d3, d4⟩ := T.ex
  have FI := err_init (P := X.prog) (w := X.w) (mg := X.mg) (base := X.base) (fun D => D = C) (fun D eD => by rw [eD]; exact ⟨TC, hno⟩) F SC ef d1 d2 d3 d4
  intro pins s σ H Q I h
  obtain ⟨tl, B, nI, iI, nm, q, N, bs, bm, sn, sub, ab, col, dd, k0, k1, k2, k3, k5, FB, t0, tO, pas, hC, hbm⟩ := TC.cls
  refine wpAny_Call_Name_kw (ld_glob I hg hm ?_ hdb)
  have hargs := (pa_cons he pa_nil (starEach_cons hs)).run pos pins s σ H (fun vs H1 => ∃ y, vs = [y] ∧ ∀ d, H1 d = none → Q (G.xc cx) (some d) (upd H1 d (.xd [(G.xf cx, y)]))) I ?_
  · refine PySem.W.callWith_K (h₀ := X.base) I.ok.mod.kin TC.kC (thn hargs ?_) (starEach_cons hs) (by rfl)
    rintro us s1 ⟨vs, H1, I1, rv, y, rfl, q1⟩
    refine ⟨I1.kIn, ?_⟩
    show wpAny _ _ (call (.ref C) us) _ _ _
    obtain ⟨hp, g, dr, tk, os⟩ := s1
    generalize ea : hp.objs.size + 1 = a
    have la : hp.objs.size ≤ a := by omega
    have na : H1 a = none := I1.hok.fresh la
    have kk : ∀ b o, hp.get? b = some o → ((hp.push (PySem.W.kdv_tup us)).push (PySem.HandSPX.excO C hp.objs.size)).get? b = some o := by
      intro b o z
      exact Heap.get?_push_of_some _ (Heap.get?_push_of_some _ z)
    have hget : ((hp.push (PySem.W.kdv_tup us)).push (PySem.HandSPX.excO C hp.objs.size)).get? a = some (PySem.HandSPX.excO C hp.objs.size) := by
      subst ea
      heap_get
    have I2 : Inv X pins σ (upd H1 a (exo a C none)) ⟨(hp.push (PySem.W.kdv_tup us)).push (PySem.HandSPX.excO C hp.objs.size), g, dr, tk, os⟩ := I1.laid (t' := tk) (a := a) (o := exo a C none) kk la (exo_ok hget)
    have r2 : Vals [V.ref a, y] (Value.ref a :: us) := .cons rfl rv
    have lu : us.length = 1 := rv.length.symm
    have bnd := hb _ (Value.ref a :: us) I2.kIn (by rw [List.append_nil, List.length_cons, lu]; rfl)
    rw [List.append_nil] at bnd
    have sp : spErr (G.xf cx) [V.ref a, y] (upd H1 a (exo a C none)) (fun v H2 => v = .non ∧ ∃ (d : Addr) (fs : List (Str × V)), H2 a = some (exo a C (some d)) ∧ H2 d = some (exd d fs) ∧ H1 d = none ∧ Q (.ref C) (some d) (upd (del H2 a) d (.xd fs))) C8.E0 := by
      refine ⟨a, C, y, rfl, upd_same, fun dx n ne => ⟨rfl, dx, [(G.xf cx, y)], upd_same, ?_, ?_, ?_⟩⟩
      · rw [upd_ne ne, upd_same]
      · rw [upd_ne ne] at n
        exact n
      · rw [upd_ne ne] at n
        have z := q1 dx n
        rw [eC] at z
        have eH : upd (del (upd (upd (upd H1 a (exo a C none)) dx (exd dx [(G.xf cx, y)])) a (exo a C (some dx))) a) dx (.xd [(G.xf cx, y)]) = upd H1 dx (.xd [(G.xf cx, y)]) := by
          funext b
          by_cases b1 : b = dx
          · rw [b1, upd_same, upd_same]
          · rw [upd_ne b1, upd_ne b1]
            by_cases b2 : b = a
            · rw [b2, del_same]
              exact na.symm
            · rw [del_ne b2, upd_ne b2, upd_ne b1, upd_ne b2]
        rw [eH]
        exact z
    have sp2 : ∀ a' C', [V.ref a, y].head? = some (V.ref a') → upd H1 a (exo a C none) a' = some (exo a' C' none) → C' = C := by
      intro a' C' e1 e2
      have e1 : a = a' := V.ref.inj (Option.some.inj e1)
      subst e1
      obtain ⟨t1, z1⟩ := exo_at I2.hok upd_same
      obtain ⟨t2, z2⟩ := exo_at I2.hok e2
      rw [z1] at z2
      exact (Value.ref.inj (congrArg Obj.cls (Option.some.inj z2))).symm
    have hr : Room 2 X.A := c.rm.room.mono (by omega)
    have run := FI.run _ X.stack _ _ ⟨Value.ref a :: us, []⟩ (Value.ref a :: us) _ _ C8.E0 (hr.make C us []) (I2.env0.make C us []) bnd r2 ⟨sp, sp2⟩
    subst ea
    refine wpAny_call (PySem.HandSPX.call_own FB (fun Y => refsT_contains Y bm hbm) (I1.kIn _ _ hC) (PySem.W.looks_findIn I1.kIn iC) (fun self => PySem.W.bind_fn I1.kIn self tI) (by rw [lu]; decide) (codeAny_mono run ?_))
    intro res s2 hq
    rcases res with er | fl
    · exact (show False from hq).elim
    · cases fl with
      | ret u =>
        obtain ⟨v, H2, os2, bare2, un2, hok2, rr, ev, d, fs, a2, d2', hd1, q2⟩ := hq
        subst ev
        obtain ⟨h2, g2, dr2, t2, os'⟩ := s2
        obtain ⟨t0, Gh, J, kG, ge, hoe, nz⟩ := mk_end0 (d2 := dr2) (t2 := t2) I1 la kk un2 hok2 os2 bare2 a2 d2' hd1
        refine ⟨rr, hp.objs.size + 1, _, _, ⟨Gh, g2, dr2, t2, os'⟩, _, .ref C, some d, rfl, J, kG, ge, hoe, ⟨rfl, rfl, fun vs hv => ?_⟩, rfl, rfl, nz, rfl, bare2, raises_own TC.exC TC.tyC, q2⟩
        cases hv
        rfl
      | next => exact hq.elim
      | brk => exact hq.elim
      | cont => exact hq.elim
  · obtain ⟨w0, w, sd, S, eH, r, q⟩ := h
    refine ⟨w0, w, sd, S, eH, r, ?_⟩
    rcases hf : fe sd S with _ | ⟨er | d, S1⟩
    · rw [hf] at q; exact q
    · rw [hf] at q; exact q
    · rw [hf] at q
      exact fun w' v e s rv => ⟨v, rfl, q w' v e s rv⟩
def raiseS (cx : Nat) (f : List SV → M D) : MS := exS f fun d sd S => some (.err ⟨cx, some d⟩ sd, S)
theorem s_raise (c : Ctx G X W k) (hk : 1 ≤ k) (tk : L2N.Takes X W) (T : ErrT X.K X.mg G cx x) (hg : Gl X x) (hdb : (x == ("__debug__" : Str)) = false) (he : PV G X W e fe) (hs : notStar e = true) : PSV G X W (.Raise (some (.Call (.Name x p) [e] [] pos)) none pos') (raiseS cx fe) := by
  refine PS.imp (L2N.ps_raise (pos := pos') c.calm tk (mkErr (p := p) (pos := pos) c hk T hg hdb he hs)) ?_
  rintro En σ H ⟨w0, w, sd, S, eH, r, q⟩
  refine ⟨w0, w, sd, S, eH, r, exS_step q r fun w1 S1 d v e1 r1 rv q1 => fun dd hd => ?_⟩
  have ez : Ext w1 (w1.frz dd (.xd [(G.xf cx, v)])) := Ext.frz hd
  refine q1 (w1.frz dd (.xd [(G.xf cx, v)])) σ (G.xc cx) (some dd) (ez.stay r1.st.dj) (r1.step ez (r1.st.frz hd)) ⟨rfl, dd, v, rfl, .inr rfl, upd_same, RepV.mono ez r1.st.dj d v rv⟩
end
end Ev
set_option maxRecDepth 100000
set_option maxHeartbeats 4000000
namespace Ev
open PySem PySem.Spec PyProof.Rows L2
structure FunC (K : PySem.W.Frag) (x qual : Str) (st : Stmt) (f cc : Addr) (fd : FuncData) : Prop where
  fn : Fun K x qual st f fd
  ex : ∃ (oc : Value) (od : Option Addr) (kV doc pm : Value) (an : Option Addr) (ct : Value) (osl : Array (Option Value)), fd = PySem.W.fnOf x qual (defArgs st) (defBody st) (defScope st) .none kV doc pm an (.ref cc) ct ∧ K.lookup f = some ⟨oc, od, .func fd, osl⟩ ∧ PySem.W.codeIn K (.ref cc) qual = true
section
variable {P : Program} {w : World} {K : PySem.W.Frag} {mg : Str → Option Value} {base : Heap} {G : Sg} {k : Nat} {f cc : Addr} {x qual : Str} {st : Stmt} {fd : FuncData} {N ps : List Str} {ms : MS}
def BodyC (P : Program) (w : World) (K : PySem.W.Frag) (mg : Str → Option Value) (base : Heap) (G : Sg) (k : Nat) (f cc : Addr) (N : List Str) (qual : Str) (st : Stmt) (ms : MS) : Prop :=
  ∀ (A : Around) (fr : List Env) (s : Shared) (H : Hp) (E : XK), Ctx G (XF P w K mg base N qual st f (.ref cc) A fr s H E) (WF E) k → PSsV G (XF P w K mg base N qual st f (.ref cc) A fr s H E) (WF E) (defBody st) ms
theorem fna_ruleC (F : FunC K x qual st f cc fd) (SC : FnScope N ps (defScope st)) (hb : Binds K fd ps []) (cK : G.K = K) (B : BodyC P w K mg base G k f cc N qual st ms) {m n : Nat} (em : ps.length = m) (en : N.length = n) (hmn : m ≤ n) :
    FnA P w K mg base G (k + 2) f (runFn m n ms) := by
  have kp := F.fn.kp
  obtain ⟨oc, od, kV, doc, pm, an, ct, osl, rfl, lk, hcd⟩ := F.ex
  have g := gn_of (sp := fun vs H Q E => vs.length = ps.length ∧ spT G N ms vs H Q E) (P := P) (w := w) (mg := mg) (base := base) (k := k + 1) lk hcd SC (fun _ _ _ _ z => z.1) (fun A fr s H vs Q E hr hsp => ⟨_, B A fr s H E (ctxF cK SC hr), hsp.2⟩)
  refine ⟨?_, kp⟩
  rintro A fr s H us vs Q E hr e0 r ⟨wd, ds, S, eH, rs, rv, q⟩
  unfold runFn at q
  split at q
  · next e =>
    subst em en
    have lv : vs.length = ps.length := rv.length.symm.trans e
    have inK : K.In s.heap := e0.mod.kin.keeps fun b o z => (e0.bs b o z).1
    have b2 := hb s us inK (by rw [List.append_nil, ← r.length]; exact lv)
    rw [List.append_nil] at b2
    exact g.run A fr s H ⟨us, []⟩ us vs Q E hr e0 b2 r ⟨lv, fin_body eH rs rv (by omega) q⟩
  · exact q.elim
end
def tbls (n : Nat) : List Ob := (List.range n).map .tbl
section
variable {P : Program} {w : World} {K : PySem.W.Frag} {mg mb : Str → Option Value} {G : Sg} {k : Nat} {fa a : Addr} {sem : List D → M D} {s₁ : Shared} {vs : List Value} {ns : List Int} {cs : List (Addr × Addr)}
theorem end_coreT (H : Hp) (KX : K.In s₁.heap) (hns : s₁.heap.Ns mainGlobals mg) (hb : s₁.heap.Ns builtinsNs mb) (hbb : ∀ x : Str, x ≠ "__name__" → mb x = bootBuiltins x) (hlim : s₁.heap.NoLimit) (hg : s₁.gens = #[])
    (hT : ∀ p ∈ cs, s₁.heap.get? p.2 = some { cls := .none, data := .fields #[] }) (nT : ∀ p ∈ cs, K.lookup p.2 = none) (C : ∀ p ∈ cs, PySem.W.CodeHd s₁.heap p.1 p.2) (nd : (cs.map (·.2)).Nodup)
    (hbm : ∃ (bm : Addr) (ob : Obj), mg "__builtins__" = some (.ref bm) ∧ bm ≠ builtinsNs ∧ s₁.heap.get? bm = some ob ∧ ob.cls = .type "module" ∧ ob.dict = some builtinsNs ∧ ob.data = .plain)
    (ha : s₁.heap.get? a = some { cls := .type "list", data := .seq vs.toArray }) (hr : Room k callerA) (cK : G.K = K) (hta : ∀ n (p : Addr × Addr), cs[n]? = some p → G.ta n = p.2)
    (F : ∀ base : Heap, K.In base → base.Ns mainGlobals mg → (∀ p ∈ cs, LamX.TabB base mg p.1 p.2) → FnA P w K mg base G k fa sem) (hsem : ∃ S, sem [.scr (ns.map D.int)] (tbls cs.length) = some (.ok (.bl true), S))
    (told : ∀ b u, H b = some u → (b = a ∧ ∃ o xs, u = .frz o (.lst xs)) ∨ (b ∈ cs.map (·.2) ∧ u = .tbl #[])) (tabs : ∀ p ∈ cs, H p.2 = some (.tbl #[])) (unK : H a ≠ none → K.lookup a = none) (hok : HOk P w H s₁.heap) (hS : SqL K H a (ns.map V.int)) :
    codeAny (model P w) callerA (.call (.ref fa) ⟨[.ref a], []⟩) (fun r s' => r = .ok (.ret (.bool true)) ∧ OldK s₁.heap s'.heap ∧ s'.os = s₁.os ∧ AllBare s'.gens) s₁ := by
  have isT : ∀ {b : Addr}, b ∈ cs.map (·.2) → s₁.heap.get? b = some { cls := .none, data := .fields #[] } := by
    intro b hb2
    obtain ⟨p, hp, e⟩ := List.mem_map.mp hb2
    rw [← e]
    exact hT p hp
  have aT : a ∉ cs.map (·.2) := by
    intro z
    have q := isT z
    rw [ha] at q
    have z2 : Data.seq vs.toArray _ = Data.fields #[] := congrArg Obj.data (Option.some.inj q)
    cases z2
  have same : ∀ {b : Addr} {o : Obj}, s₁.heap.get? b = some o → b ≠ a → o.data ≠ .fields #[] → (hidT s₁.heap H).get? b = some o := by
    intro b o e ne nf
    refine hidT_get e ?_
    rcases q : H b with _ | u
    · rfl
    · rcases told b u q with z | z
      · exact absurd z.1 ne
      · rw [isT z.1] at e
        cases e
        exact absurd rfl nf
  have asNs : ∀ {b : Addr} {m : Str → Option Value}, s₁.heap.Ns b m → (hidT s₁.heap H).Ns b m := by
    rintro b m ⟨o, es, ep, e, d, r⟩
    refine ⟨o, es, ep, same e ?_ (by rw [d]; exact fun z => nomatch z), d, r⟩
    rintro rfl
    rw [ha] at e
    cases e
    exact Data.noConfusion d
  have inK : K.In (hidT s₁.heap H) := by
    intro b o e
    have there := KX b o e
    rcases q : H b with _ | u
    · exact hidT_get there q
    · rcases told b u q with ⟨rfl, _⟩ | z
      · rw [unK (by rw [q]; exact fun z => nomatch z)] at e
        cases e
      · obtain ⟨p, hp, ep⟩ := List.mem_map.mp z.1
        rw [← ep, nT p hp] at e
        cases e
  have md : Mod K mg (hidT s₁.heap H) := by
    obtain ⟨mc, l1, l2⟩ := hlim
    exact ⟨inK, asNs hns, ⟨mb, asNs hb, hbb⟩, ⟨mc, asNs l1, l2⟩⟩
  have gl : ∀ {b : Addr}, b ∈ cs.map (·.2) → mainGlobals ≠ b := by
    intro b hb2 z
    obtain ⟨o, es, ep, e, d, _⟩ := hns
    rw [z, isT hb2] at e
    cases e
    cases d
  have TB : ∀ p ∈ cs, LamX.TabB (hidT s₁.heap H) mg p.1 p.2 := by
    intro p hp
    have mp : p.2 ∈ cs.map (·.2) := List.mem_map.mpr ⟨p, hp, rfl⟩
    refine ⟨?_, ?_, gl mp⟩
    · obtain ⟨o, us, file, tf, flags, tg, inF, text, tt, e1, r1, r2, r3, rr⟩ := C p hp
      refine ⟨o, us, file, tf, flags, tg, inF, text, tt, same e1 ?_ ?_, r1, r2, r3, rr⟩
      · rintro z
        rw [z, ha] at e1
        cases e1
        cases r2
      · intro z
        rw [r2] at z
        cases z
        simp at r3
    · obtain ⟨bm, ob, b1, b2, b3, b4, b5, b6⟩ := hbm
      refine ⟨bm, ob, b1, b2, ?_, ?_, same b3 ?_ (by rw [b6]; exact fun z => nomatch z), b4, b5, b6⟩
      · intro q
        obtain ⟨o, es, ep, e, d, _⟩ := hns
        rw [q, e] at b3
        cases b3
        rw [d] at b6
        cases b6
      · intro q
        rw [q, hT p hp] at b3
        cases b3
        cases b6
      · intro q
        rw [q, ha] at b3
        cases b3
        cases b6
  have e0 : Env0 P w K mg (hidT s₁.heap H) callerA [] s₁ H := ⟨rfl, md, fun b o e => of_hidT e, Nat.le_of_eq (hidT_size _ _), trivial, fun b z => absurd (show b ∈ ([] : List Addr) from z) (by simp), hok, .of_eq hg⟩
  obtain ⟨S, hsem⟩ := hsem
  have numsR : ∀ (wd : Wd) (l : List Int), RepVs G wd (l.map D.int) (l.map V.int) := fun wd l => by
    induction l with
    | nil => rfl
    | cons z l ih => exact ⟨_, _, rfl, rfl, ih⟩
  have start : spV G sem [.ref a] H (fun v _ => v = .bl true) fun _ _ _ => False := by
    refine ⟨⟨cs.map (·.2), fun b => H b ≠ none ∧ b ∉ cs.map (·.2), H, none⟩, [.scr (ns.map D.int)], tbls cs.length, rfl, ⟨?_, nd, fun b z => z.2, fun b z => z.1, fun n b o z1 z2 => ?_⟩, ⟨.ref a, [], rfl, ⟨a, _, rfl, ?_, numsR _ ns⟩, rfl⟩, ?_⟩
    · simp [tbls]
    · have z1 : (cs.map (·.2))[n]? = some b := z1
      rw [List.getElem?_map] at z1
      rcases hp : cs[n]? with _ | p
      · rw [hp] at z1; cases z1
      · rw [hp] at z1
        obtain rfl : p.2 = b := Option.some.inj z1
        have hn : n < cs.length := (List.getElem?_eq_some_iff.mp hp).1
        have z3 : (tbls cs.length)[n]? = some (.tbl n) := by
          unfold tbls
          rw [List.getElem?_map, List.getElem?_range hn]
          rfl
        rw [z3] at z2
        obtain rfl := Option.some.inj z2
        have mp : p ∈ cs := List.mem_of_getElem? hp
        refine ⟨(hta n p hp).symm, List.mem_map.mpr ⟨p, mp, rfl⟩, #[], tabs p mp, True.intro, fun pos cv hcv => ?_⟩
        have z : codeAmong pos [] = some cv := hcv
        simp [codeAmong] at z
    · rcases hS with z | z
      · refine .inl ⟨⟨?_, aT⟩, z⟩
        rcases z with z | ⟨o, z⟩
        · rw [z]; exact fun q => nomatch q
        · rw [z]; exact fun q => nomatch q
      · rw [← cK] at z
        exact .inr z
    · rw [hsem]
      exact fun w' v _ _ rv => rv
  have vals : Vals [V.ref a] [Value.ref a] := .cons rfl .nil
  refine codeAny_mono ((F _ inK (asNs hns) TB).run callerA [] s₁ H [.ref a] [.ref a] _ _ ⟨hr, fun _ => rfl⟩ e0 vals start) ?_
  rintro (er | fl) s' got
  · obtain ⟨_, _, _, _, _, _, _, _, _, _, _, _, z⟩ := got
    exact z.elim
  · cases fl with
    | next => exact got.elim
    | brk => exact got.elim
    | cont => exact got.elim
    | ret u =>
      obtain ⟨v, Ho, os, bare, un, hok2, rv, rfl⟩ := got
      obtain rfl : u = Value.bool true := rv
      have kept : ∀ b o, b ∉ cs.map (·.2) → s₁.heap.get? b = some o → s'.heap.get? b = some o := by
        intro b o nb e
        rcases q : H b with _ | u
        · exact un.keep b o e q (fun z => absurd (show b ∈ ([] : List Addr) from z) (by simp)) (by simp)
        · rcases told b u q with ⟨rfl, ob, xs, rfl⟩ | z
          · have k2 := un.frzs b ob _ q
            obtain ⟨e1, _⟩ := hok b _ q
            obtain ⟨e2, _⟩ := hok2 b _ k2
            rw [e] at e1
            cases e1
            exact e2
          · exact absurd z.1 nb
      have grown : ∀ p ∈ cs, ∃ more : Array Value, s'.heap.get? p.2 = some { cls := .none, data := .fields more } := by
        intro p hp
        obtain ⟨more, z⟩ := un.tbls p.2 #[] (tabs p hp)
        exact ⟨_, hok2 p.2 _ z⟩
      refine ⟨rfl, ⟨fun b o e => ?_, fun b o e => ?_⟩, os, bare⟩
      · by_cases hb2 : b ∈ cs.map (·.2)
        · obtain ⟨p, hp, ep⟩ := List.mem_map.mp hb2
          obtain ⟨more, hm⟩ := grown p hp
          rw [← ep] at e ⊢
          rw [hT p hp] at e
          cases e
          exact .inr (.inl ⟨((C p hp).tab (hT p hp)).isCodeTable, rfl, #[], more, rfl, by rw [Array.empty_append]; exact hm⟩)
        · exact .inl (kept b o hb2 e)
      · by_cases hb2 : b ∈ cs.map (·.2)
        · obtain ⟨p, hp, ep⟩ := List.mem_map.mp hb2
          obtain ⟨more, hm⟩ := grown p hp
          rw [← ep]
          exact ⟨_, hm⟩
        · exact ⟨o, kept b o hb2 e⟩
theorem end_callT (KX : K.In s₁.heap) (hns : s₁.heap.Ns mainGlobals mg) (hb : s₁.heap.Ns builtinsNs mb) (hbb : ∀ x : Str, x ≠ "__name__" → mb x = bootBuiltins x) (hlim : s₁.heap.NoLimit) (hg : s₁.gens = #[])
    (hT : ∀ p ∈ cs, s₁.heap.get? p.2 = some { cls := .none, data := .fields #[] }) (nT : ∀ p ∈ cs, K.lookup p.2 = none) (C : ∀ p ∈ cs, PySem.W.CodeHd s₁.heap p.1 p.2) (nd : (cs.map (·.2)).Nodup)
    (hbm : ∃ (bm : Addr) (ob : Obj), mg "__builtins__" = some (.ref bm) ∧ bm ≠ builtinsNs ∧ s₁.heap.get? bm = some ob ∧ ob.cls = .type "module" ∧ ob.dict = some builtinsNs ∧ ob.data = .plain)
    (ha : s₁.heap.get? a = some { cls := .type "list", data := .seq vs.toArray }) (hi : IntsAre vs ns) (hl : ns.length ≤ sizeLine) (hr : Room k callerA) (cK : G.K = K) (hta : ∀ n (p : Addr × Addr), cs[n]? = some p → G.ta n = p.2)
    (F : ∀ base : Heap, K.In base → base.Ns mainGlobals mg → (∀ p ∈ cs, LamX.TabB base mg p.1 p.2) → FnA P w K mg base G k fa sem) (hsem : ∃ S, sem [.scr (ns.map D.int)] (tbls cs.length) = some (.ok (.bl true), S)) :
    codeAny (model P w) callerA (.call (.ref fa) ⟨[.ref a], []⟩) (fun r s' => r = .ok (.ret (.bool true)) ∧ OldK s₁.heap s'.heap ∧ s'.os = s₁.os ∧ AllBare s'.gens) s₁ := by
  have rv := vals_ints hi
  have size : vs.length ≤ sizeLine := by
    rw [hi.length]
    exact hl
  have aT : a ∉ cs.map (·.2) := by
    intro z
    obtain ⟨p, hp, e⟩ := List.mem_map.mp z
    have q := hT p hp
    rw [e, ha] at q
    have z2 : Data.seq vs.toArray _ = Data.fields #[] := congrArg Obj.data (Option.some.inj q)
    cases z2
  have mem : ∀ p ∈ cs, p.2 ∈ cs.map (·.2) := fun p hp => List.mem_map.mpr ⟨p, hp, rfl⟩
  have there : ∀ {b : Addr}, b ∈ cs.map (·.2) → s₁.heap.get? b = some { cls := .none, data := .fields #[] } := by
    intro b z
    obtain ⟨p, hp, e⟩ := List.mem_map.mp z
    rw [← e]
    exact hT p hp
  rcases hk : K.lookup a with _ | o
  · refine end_coreT (fun b => if b = a then some (.frz { cls := .type "list", data := .seq vs.toArray } (.lst (ns.map V.int))) else if b ∈ cs.map (·.2) then some (.tbl #[]) else none) KX hns hb hbb hlim hg hT nT C nd hbm ha hr cK hta F hsem (fun b u z => ?_) (fun p hp => ?_) (fun _ => hk) (fun b u z => ?_) (.inl (.inr ⟨_, if_pos rfl⟩))
    · by_cases e : b = a
      · exact .inl ⟨e, _, _, (Option.some.inj ((if_pos e).symm.trans z)).symm⟩
      · have z2 := (if_neg e).symm.trans z
        by_cases e2 : b ∈ cs.map (·.2)
        · exact .inr ⟨e2, (Option.some.inj ((if_pos e2).symm.trans z2)).symm⟩
        · cases (if_neg e2).symm.trans z2
    · have ne : ¬ p.2 = a := fun z => aT (z ▸ mem p hp)
      show (if p.2 = a then _ else if p.2 ∈ cs.map (·.2) then _ else _) = _
      rw [if_neg ne, if_pos (mem p hp)]
    · by_cases e : b = a
      · cases (if_pos e).symm.trans z
        subst e
        exact ⟨ha, by rw [List.length_map]; exact hl, vs, _, rv, ha⟩
      · have z2 := (if_neg e).symm.trans z
        by_cases e2 : b ∈ cs.map (·.2)
        · cases (if_pos e2).symm.trans z2
          exact there e2
        · cases (if_neg e2).symm.trans z2
  · have old := KX a o hk
    rw [ha] at old
    cases old
    refine end_coreT (fun b => if b ∈ cs.map (·.2) then some (.tbl #[]) else none) KX hns hb hbb hlim hg hT nT C nd hbm ha hr cK hta F hsem (fun b u z => ?_) (fun p hp => if_pos (mem p hp)) (fun z => absurd (if_neg aT) z) (fun b u z => ?_) (.inr ⟨_, vs.toArray, _, hk, rfl, rfl, rfl, by rw [List.size_toArray]; exact size, by simpa using rv⟩)
    · by_cases e2 : b ∈ cs.map (·.2)
      · exact .inr ⟨e2, (Option.some.inj ((if_pos e2).symm.trans z)).symm⟩
      · cases (if_neg e2).symm.trans z
    · by_cases e2 : b ∈ cs.map (·.2)
      · cases (if_pos e2).symm.trans z
        exact there e2
      · cases (if_neg e2).symm.trans z
end
theorem end_walkT {l : PySem.W.OpenLaw} {n k m : Nat} {q : Program} {loose : List Str} {XP : (Str → Option Value) → Heap → Prop} {YP : World → Heap → Prop} {d : DefRec} {sem : List D → M D}
    (hn : l.most = some n) (hn2 : n ≤ sizeLine) (hdf : d.params.defaults = []) (hr : Room k callerA)
    (F : ∀ (w : World) (mg : Str → Option Value) (fa : Addr) (h : Heap), YP w h → h.Ns mainGlobals mg → mg d.name = some (.ref fa) → ∃ (K : PySem.W.Frag) (G : Sg) (cs : List (Addr × Addr)), K.In h ∧ G.K = K ∧ cs.length = m ∧
      (∀ p ∈ cs, h.get? p.2 = some { cls := .none, data := .fields #[] }) ∧ (∀ p ∈ cs, K.lookup p.2 = none) ∧ (∀ p ∈ cs, PySem.W.CodeHd h p.1 p.2) ∧ (cs.map (·.2)).Nodup ∧ (∀ n (p : Addr × Addr), cs[n]? = some p → G.ta n = p.2) ∧
      ∀ base : Heap, K.In base → base.Ns mainGlobals mg → (∀ p ∈ cs, LamX.TabB base mg p.1 p.2) → FnA l.prog w K mg base G k fa sem)
    (hsem : ∀ ns : List Int, ns.length ≤ n → (∀ z ∈ ns, Builtin.Int.intBits z ≤ 1048576) → ∃ S, sem [.scr (ns.map D.int)] (tbls m) = some (.ok (.bl true), S)) :
    PySem.W.WalkO q loose XP YP l.row.toRowW d [] (fun f vs => PySem.call f vs) := by
  refine Att.attach_callB hn hdf fun w s₀ s₁ mg mb fa o pm cd doc a vs ns Gr Y ho hd hcd hmg hobj hints hlen hbits hg => ?_
  obtain ⟨K, G, cs, KX, cK, rfl, hT, nT, C, nd, hta, hF⟩ := F w mg fa _ Y Gr.T.g hmg
  exact end_callT KX Gr.T.g Gr.T.b Gr.T.builtins Gr.T.nolimit hg hT nT C nd Gr.T.bmain hobj hints (Nat.le_trans hlen hn2) hr cK hta hF (hsem ns hlen hbits)
end Ev
set_option maxRecDepth 100000
set_option maxHeartbeats 4000000
namespace Ev
open PySem PySem.Spec PyProof.Rows L2
def excSuite (st : Stmt) : List Stmt := match defBody st with
  | [.Try _ [.ExceptHandler _ _ s _] _ _ _] => s
  | _ => []
theorem ctxSu {P : Program} {w : World} {K : PySem.W.Frag} {mg : Str → Option Value} {base : Heap} {G : Sg} {N : List Str} {qual : Str} {st : Stmt} {f : Addr} {cdv : Value} {A : Around} {fr : List Env} {s : Shared} {H : Hp} {k : Nat} {a dd Dc : Addr} {oe : Obj} {pn : List (Addr × Obj)} {ps : List Str} (cK : G.K = K) (SC : FnScope N ps (defScope st))
    (hr : Rm G.gd (k + 1) (A.deeper (envOfC qual (defScope st) s.heap.objs.size f cdv))) (hz : L2N.Zn (.ref Dc) (some dd) oe) (hv : ∃ vs, oe.data = .fields vs) : CtxH G ((XC P w K mg base N qual st f cdv A fr s H).nox.suite a ((a, oe) :: pn)) (k + 1) a dd Dc := by
  refine ⟨cK, SC.nd, ⟨hr.room.dp, hr.room.un⟩, hr.gd, oe, List.mem_cons_self, ⟨rfl, ?_⟩, hz, hv⟩
  obtain ⟨vs, e⟩ := hv
  exact ⟨vs, e, hz.2.2 vs e⟩
theorem FnHA.mono {P : Program} {w : World} {K : PySem.W.Frag} {mg : Str → Option Value} {base : Heap} {G : Sg} {j k : Nat} {f Dc : Addr} {sem : Addr → Addr → List D → M D} (F : FnHA P w K mg base G j f Dc sem) (h : j ≤ k) : FnHA P w K mg base G k f Dc sem :=
  ⟨fun A fr s H us vs Q a dd o hr => F.run A fr s H us vs Q a dd o (hr.mono h), F.kp⟩
def tellM (l : List Int) (d : D) : M D := M.bind (dRepr d) fun u => M.pure (.lst (l.map .int ++ [u]))
theorem dRepr_two (d : D) : (∃ u, dRepr d = M.pure u) ∨ dRepr d = dReprP d := by
  cases d with
  | dct ks ds =>
    cases ks with
    | nil =>
      cases ds with
      | nil => exact .inl ⟨_, rfl⟩
      | cons _ _ => exact .inr rfl
    | cons _ _ => exact .inr rfl
  | _ => exact .inr rfl
theorem dRepr_cases (d : D) : (∃ u, dRepr d = M.pure u) ∨ dRepr d = M.stuck := by
  rcases dRepr_two d with h | h
  · exact .inl h
  rw [h]
  unfold dReprP
  rcases toP d with _ | p
  · exact .inr rfl
  · simp only
    by_cases h : reprOk p = true
    · rw [if_pos h]
      exact .inl ⟨_, rfl⟩
    · rw [if_neg h]
      exact .inr rfl
theorem dRepr_at {d u : D} {S S' : List Ob} (h : dRepr d S = some (.ok u, S')) : S' = S ∧ dRepr d = M.pure u := by
  rcases dRepr_cases d with ⟨u', e⟩ | e
  · rw [e] at h
    have h2 : some (Except.ok u', S) = some (Except.ok u, S') := h
    cases h2
    exact ⟨rfl, e⟩
  · rw [e] at h
    cases h
theorem dRepr_noerr {d : D} {x : Exn} {S S' : List Ob} : dRepr d S ≠ some (.error x, S') := by
  intro h
  rcases dRepr_cases d with ⟨u', e⟩ | e
  · rw [e] at h
    cases h
  · rw [e] at h
    cases h
theorem tellM_at {l : List Int} {d : D} {S : List Ob} {o : Except Exn D × List Ob} (h : tellM l d S = some o) : ∃ u, dRepr d = M.pure u ∧ o = (.ok (.lst (l.map .int ++ [u])), S) := by
  unfold tellM M.bind at h
  rcases hd : dRepr d S with _ | ⟨x | u, S1⟩
  · rw [hd] at h; cases h
  · exact absurd hd dRepr_noerr
  · obtain ⟨rfl, e⟩ := dRepr_at hd
    rw [hd] at h
    exact ⟨u, e, (Option.some.inj h).symm⟩
def isaC (sub : Nat → Option Bool) (bt : String → Option Bool) : D → M D
  | .cls c => match sub c with | some r => M.pure (.bl r) | none => M.stuck
  | .raw (.ty n) _ _ _ => match bt n with | some r => M.pure (.bl r) | none => M.stuck
  | _ => M.stuck
theorem isaH_at {a dd : Addr} {sub : Nat → Option Bool} {bt : String → Option Bool} {f : Str} {fs : List Str} {ds : List D} (e : D) : isaH a dd sub bt (.raw (.ref a) dd (f :: fs) ds) e = isaC sub bt e := by
  cases e with
  | raw u d2 f2 e2 => cases u <;> simp [isaH, isaC] <;> rfl
  | _ => simp [isaH, isaC] <;> rfl
theorem attrH_at {a dd : Addr} {f n : Str} {d : D} : attrH a dd n (.raw (.ref a) dd [f] [d]) = if f = n then M.pure d else M.stuck := by
  simp [attrH]
end Ev
set_option maxHeartbeats 1000000
namespace Ev
theorem spots_keep {t : TgP} {fe : List SV → M D} {sdw : List SV} {n : Nat} (I : List Ob → Prop) (hn : n ≤ 100) (S : List Ob) (hI : I S)
    (turn : ∀ i : Int, 0 ≤ i → i < 100 → ∀ S, I S → ∃ sd1, t (.int i) sdw = some sd1 ∧ Wp (fe sd1) S fun y S' => y = .bl true ∧ I S') :
    Wp (compS t (fun _ => M.pure true) fe sdw (rngD 0 n) []) S fun acc _ => dAll (.lst acc) = M.pure (.bl true) := by
  refine go_comp (J := fun ds acc S => I S ∧ (∀ d ∈ ds, ∃ i : Int, d = .int i ∧ 0 ≤ i ∧ i < 100) ∧ (∀ a ∈ acc, a = .bl true) ∧ acc.length + ds.length ≤ 100) ?_ (fun acc S h => all_true h.2.2.1) _ _ _ ⟨hI, fun d hd => ?_, fun a ha => absurd ha List.not_mem_nil, ?_⟩
  · rintro d ds acc S ⟨hi, hd, ha, hl⟩
    obtain ⟨i, rfl, h0, h1⟩ := hd d List.mem_cons_self
    obtain ⟨sd1, e, hw⟩ := turn i h0 h1 S hi
    rw [List.length_cons] at hl
    refine ⟨sd1, e, by unfold lim; omega, go_pure (ite_t (hw.mono ?_))⟩
    rintro y S2 ⟨rfl, hi2⟩
    refine ⟨hi2, fun d q => hd d (List.mem_cons_of_mem _ q), fun a q => ?_, ?_⟩
    · rcases List.mem_append.mp q with q | q
      · exact ha a q
      · exact List.mem_singleton.mp q
    · rw [List.length_append, List.length_singleton]
      omega
  · obtain ⟨i, e, h0, h1⟩ := rng_mem hd
    exact ⟨i, e, h0, by omega⟩
  · rw [rng_len, List.length_nil]
    omega
open PySem PySem.Spec PyProof.Rows L2 in
theorem errT_of {K : PySem.W.Frag} {mg : Str → Option Value} {G : Sg} {cx : Nat} {x : Str} {C fI : Addr} {fd : FuncData} {st : Stmt} {qual slf par f : Str} (hx : G.xc cx = .ref C) (hm : mg x = some (.ref C)) (hf : G.xf cx = f) (O : OexG K C)
    (hi : PySem.W.findIn K (.ref C) "__init__" = some (some (.ref fI))) (ht : PySem.W.typeIn K (.ref fI) = some (.type "function")) (hn : PySem.W.findIn K (.ref C) f = some none) (F : Fun K "__init__" qual st fI fd) (hb : L2.Binds K fd [slf, par] [])
    (S : FnScope [slf, par] [slf, par] (defScope st)) (E : ErrForm st f slf par) (d1 : (slf == ("__debug__" : Str)) = false) (d2 : (slf == ("__classdict__" : Str)) = false) (d3 : (par == ("__debug__" : Str)) = false) (d4 : (par == ("__classdict__" : Str)) = false) : ErrT K mg G cx x := by
  subst hf
  exact ⟨C, fI, fd, st, qual, slf, par, hx, hm, O, hi, ht, hn, F, hb, S, E, ⟨d1, d2⟩, d3, d4⟩
end Ev
set_option maxRecDepth 100000
set_option maxHeartbeats 1000000
namespace Ev
open PySem L2
@[irreducible] def Xp {α : Type} (f : M α) (S : List Ob) (P : α → List Ob → Prop) (E : Exn → List Ob → Prop) : Prop := match f S with
  | some (.ok a, S') => P a S'
  | some (.error e, S') => E e S'
  | none => False
@[irreducible] def Xs (m : MS) (sd : List SV) (S : List Ob) (N : List SV → List Ob → Prop) (R : D → List Ob → Prop) (B C : List SV → List Ob → Prop) (E : Exn → List Ob → Prop) : Prop := match m sd S with
  | some (.next sd', S') => N sd' S'
  | some (.ret d, S') => R d S'
  | some (.brk sd', S') => B sd' S'
  | some (.cont sd', S') => C sd' S'
  | some (.err e _, S') => E e S'
  | none => False
section
variable {α β : Type} {f : M α} {S : List Ob} {P P' : α → List Ob → Prop} {E E' : Exn → List Ob → Prop} {sd : List SV} {N N' : List SV → List Ob → Prop} {R R' : D → List Ob → Prop} {B B' C C' : List SV → List Ob → Prop} {m1 m2 : MS}
theorem xp_wp (h : Wp f S P) : Xp f S P E := by
  obtain ⟨a, S', e, q⟩ := h.ex
  unfold Xp
  rw [e]
  exact q
theorem xp_err {e : Exn} (h : E e S) : Xp (M.err e : M α) S P E := by
  unfold Xp M.err
  exact h
theorem xp_bad {e : Exn} (z : f = M.err e) (h : E e S) : Xp f S P E := by
  subst z
  exact xp_err h
theorem xp_bind {k : α → M β} {Q : β → List Ob → Prop} (h : Xp f S (fun a S' => Xp (k a) S' Q E) E) : Xp (M.bind f k) S Q E := by
  unfold Xp M.bind at *
  rcases hf : f S with _ | ⟨_ | a, S'⟩
  · rw [hf] at h; exact h
  · rw [hf] at h; exact h
  · rw [hf] at h; exact h
theorem Xp.mono (h : Xp f S P E) (i : ∀ a S', P a S' → P' a S') (j : ∀ e S', E e S' → E' e S') : Xp f S P' E' := by
  unfold Xp at *
  rcases hf : f S with _ | ⟨_ | a, S'⟩
  · rw [hf] at h; exact h
  · rw [hf] at h; exact j _ _ h
  · rw [hf] at h; exact i _ _ h
theorem Xp.err {e : Exn} (h : Xp f S (fun _ _ => False) (fun e' S' => e' = e ∧ S' = S)) : f S = some (.error e, S) := by
  unfold Xp at h
  rcases hf : f S with _ | ⟨e' | a, S'⟩
  · rw [hf] at h; exact h.elim
  · rw [hf] at h
    obtain ⟨rfl, rfl⟩ := h
    rfl
  · rw [hf] at h; exact h.elim
theorem err_eq {e : Exn} (h : ∀ S, Xp f S (fun _ _ => False) (fun e' S' => e' = e ∧ S' = S)) : f = M.err e := by
  funext S
  exact (h S).err
theorem xs_next (h : N sd S) : Xs nextS sd S N R B C E := by
  unfold Xs
  exact h
theorem xs_seq (h : Xs m1 sd S (fun sd' S' => Xs m2 sd' S' N R B C E) R B C E) : Xs (seqS m1 m2) sd S N R B C E := by
  unfold Xs seqS at *
  rcases e : m1 sd S with _ | ⟨_ | _ | _ | _ | _, S'⟩
  all_goals (rw [e] at h; exact h)
theorem xs_exX {g : List SV → M α} {k : α → MS} (h : Xp (g sd) S (fun a S' => Xs (k a) sd S' N R B C E) E) : Xs (exS g k) sd S N R B C E := by
  unfold Xp at h
  unfold Xs exS
  unfold Xs at h
  rcases e : g sd S with _ | ⟨_ | a, S'⟩
  · rw [e] at h; exact h
  · rw [e] at h; exact h
  · rw [e] at h; exact h
theorem xs_ex {g : List SV → M α} {k : α → MS} (h : Wp (g sd) S fun a S' => Xs (k a) sd S' N R B C E) : Xs (exS g k) sd S N R B C E := xs_exX (xp_wp h)
theorem xs_if {g : List SV → M Bool} (h : Wp (g sd) S fun k S' => if k = true then Xs m1 sd S' N R B C E else Xs m2 sd S' N R B C E) : Xs (exS g fun k => if k = true then m1 else m2) sd S N R B C E :=
  xs_ex (h.mono fun k S' q => by cases k <;> exact q)
theorem xs_raise {c : Nat} {g : List SV → M D} (h : Wp (g sd) S fun d S' => E ⟨c, some d⟩ S') : Xs (raiseS c g) sd S N R B C E := by
  unfold raiseS
  refine xs_ex (h.mono fun d S' q => ?_)
  unfold Xs
  exact q
theorem xs_expr {g : List SV → M α} (h : Xp (g sd) S (fun _ S' => N sd S') E) : Xs (exS g fun _ => nextS) sd S N R B C E := xs_exX (h.mono (fun _ _ q => xs_next q) fun _ _ q => q)
theorem xp_get {i : Nat} {d : D} {PD : D → List Ob → Prop} (e : sd[i]? = some (.val d)) (h : PD d S) : Xp (getv i sd) S PD E := xp_wp (go_get e h)
theorem xp_pure {a : α} (h : P a S) : Xp (M.pure a) S P E := xp_wp (go_pure h)
theorem xp_val {r : α} (e : f = M.pure r) (h : P r S) : Xp f S P E := xp_wp (go_val e h)
theorem xp_ite {c : Prop} [Decidable c] {g : M α} (h : if c then Xp f S P E else Xp g S P E) : Xp (if c then f else g) S P E := by
  by_cases z : c
  · rw [if_pos z] at h ⊢
    exact h
  · rw [if_neg z] at h ⊢
    exact h
theorem xs_asgX {g : List SV → M D} {i : Nat} (h : Xp (g sd) S (fun d S' => N (sd.set i (.val d)) S') E) : Xs (asgS g (setT i)) sd S N R B C E := by
  unfold asgS
  refine xs_exX (h.mono (fun d S' q => ?_) fun _ _ h => h)
  unfold Xs
  exact q
theorem xs_asg {g : List SV → M D} {i : Nat} (h : Wp (g sd) S fun d S' => N (sd.set i (.val d)) S') : Xs (asgS g (setT i)) sd S N R B C E := xs_asgX (xp_wp h)
theorem xs_for {g : List SV → M (List D)} {t : Tgt} {body : MS} (h : Wp (g sd) S fun ds S' => Xs (loopS t body ds) sd S' N R B C E) : Xs (forS g t body) sd S N R B C E := by
  unfold forS
  exact xs_ex h
theorem xp_fn {m n : Nat} {ms : MS} {ds : List D} {P : D → List Ob → Prop} (l : ds.length = m) (h : Xs ms (slots n (ds.map .val)) S (fun _ S' => P .non S') P (fun _ _ => False) (fun _ _ => False) E) : Xp (runFn m n ms ds) S P E := by
  unfold Xp runFn
  unfold Xs at h
  rw [if_pos l]
  rcases e : ms (slots n (ds.map .val)) S with _ | ⟨_ | _ | _ | _ | _, S'⟩
  all_goals (rw [e] at h; exact h)
theorem xp_mk {c m n : Nat} {ms : MS} {ds : List D} {P : D → List Ob → Prop} (l : ds.length + 1 = m) (h : Xs ms (slots n (.own (.ins c []) :: ds.map .val)) S (fun sd S' => ∃ es, sd[0]? = some (.own (.ins c es)) ∧ P (.ins c es) S') (fun _ _ => False) (fun _ _ => False) (fun _ _ => False) E) : Xp (mkFn c m n ms ds) S P E := by
  unfold Xp mkFn
  unfold Xs at h
  rw [if_pos l]
  rcases e : ms (slots n (.own (.ins c []) :: ds.map .val)) S with _ | ⟨sd | _ | _ | _ | _, S'⟩
  · rw [e] at h; exact h
  · rw [e] at h
    obtain ⟨es, e1, q⟩ := h
    have e3 : mkR c (some (Out.next sd, S')) = some (.ok (.ins c es), S') := by
      show (match sd[0]? with
        | some (SV.own (Ob.ins c' es)) => if c' = c then some (Except.ok (D.ins c es), S') else none
        | _ => none) = _
      rw [e1]
      exact if_pos rfl
    rw [e3]
    exact q
  all_goals (rw [e] at h; exact h)
theorem p_neZi {i : Int} {e : D} {PD : D → List Ob → Prop} (h : Wp (dEq true (.int i) e) S PD) : Wp (dNeZ (.int i) e) S PD := by
  cases e <;> exact h
theorem p_neZs {x : Str} {e : D} {PD : D → List Ob → Prop} (h : Wp (dEq true (.str x) e) S PD) : Wp (dNeZ (.str x) e) S PD := by
  cases e <;> exact h
theorem p_neZl {ds : List D} {e : D} {PD : D → List Ob → Prop} (h : Wp (dEq true (.lst ds) e) S PD) : Wp (dNeZ (.lst ds) e) S PD := by
  cases e <;> exact h
theorem p_neZt {ds : List D} {e : D} {PD : D → List Ob → Prop} (h : Wp (dEq true (.tup ds) e) S PD) : Wp (dNeZ (.tup ds) e) S PD := by
  cases e <;> exact h
theorem p_neZn {e : D} {PD : D → List Ob → Prop} (h : Wp (dEq true .non e) S PD) : Wp (dNeZ .non e) S PD := by
  cases e <;> exact h
theorem p_neZb {b : Bool} {e : D} {PD : D → List Ob → Prop} (h : Wp (dEq true (.bl b) e) S PD) : Wp (dNeZ (.bl b) e) S PD := by
  cases e <;> exact h
end
end Ev
local macro_rules | `(tactic| regstrif_gather) => `(tactic| first
  | ((with_reducible show Ev.Xs _ (List.set _ _ _) _ _ _ _ _ _); simp only [List.set_cons_zero, List.set_cons_succ])
  | with_reducible refine Ev.xs_seq ?_
  | with_reducible refine Ev.xs_next ?_
  | with_reducible refine Ev.xs_if ?_
  | with_reducible refine Ev.xs_raise ?_
  | with_reducible refine Ev.xp_bind ?_
  | with_reducible refine Ev.xs_expr ?_
  | with_reducible refine Ev.xs_asg ?_
  | with_reducible refine Ev.xp_pure ?_
  | ((with_reducible show Ev.Xp (Ev.getv _ _) _ _ _); refine Ev.xp_get (by exact rfl) ?_)
  | with_reducible refine Ev.xp_ite ?_
  | ((with_reducible show Ev.Xp _ _ _ _); refine Ev.xp_wp ?_; regstrif_gather)
  | with_reducible refine Ev.p_neZi ?_
  | with_reducible refine Ev.p_neZs ?_
  | with_reducible refine Ev.p_neZl ?_
  | with_reducible refine Ev.p_neZt ?_
  | with_reducible refine Ev.p_neZn ?_
  | with_reducible refine Ev.p_neZb ?_
  | with_reducible refine Ev.xs_for ?_)
set_option maxRecDepth 100000
set_option maxHeartbeats 4000000
namespace Ev
open PySem PySem.Spec PyProof.Rows L2
end Ev
set_option maxRecDepth 100000
set_option maxHeartbeats 2000000
namespace Ev
open PySem PySem.Spec PyProof.Rows L2
end Ev
set_option maxRecDepth 100000
set_option maxHeartbeats 4000000
namespace Ev
open PySem PySem.Spec PyProof.Rows L2 GenW
theorem out_pins {X : Cx} {W : WX} {E : XK} {s1 : Shared} (hs : X.stack = X.env :: X.outer) (hf : X.env.frame = some X.env.locals) (hx : X.ex = []) (hW : ∀ c d σ H, W c d σ H → E c d H) {x : Value} {E1 : Value → Shared → Prop} (z : L2N.XE X W x s1) :
    wpAny (model X.prog X.w) X.A (leaving X.env x) (fun _ s2 => L2N.CX X.prog X.w X.outer X.H_0 X.s_0 E x s2 ∧ ∀ p ∈ X.pn, s2.heap.get? p.1 = some p.2) E1 s1 := by
  obtain ⟨a, B, t, pins, σ, H, c, d, rfl, J, ground, rise, air, fresh, same, bare, hw⟩ := z
  have frames : X.A.frames = some (X.env :: X.outer) := by rw [J.ok.frames, hs]
  have older : ∀ b o, X.s_0.heap.get? b = some o → b ∉ X.fs → b ∉ frs X.stack := by
    intro b o eb nb mb
    cases List.mem_cons.mp (J.stkSub b mb) with
    | inr q => exact nb q
    | inl q =>
      have l := Nat.lt_of_lt_of_le (Heap.lt_size eb) J.ok.above
      rw [q] at l
      exact absurd l (Nat.lt_irrefl _)
  have noEx : ∀ b, b ∉ X.ex := by
    intro b m
    rw [hx] at m
    cases m
  have inB : ∀ p ∈ X.pn, B.get? p.1 = some p.2 := by
    intro p m
    obtain ⟨i1, _, i3, i4, _⟩ := J.pin p (List.mem_append_left _ m)
    apply ground _ _ i1
    intro m2
    cases List.mem_cons.mp (J.stkSub p.1 m2) with
    | inl q => exact i3 q
    | inr q => exact i4 q
  have last : ∀ h2, HandSPX.FlyingZ B X.outer a (L2N.Zn c d) h2 → s1.heap.UpToSlots h2 →
      (L2N.CX X.prog X.w X.outer X.H_0 X.s_0 E (.ref a) { s1 with heap := h2 } ∧ ∀ p ∈ X.pn, ({ s1 with heap := h2 } : Shared).heap.get? p.1 = some p.2) := by
    intro h2 fly rise2
    refine ⟨⟨a, B, H, c, d, rfl, fly, J.inGround ground, ?_, fresh, same.trans J.os, bare, hW _ _ _ _ hw⟩, fun p m => fly.1 _ _ (inB p m)⟩
    constructor
    · intro b o e n nb
      exact ground b o (J.base.keep b o e n nb (noEx b)) (older b o e nb)
    · intro b o e mb
      obtain ⟨_, o2, e2, nf⟩ := J.ok.funs.mem mb
      rw [e] at e2
      cases e2
      obtain ⟨l1, r1⟩ := J.base.slot b o e (J.ok.frf b mb) mb (noEx b)
      obtain ⟨l2, r2⟩ := rise b _ r1 nf
      obtain ⟨l3, r3⟩ := rise2 b _ r2 nf
      exact ⟨l3, r3⟩
    · exact fun b o e n => J.base.free b o e n (noEx b)
    · intro b o e nb
      obtain ⟨o2, r⟩ := J.base.there b o e (noEx b)
      exact ⟨o2, ground b o2 r (older b o e nb)⟩
    · exact J.base.tups
    · exact J.base.frzs
    · exact J.base.tbls
  rw [hs] at air
  rcases air with ⟨k1, k2, k3, oe, vs, k4, k5, k6, k7⟩ | fly | held
  · exact PXN.leaving_firstZ L2N.Zn.steady frames k3 hf k4 k1 k2 k6 k7 k5 last
  · exact PXN.leaves_onZ L2N.Zn.steady frames hf fly last
  · exact HandSPX.leaves_heldZ hf held last
section
variable {P : Program} {w : World} {K : PySem.W.Frag} {mg : Str → Option Value} {base : Heap} {N ps : List Str} {qual : Str} {sc : Scope} {f : Addr} {cdv : Value} {A : Around} {fr : List Env} {s : Shared} {H : Hp} {E : XK} {pn : List (Addr × Obj)}
abbrev cxN (P : Program) (w : World) (K : PySem.W.Frag) (mg : Str → Option Value) (base : Heap) (N : List Str) (qual : Str) (sc : Scope) (f : Addr) (cdv : Value) (A : Around) (fr : List Env) (s : Shared) (H : Hp) (E : XK) (pn : List (Addr × Obj)) : Cx :=
  (gcxOf P w K mg base N qual sc f cdv A fr s H E pn).tr pn fun x s1 => wpAny (model P w) (A.deeper (envOfC qual sc s.heap.objs.size f cdv)) (leaving (envOfC qual sc s.heap.objs.size f cdv) x)
    (fun _ s2 => L2N.CX P w fr H s E x s2 ∧ ∀ p ∈ pn, s2.heap.get? p.1 = some p.2) (fun _ _ => False) s1
theorem takes_cxN : L2N.Takes (cxN P w K mg base N qual sc f cdv A fr s H E pn) (WF E) := fun x s1 z =>
  out_pins (X := cxN P w K mg base N qual sc f cdv A fr s H E pn) (E := E) rfl rfl rfl (fun _ _ _ _ h => h) z
theorem owns_cxN : PassesOwn (model P w) (cxN P w K mg base N qual sc f cdv A fr s H E pn).A (cxN P w K mg base N qual sc f cdv A fr s H E pn).env (cxN P w K mg base N qual sc f cdv A fr s H E pn).xe :=
  passes_of (X := cxN P w K mg base N qual sc f cdv A fr s H E pn) (K := fun x s2 => L2N.CX P w fr H s E x s2 ∧ ∀ p ∈ pn, s2.heap.get? p.1 = some p.2) (E₁ := fun _ _ => False) rfl
def GoodN (P : Program) (w : World) (fr : List Env) (H : Hp) (s : Shared) (S : Addr) (Q : List V → Hp → Prop) (s1 : Shared) : Prop :=
  ∃ (H2 : Hp) (ys : List V) (acc : Array Value) (c : Nat), s1.os = s.os ∧ AllBare s1.gens ∧ Un (frs fr) [] H H2 s.heap s1.heap ∧ HOk P w H2 s1.heap ∧ H2 S = none ∧ s1.heap.get? S = some (lstObj acc c) ∧ Vals ys acc.toList ∧ ys.length ≤ sizeLine ∧ Q ys H2
def EndN (P : Program) (w : World) (fr : List Env) (H : Hp) (s : Shared) (S a : Addr) (g : Nat) (Q : List V → Hp → Prop) (E : XK) : GenEnd := fun n s0 r s1 =>
  ((r = .ok (.ret .none) ∨ r = .ok .next) ∧ GoodN P w fr H s S Q s1) ∨ ∃ x, r = .error x ∧ L2N.CX P w fr H s E x s1 ∧ s1.heap.IsGen a g
structure MadeN (P : Program) (w : World) (k : Nat) (fr : List Env) (H : Hp) (s : Shared) (Q : List V → Hp → Prop) (E : XK) (a : Addr) (g : Nat) (c : Code) (t : Shared) : Prop where
  new : s.heap.objs.size ≤ a
  lt : a < t.heap.objs.size
  gen : t.heap.IsGen a g
  st : t.gens[g]? = some (.fresh c)
  os : t.os = s.os
  bare : AllBare t.gens
  lim : t.heap.NoLimit
  kp : ∀ b o, s.heap.get? b = some o → t.heap.get? b = some o
  wake : ∀ (B : Around) (S : Addr) (s2 : Shared), Room k B → B.frames = some fr → t.heap.objs.size ≤ S → (∀ b o, t.heap.get? b = some o → s2.heap.get? b = some o) → (∃ c, s2.heap.get? S = some (lstObj #[] c)) → s2.os = s.os → AllBare s2.gens →
    Seg (model P w) B (EndN P w fr H s S a g Q E) (YItem s S a g) sizeLine s2 c ((model P w).den c) [] s2
def Young (sc : Scope) (fr : List Env) (s : Shared) (H : Hp) (b : Addr) : Prop :=
  H b = none ∧ b ≠ s.heap.objs.size ∧ b ∉ frs fr ∧ s.heap.objs.size ≤ b ∧ ∀ y c, (cellsFrom (s.heap.objs.size + 1) sc.names []).lookup y = some c → c ≠ b
theorem wake_n {body : List Stmt} {s2 : Shared} {S a : Addr} {g c0 : Nat} {go : Obj} {σ : L2.St} {t : TGn} {Q : List V → Hp → Prop} (gn : ∀ h : Heap, h.get? a = some go → h.IsGen a g) (gd : ∀ v, go.data ≠ .cell v)
    (I : Inv (gcxOf P w K mg base N qual sc f cdv A fr s H E []) [] σ H s2) (ea : s2.heap.get? a = some go) (eS : s2.heap.get? S = some (lstObj #[] c0)) (ya : Young sc fr s H a) (yS : Young sc fr s H S) (ne : a ≠ S)
    (B : GSs (cxN P w K mg base N qual sc f cdv A fr s H E [(a, go)]) body t) (q : t { nx := fun ys _ H' => Q ys H', rt := fun ys v H' => v = .non ∧ Q ys H' } [] σ H) :
    Seg (model P w) A (EndN P w fr H s S a g Q E) (YItem s S a g) sizeLine s2 (.func body (envOfC qual sc s.heap.objs.size f cdv)) ((model P w).den (.func body (envOfC qual sc s.heap.objs.size f cdv))) [] s2 := by
  have pins : ∀ p ∈ [(a, go)] ++ [(S, lstObj #[] c0)], s2.heap.get? p.1 = some p.2 ∧ H p.1 = none ∧ p.1 ≠ s.heap.objs.size ∧ p.1 ∉ frs fr ∧ ∀ v, p.2.data ≠ .cell v := by
    intro p m
    rcases List.mem_append.mp m with m | m
    · cases List.mem_singleton.mp m
      exact ⟨ea, ya.1, ya.2.1, ya.2.2.1, gd⟩
    · cases List.mem_singleton.mp m
      exact ⟨eS, yS.1, yS.2.1, yS.2.2.1, fun v z => by cases z⟩
  have J : Inv (cxN P w K mg base N qual sc f cdv A fr s H E [(a, go)]) [(S, lstObj #[] c0)] σ H s2 :=
    ⟨I.ok.toTry _ _, I.os, I.bare, I.base, I.loc, I.cell, I.free, I.freeC, pins, I.hok, I.len⟩
  have still : ∀ {ip : List (Addr × Obj)} {ys : List V} {s3 : Shared} {σ3 : L2.St} {H3 : Hp}, GI (cxN P w K mg base N qual sc f cdv A fr s H E [(a, go)]) S ip ys σ3 H3 s3 → s3.heap.IsGen a g := by
    rintro ip ys s3 σ3 H3 ⟨_, _, _, J3⟩
    exact gn _ (J3.pin (a, go) (List.mem_append_left _ (List.mem_singleton.mpr rfl))).1
  apply seg_func
  refine seg_imp (R := GR (cxN P w K mg base N qual sc f cdv A fr s H E [(a, go)]) S (fun ys v H' => v = .non ∧ Q ys H') fun x s3 => L2N.CX P w fr H s E x s3 ∧ ∀ p ∈ [(a, go)], s3.heap.get? p.1 = some p.2)
    (Y := GY (cxN P w K mg base N qual sc f cdv A fr s H E [(a, go)]) S) ?_ ?_ sizeLine ?_
  · intro n s0 r s3 hr
    match r, hr with
    | .error x, ⟨z1, z2⟩ => exact .inr ⟨x, rfl, z1, gn _ (z2 (a, go) (List.mem_singleton.mpr rfl))⟩
    | .ok .next, z => exact z.elim
    | .ok .brk, z => exact z.elim
    | .ok .cont, z => exact z.elim
    | .ok (.ret u), ⟨ys, v, ip, σ3, H3, hn, hI, rv, ev, hq⟩ =>
      subst ev
      obtain rfl : u = Value.none := rv
      obtain ⟨nS, _, _, acc, cc, ra, e3⟩ := hI.at
      obtain ⟨_, _, _, J3⟩ := hI
      exact .inl ⟨.inl rfl, H3, ys, acc, cc, J3.os, J3.bare, J3.base, J3.hok, nS, e3, ra, by omega, hq⟩
  · rintro n s0 v s3 k1 k2 hk ⟨ys, x, ip, σ3, H3, hn, rx, hI, hs⟩
    have sg := still hI
    obtain ⟨_, _, _, acc, cc, ra, e3⟩ := hI.at
    obtain ⟨_, _, _, J3⟩ := hI
    have l := ra.length
    have l2 : acc.toList.length = acc.size := by simp
    exact ⟨J3.os, J3.bare, J3.nolimit, sg, ⟨acc, cc, e3, by omega⟩, fun s4 z => hk _ _ (hs s4 z)⟩
  · refine B.run A S [] _ sizeLine [] s2 _ [] _ _ id id s2 σ H _ ⟨?_, ?_, ⟨yS.2.2.2.1, yS.2.1, yS.2.2.2.2⟩, over_func, rfl, rfl, rfl⟩ (Nat.add_zero _) ⟨?_, ?_⟩ ⟨#[], c0, .nil, J⟩ q
    · intro p m
      cases List.mem_singleton.mp m
      exact ne
    · intro p m
      cases m
    · intro n ys s0 s3 fl hn hs
      match fl, hs with
      | .brk, ⟨_, _, _, z⟩ => exact z.elim
      | .cont, ⟨_, _, _, z⟩ => exact z.elim
      | .next, ⟨σ3, H3, hI, hq⟩ => exact seg_end (.ok (.ret .none)) ⟨ys, .non, [], σ3, H3, hn, hI, rfl, rfl, hq⟩
      | .ret u, ⟨v, σ3, H3, hI, rv, ev, hq⟩ => exact seg_end (.ok (.ret u)) ⟨ys, v, [], σ3, H3, hn, hI, rv, ev, hq⟩
    · intro n s0 x s3 hx
      apply seg_wrap
      rw [over_func]
      exact wpAny_mono hx (fun _ s4 z => seg_end (.error x) z) fun _ _ z => z.elim
theorem made_n {k : Nat} {x : Str} {params : Arguments} {body : List Stmt} {dV kV doc pm ct oc : Value} {an od : Option Addr} {osl : Array (Option Value)} {args : Args} {us : List Value} {vs : List V} {Q : List V → Hp → Prop}
    (lk : K.lookup f = some ⟨oc, od, .func (PySem.W.fnOf x qual params body sc dV kV doc pm an cdv ct), osl⟩) (hcd : PySem.W.codeIn K cdv qual = true) (SC : GScope N ps sc) (hl : vs.length = ps.length) (hr : Room (k + 1) A) (e0 : Env0 P w K mg base A fr s H)
    (hb : BindsTo s (PySem.W.fnOf x qual params body sc dV kV doc pm an cdv ct) args (ps.zip us)) (rv : Vals vs us)
    (hbody : ∀ (B : Around) (pn : List (Addr × Obj)), Room k (B.deeper (envOfC qual sc s.heap.objs.size f cdv)) → ∃ t, GSs (cxN P w K mg base N qual sc f cdv B fr s H E pn) body t ∧ t { nx := fun ys _ H' => Q ys H', rt := fun ys v H' => v = .non ∧ Q ys H' } [] (start N vs) H) :
    codeAny (model P w) A (.call (.ref f) args) (fun r t => match r with | .ok (.ret u) => ∃ a g c, u = .ref a ∧ MadeN P w (k + 1) fr H s Q E a g c t | _ => False) s := by
  have kin : K.In s.heap := e0.mod.kin.keeps fun b o e => (e0.bs b o e).1
  have lim : s.heap.NoLimit := e0.mod.nolimit.keeps fun b o e => (e0.bs b o e).1
  refine codeAny_call_generator hr.depth (kin _ _ lk) rfl SC.co SC.gen rfl (PySem.W.codeRec_of kin hcd) (hb _ _ _ _ ?_)
  refine wpAny_newFunctionEnv_cells SC.kind ?_ ?_
  · rintro ⟨n, v⟩ hy
    cases SC.par n (List.of_mem_zip hy).1 with
    | inl q => exact .inl q
    | inr q => exact .inr ⟨q, PySem.W.cellsFrom_some _ _ _ (.inl q)⟩
  · rintro env rfl t1 fresh
    have l1 : t1.heap.NoLimit := lim.keeps fresh.toInCall.keep
    refine ⟨l1, ?_⟩
    obtain ⟨h1, tk, e1, hk1⟩ := fresh.done
    have os1 : t1.os = s.os := by rw [e1]
    have gens1 : t1.gens = s.gens := by rw [e1]
    have grown : s.heap.objs.size < t1.heap.objs.size := fresh.toInCall.ns.lt
    have kp1 := fresh.toInCall.keep
    have made : ∀ (go : Obj) (nm qn : Value) (tk2 : Nat), go.cls = .type "generator" → go.data = .fields #[.int t1.gens.size 0, nm, qn] → go.slots = #[] → (∀ h : Heap, (h.push go).get? h.objs.size = some go) →
        MadeN P w (k + 1) fr H s Q E t1.heap.objs.size t1.gens.size (.func body (envOfC qual sc s.heap.objs.size f cdv)) { t1 with gens := t1.gens.push (.fresh (.func body (envOfC qual sc s.heap.objs.size f cdv))), toks := tk2, heap := t1.heap.push go } := by
      intro go nm qn tk2 gc gdt gs gp
      have isg : ∀ h : Heap, h.get? t1.heap.objs.size = some go → h.IsGen t1.heap.objs.size t1.gens.size := fun h e => ⟨go, nm, qn, e, gc, gdt, gs⟩
      refine ⟨Nat.le_of_lt grown, ?_, isg _ (gp _), Array.getElem?_push_size .., os1, ?_, l1.keeps fun b o e => Heap.get?_push_of_some _ e, fun b o e => Heap.get?_push_of_some _ (kp1 b o e), ?_⟩
      · show _ < (t1.heap.push _).objs.size
        rw [Heap.size_push]
        exact Nat.lt_succ_self _
      · exact AllBare.push (by rw [gens1]; exact e0.bare) rfl
      · intro B S s2 rB fB hS k2 ⟨c0, eS⟩ os2 ba2
        obtain ⟨t, ht, hq⟩ := hbody B [(t1.heap.objs.size, go)] (rB.deeper _)
        have eB : Env0 P w K mg base B fr s H := ⟨fB, e0.mod, e0.bs, e0.bsz, e0.funs, e0.frf, e0.hok, e0.bare⟩
        have I1 := inv_startG (E := E) SC rB.hd eB hl rv fresh
        have k12 : ∀ b o, t1.heap.get? b = some o → s2.heap.get? b = some o := fun b o e => k2 b o (Heap.get?_push_of_some _ e)
        have I2 := I1.call' (ch := []) (os2.trans os1.symm) (Un.kept k12) (I1.hok.kept k12) ba2 fun b z => by simp at z
        have lS : t1.heap.objs.size < S := by
          have z : (t1.heap.push go).objs.size ≤ S := hS
          rw [Heap.size_push] at z
          exact z
        have young : ∀ b, t1.heap.objs.size ≤ b → Young sc fr s H b := by
          intro b hb
          refine ⟨I1.hok.fresh hb, Nat.ne_of_gt (Nat.lt_of_lt_of_le grown hb), I1.nofs hb, Nat.le_trans (Nat.le_of_lt grown) hb, ?_⟩
          intro y c e z
          obtain ⟨v, ob, ho, _⟩ := I1.cell y c e
          have l := Heap.lt_size ho
          rw [z] at l
          exact absurd (Nat.lt_of_lt_of_le l hb) (Nat.lt_irrefl _)
        exact wake_n isg (fun v z => by rw [gdt] at z; cases z) I2 (k2 _ _ (gp _)) eS (young _ (Nat.le_refl _)) (young _ (Nat.le_of_lt lS)) (Nat.ne_of_lt lS) ht hq
    exact ⟨_, _, _, rfl, made _ _ _ _ rfl rfl rfl fun h => Heap.get?_push_size _ rfl⟩
end
end Ev
set_option maxRecDepth 100000
set_option maxHeartbeats 4000000
namespace Ev
open PySem PySem.Spec PyProof.Rows L2 GenW
section
variable {P : Program} {w : World} {fr : List Env} {H : Hp} {sc : Shared} {Q : List V → Hp → Prop} {E : XK} {A : Around} {R : Result → Shared → Prop} {S a : Addr} {g : Nat} {res : Value}
theorem drain_n (hh : A.handled = none) (hd : A.depth < recursionLimit) (hSa : S ≠ a) (hSc : S ≠ cStatics)
    (good : ∀ s1, GoodN P w fr H sc S Q s1 → R (.ok (.ret res)) s1) (bad : ∀ x s1, L2N.CX P w fr H sc E x s1 → NotStop (model P w) x s1.heap ∧ R (.error x) (s1.setGen g .finished)) :
    ∀ (m : Nat) (s : Shared), s.heap.IsGen a g → s.heap.NoLimit → (∃ gs, s.gens[g]? = some gs ∧ gs.Goes (model P w) A.in1.in1 (EndN P w fr H sc S a g Q E) (YItem sc S a g) m (.send .none) (s.setGen g .running)) →
      codeAny (model P w) A (.builtin "list.extend.loop" ⟨[.ref S, .ref a, res], []⟩) R s := by
  have fin : ∀ {s1 : Shared} {h2 : Heap}, GoodN P w fr H sc S Q s1 → (∀ b o, s1.heap.get? b = some o → h2.get? b = some o) → R (.ok (.ret res)) { s1.setGen g .finished with heap := h2 } := by
    rintro s1 h2 ⟨H2, ys, acc, c, o1, b1, un, hk, nS, eS, rv, le, q⟩ kp
    exact good _ ⟨H2, ys, acc, c, o1, allBare_setGen b1 rfl, un.trans (Un.kept kp), hk.kept kp, nS, kp _ _ eS, rv, le, q⟩
  intro m
  induction m with
  | zero =>
    rintro s hg hl ⟨gs, e1, run⟩
    refine codeAny_builtin F.entry_extend_loop ?_
    rw [Around.under_plainId F.plain_extend_loop _]
    show wpAny _ A.in1 (pyNext (.ref a) >>= _) _ _ s
    refine wpAny_bind (next_genG (A := A.in1) (F := fun _ _ s1 => GoodN P w fr H sc S Q s1) (Er := fun x s1 => L2N.CX P w fr H sc E x s1 ∧ s1.heap.IsGen a g) hh hl hd hg e1 run ?_ (fun s1 z h2 kp => wpAny_pure (fin z kp)) ?_)
    · rintro v s1 gs2 hb ⟨_, hb1, _, _, ⟨acc, c, eS, _⟩, hk⟩
      exact (hk _ (Slept.push eS hb1)).elim
    · rintro x s1 ⟨hc, hg1⟩
      exact ⟨hg1, (bad x s1 hc).1, (bad x s1 hc).2⟩
  | succ m ih =>
    rintro s hg hl ⟨gs, e1, run⟩
    have gl : g < s.gens.size := (Array.getElem?_eq_some_iff.mp e1).1
    refine codeAny_builtin F.entry_extend_loop ?_
    rw [Around.under_plainId F.plain_extend_loop _]
    show wpAny _ A.in1 (pyNext (.ref a) >>= _) _ _ s
    refine wpAny_bind (wpAny_gsz (n := g + 1) gl (next_genG (A := A.in1) (F := fun _ _ s1 => GoodN P w fr H sc S Q s1) (Er := fun x s1 => L2N.CX P w fr H sc E x s1 ∧ s1.heap.IsGen a g) hh hl hd hg e1 run ?_ (fun s1 z h2 kp _ => wpAny_pure (fin z kp)) ?_))
    · rintro v s1 gs2 hb ⟨o1, hb1, hl1, hg1, ⟨acc, c, eS, sz⟩, hk⟩ hsz
      have sz2 : acc.size < sizeLine := by omega
      show wpAny _ A.in1 (updateSeq S (·.push v) >>= _) _ _ _
      refine wpAny_bind (wpAny_updateSeq eS rfl (wpAny_pure ⟨plainId_quiet F.plain_extend_loop _, ?_⟩) (Nat.le_of_lt sz2) (by show (acc.push v).size ≤ sizeLine + 1; rw [Array.size_push]; omega))
      have other : ∀ b o, b ≠ S → s1.heap.get? b = some o → (s1.heap.update S (Obj.mapSeq (·.push v))).get? b = some o := by
        intro b o nb e
        rw [Heap.get?_update_other _ _ (Ne.symm nb)]
        exact e
      have gl1 : g < s1.gens.size := by
        have z : (s1.setGen g gs2).gens.size = s1.gens.size := setGen_size _ _ _
        have z2 : g + 1 ≤ (s1.setGen g gs2).gens.size := hsz
        omega
      apply ih { s1.setGen g gs2 with heap := s1.heap.update S (Obj.mapSeq (·.push v)) }
      · obtain ⟨o, nm, qn, ho, z⟩ := hg1
        exact ⟨o, nm, qn, other a o (Ne.symm hSa) ho, z⟩
      · obtain ⟨mc, z1, z2⟩ := hl1
        exact ⟨mc, z1.at' fun o e => other _ o (Ne.symm hSc) e, z2⟩
      · exact ⟨gs2, setGen_at gl1, hk _ (Slept.push eS (allBare_setGen (s := s1.setGen g gs2) (allBare_setGen hb1 hb) rfl))⟩
    · rintro x s1 ⟨hc, hg1⟩
      exact ⟨hg1, (bad x s1 hc).1, fun _ => (bad x s1 hc).2⟩
end
section
variable {P : Program} {w : World} {fr : List Env} {H : Hp} {sc s : Shared} {Q : List V → Hp → Prop} {E : XK} {A : Around} {k g : Nat} {a : Addr} {c : Code} {Q2 : Value → Shared → Prop} {E2 : Value → Shared → Prop}
theorem list_n (hr : Room (k + 3) A) (hfr : A.frames = some fr) (M : MadeN P w k fr H sc Q E a g c s)
    (good : ∀ S s1, s.heap.objs.size ≤ S → GoodN P w fr H sc S Q s1 → Q2 (.ref S) s1) (bad : ∀ x s1, L2N.CX P w fr H sc E x s1 → NotStop (model P w) x s1.heap ∧ E2 x (s1.setGen g .finished)) :
    wpAny (model P w) A (call (.type "list") [.ref a]) Q2 E2 s := by
  generalize hz : s.heap.objs.size = z at good
  have za : z ≠ a := by rw [← hz]; exact Nat.ne_of_gt M.lt
  have zc : z ≠ cStatics := by
    obtain ⟨_, l, _⟩ := M.lim
    rw [← hz]
    exact Nat.ne_of_gt l.lt
  refine callType_codes (Q₁ := fun v t => v = .ref z ∧ t = { s with heap := s.heap.push { cls := .type "list", data := .seq #[] } }) F.called_list (F.typeCall_list_1 _) F.entry_list_init
    (code_list_new _ ⟨by rw [hz], rfl⟩) ?_
  rintro _ _ ⟨rfl, rfl⟩
  have g0 : (s.heap.push { cls := .type "list", data := .seq #[] }).get? z = some { cls := .type "list", data := .seq #[] } := by rw [← hz]; exact Heap.get?_push_size _ rfl
  refine ⟨⟨_, g0, rfl⟩, F.args_list_init_2 _ _, ?_⟩
  show wpAny _ A.in1.in1 (do let old ← Builtin.List.listItems (.ref z); Builtin.List.listUpdate (.ref z) (fun _ => #[]); letGo old.toList.reverse; Builtin.List.listExtendWith (.ref z) (.ref a) .none) _ _ _
  unfold Builtin.List.listItems
  refine wpAny_bind (wpAny_bind (wpAny_seqItems g0 rfl (wpAny_pure ?_)))
  show wpAny _ A.in1.in1 (updateSeq z (fun _ => #[]) >>= fun _ => letGo (#[] : Array Value).toList.reverse >>= fun _ => Builtin.List.listExtendWith (.ref z) (.ref a) .none) _ _ _
  refine wpAny_bind (wpAny_updateSeq g0 rfl ?_)
  have g1 := Heap.get?_update_self (Obj.mapSeq (fun _ => (#[] : Array Value))) g0 rfl
  refine wpAny_bind (wpAny_letGo ?_)
  unfold Builtin.List.listExtendWith
  have step : ∀ (h : Heap) (fn : Obj → Obj), (∀ b o, s.heap.get? b = some o → h.get? b = some o) → ∀ b o, s.heap.get? b = some o → (h.update z fn).get? b = some o := by
    intro h fn k b o e
    have l := Heap.lt_size e
    rw [Heap.get?_update_other _ _ (by rw [← hz]; exact Nat.ne_of_gt l)]
    exact k b o e
  have k1 : ∀ b o, s.heap.get? b = some o → (s.heap.push { cls := .type "list", data := .seq #[] }).get? b = some o := fun b o e => Heap.get?_push_of_some _ e
  have k2 := step _ (Obj.mapSeq (fun _ => (#[] : Array Value))) k1
  have isg : ∀ {h : Heap}, (∀ b o, s.heap.get? b = some o → h.get? b = some o) → h.IsGen a g := fun {h} k => M.gen.keeps k
  refine wpAny_bind (wpAny_typeOf (Heap.IsGen.typeIs (s := { s with heap := _ }) (isg k2)) ?_)
  have n1 : Builtin.List.listSameRef (.ref z) (.ref a) = false := by simp [Builtin.List.listSameRef, za]
  have n2 : (Value.type "generator" == Value.type "list") = false := by decide
  have n3 : (Value.type "generator" == Value.type "tuple") = false := by decide
  simp only [n1, n2, n3, Bool.or_false, Bool.false_eq_true, if_false]
  refine wpAny_bind (wpAny_pyIter_gen (s := { s with heap := _ }) (isg k2) ?_)
  unfold Builtin.List.listLengthHint
  refine wpAny_bind (wpAny_holding (wpAny_bind (wpAny_specialOf (Heap.IsGen.typeIs (s := { s with heap := _ }) (isg k2)) F.gen_no_len ?_)))
  show wpAny _ A.in1.in1 (specialOf (Value.ref a) (Str.ofString "__length_hint__") >>= _) _ _ _
  refine wpAny_bind (wpAny_specialOf (Heap.IsGen.typeIs (s := { s with heap := _ }) (isg k2)) F.gen_no_hint (wpAny_pure ?_))
  show wpAny _ A.in1.in1 (rule "list.extend.makes-room" >>= fun _ => Builtin.List.listTouch (.ref z) >>= fun _ =>
    again (.builtin "list.extend.loop" ⟨[.ref z, .ref a, .none], []⟩)) _ _ _
  refine wpAny_bind (wpAny_rule (wpAny_bind ?_))
  show wpAny _ A.in1.in1 (updateSeq z (·.push .none) >>= fun _ => updateSeq z (·.pop)) _ _ _
  refine wpAny_bind (wpAny_updateSeq g1 rfl ?_)
  have g2 := Heap.get?_update_self (Obj.mapSeq (·.push Value.none)) g1 rfl
  refine wpAny_updateSeq (hz := by seq_fits) g2 rfl ?_
  have g3 := Heap.get?_update_self (Obj.mapSeq (·.pop)) g2 rfl
  have k4 := step _ (Obj.mapSeq (·.pop)) (step _ (Obj.mapSeq (·.push Value.none)) k2)
  refine wpAny_pure ⟨plainId_quiet F.plain_extend_loop _, ?_⟩
  have dp := hr.dp
  have un := hr.un
  refine drain_n (P := P) (w := w) (fr := fr) (H := H) (sc := sc) (Q := Q) (E := E) (A := A.in1) (g := g) hr.hd (by show A.depth < _; omega) za zc
    (fun s1 ok => ⟨rfl, good _ s1 (Nat.le_refl _) ok⟩) bad sizeLine _ (isg k4) (M.lim.keeps k4) ⟨_, M.st, rfl, ?_⟩
  refine M.wake _ _ _ ⟨hr.hd, ?_, ?_⟩ hfr (by rw [hz]; exact Nat.le_refl _) k4 ⟨_, g3⟩ M.os (allBare_setGen (s := { s with heap := _ }) M.bare rfl)
  · show A.depth + 3 * k + 5 < _
    omega
  · show A.units + 1 + 1 + 1 + 16 * k + 200 < _
    omega
end
end Ev
set_option maxRecDepth 100000
set_option maxHeartbeats 4000000
namespace Ev
open PySem PySem.Spec PyProof.Rows L2 GenW
abbrev NoSt (K : PySem.W.Frag) (c : Value) : Prop := PySem.W.subIn K c (.type "StopIteration") = some false
theorem notStop_n {P : Program} {w : World} {K : PySem.W.Frag} {fr : List Env} {H : Hp} {s s1 : Shared} {E : XK} {x : Value} (hE : ∀ c d H, E c d H → NoSt K c) (kin : K.In s1.heap) (z : L2N.CX P w fr H s E x s1) : NotStop (model P w) x s1.heap := by
  obtain ⟨a, B, H2, c, d, rfl, fly, _, _, _, _, _, h⟩ := z
  obtain ⟨oe, vs, e, hz, _⟩ := fly.there
  have look := PySem.W.looks_subIn (M := model P w) kin (hE c d H2 h)
  intro A Q E2 s2 eh hq
  simp only [isInstance]
  refine wpAny_bind (wpAny_typeOf_ref (o := oe) (by rw [eh]; exact e) ?_)
  rw [hz.1]
  exact look A Q E2 s2 (fun b o q => by rw [eh]; exact q) hq
section
variable {P : Program} {w : World} {K : PySem.W.Frag} {mg : Str → Option Value} {base : Heap} {G : Sg} {k m : Nat} {f : Addr} {x qual : Str} {st : Stmt} {fd : FuncData} {N ps ks : List Str} {ms : MG} {ix : List Nat}
def GBodyE (P : Program) (w : World) (K : PySem.W.Frag) (mg : Str → Option Value) (base : Heap) (G : Sg) (k : Nat) (f : Addr) (N : List Str) (qual : Str) (st : Stmt) (ms : MG) : Prop :=
  ∀ (cdv : Value) (A : Around) (fr : List Env) (s : Shared) (H : Hp) (E : XK) (pn : List (Addr × Obj)), Ctx G (cxN P w K mg base N qual (defScope st) f cdv A fr s H E pn) (WF E) k → PGSs G (cxN P w K mg base N qual (defScope st) f cdv A fr s H E pn) (WF E) (defBody st) ms
structure GnE (P : Program) (w : World) (K : PySem.W.Frag) (mg : Str → Option Value) (base : Heap) (G : Sg) (k : Nat) (f : Addr) (m : Nat) (ks : List Str) (sem : List D → M (List D)) : Prop where
  run : ∀ (A : Around) (fr : List Env) (s : Shared) (H : Hp) (us ws : List Value) (vs zs : List V) (Q : List V → Hp → Prop) (E : XK),
    Room k A → Env0 P w K mg base A fr s H → Vals vs us → Vals zs ws → vs.length = m → zs.length = ks.length → (∃ wd ds S, wd.H = H ∧ RepS G wd S ∧ RepVs G wd ds (vs ++ zs) ∧ FinG G (RepVs G) E wd Q (sem ds S)) →
    codeAny (model P w) A (.call (.ref f) ⟨us, ks.zip ws⟩) (fun r t => match r with | .ok (.ret u) => ∃ a g c, u = .ref a ∧ MadeN P w k fr H s Q E a g c t | _ => False) s
theorem repx_un {wd : Wd} {e : Exn} {c : Value} {a : Option Addr} (h : RepX G.un wd e c a) : RepX G wd e c a := by
  obtain ⟨h1, h2⟩ := h
  refine ⟨h1, ?_⟩
  cases he : e.arg with
  | none => trivial
  | some d =>
    rw [he] at h2
    obtain ⟨b, v, q1, q2, q3, q4⟩ := h2
    exact ⟨b, v, q1, q2, q3, (rep_un d v).mp q4⟩
theorem gne_rule (F : Fun K x qual st f fd) (SC : GScope N ps (defScope st)) (hb : KwBinds st x qual ps ks m ix) (cK : G.K = K) (B : GBodyE P w K mg base G.un k f N qual st ms) {a n : Nat} (ea : ps.length = a) (en : N.length = n) (hmn : a ≤ n) :
    GnE P w K mg base G (k + 2) f m ks (fun ds => genFn a n ms (perm ix ds)) := by
  obtain ⟨oc, od, kV, doc, pm, an, cdv, ct, osl, rfl, lk, hcd⟩ := F.ex
  subst ea en
  constructor
  rintro A fr s H us ws vs zs Q E hr e0 r r2 l1 l2 ⟨wd, ds, S, eH, rs, rv, q⟩
  have rp : RepVs G.un wd (perm ix ds) (perm ix (vs ++ zs)) := (reps_un _ _).mpr (reps_perm rv ix)
  unfold genFn at q
  split at q
  · next e =>
    refine made_n (k := k + 1) (us := perm ix (us ++ ws)) (vs := perm ix (vs ++ zs)) lk hcd SC (by rw [← rp.length, e]) hr e0 (.of_eq (hb _ _ _ _ _ _ us ws (r.length.symm.trans l1) (r2.length.symm.trans l2))) (vals_perm (r.append r2) ix) fun A2 pn hr2 => ?_
    refine ⟨_, B cdv A2 fr s H E pn ⟨cK, rfl, ⟨hr2, fun z => nomatch (show false = true from z)⟩, SC.nd, fun σ => L2N.passAt takes_cxN σ, owns_cxN⟩, ?_⟩
    refine ⟨wd, wd, _, S, [], eH, R.enter (store_un.mpr rs) rp (by omega), rfl, ?_⟩
    rcases hm : ms (slots N.length ((perm ix ds).map .val)) S [] with _ | ⟨_ | _ | _ | _ | _, S1, out⟩
    · rw [hm] at q
      exact q
    · rw [hm] at q
      exact fun w2 σ2 ys _ r3 ro => q w2 ys r3.ex (store_un.mp r3.st) ((reps_un _ _).mp ro)
    · rw [hm] at q
      exact q.elim
    · rw [hm] at q
      exact q.elim
    · rw [hm] at q
      exact q.elim
    · rw [hm] at q
      exact fun w2 σ2 c y _ r3 rx => q w2 c y r3.ex (store_un.mp r3.st) (repx_un rx)
  · exact q.elim
end
def errIn (l : List Nat) (f : M (List D)) : M (List D) := fun S => match f S with
  | some (.error e, S1) => if e.cls ∈ l then some (.error e, S1) else none
  | r => r
section
variable {G : Sg} {X : Cx} {W : WX} {k n m j : Nat} {mm : Str} {p pos apos : Pos} {e o : Expr} {es : List Expr} {kws : List Keyword} {ks : List Str} {fa fk : List SV → M (List D)} {fo : List SV → M D} {σ : L2.St} {l : List Nat}
structure GMethE (X : Cx) (G : Sg) (k : Nat) (mm : Str) (m : Nat) (ks : List Str) (tbl : Nat → Option (List D → M (List D))) : Prop where
  at_ : ∀ c g, tbl c = some g → ∃ f, Cls X.K (G.ca c) ∧ Meth X.K (G.ca c) mm f ∧ GnE X.prog X.w X.K X.mg X.base G k f (m + 1) ks g ∧ mm ∉ G.fn c
theorem nost_nil {K : PySem.W.Frag} : ∀ i ∈ ([] : List Nat), NoSt K (G.xc i) := fun _ h => nomatch h
theorem nost_cons {K : PySem.W.Frag} {i : Nat} (h : NoSt K (G.xc i)) (t : ∀ i ∈ l, NoSt K (G.xc i)) : ∀ j ∈ i :: l, NoSt K (G.xc j) := by
  intro j hj
  cases List.mem_cons.mp hj with
  | inl e =>
    rw [e]
    exact h
  | inr m => exact t j m
theorem fin_errIn {wd : Wd} {Q : List V → Hp → Prop} {W2 : XK} {f : M (List D)} {S : List Ob} (hn : ∀ i ∈ l, NoSt X.K (G.xc i)) (h : FinG G (RepVs G) W2 wd Q (errIn l f S)) : FinG G (RepVs G) (fun c x H => W2 c x H ∧ NoSt X.K c) wd Q (f S) := by
  unfold errIn at h
  rcases hf : f S with _ | ⟨er | ds, S1⟩
  · rw [hf] at h
    exact h.elim
  · rw [hf] at h
    simp only at h
    split at h
    · next hi =>
      intro w2 c x e rs rx
      refine ⟨h w2 c x e rs rx, ?_⟩
      rw [rx.1]
      exact hn _ hi
    · exact h.elim
  · rw [hf] at h
    exact h
structure PGenE (X : Cx) (G : Sg) (W : WX) (k : Nat) (e : Expr) (f : List SV → M (List D)) : Prop where
  run : ∀ (pins : List (Addr × Obj)) (s : Shared) (σ : L2.St) (H : Hp) (cont : List V → Hp → Prop), Inv X pins σ H s → teG G (RepVs G) W f σ H cont → wpAny (model X.prog X.w) X.A (eval e X.env)
    (fun u t => ∃ H1 sc a g c, Inv X pins σ H1 sc ∧ u = .ref a ∧ MadeN X.prog X.w k X.stack H1 sc cont (fun c d H2 => W c d σ H2 ∧ NoSt X.K c) a g c t) X.xe s
theorem madeE_ok {pins : List (Addr × Obj)} {H : Hp} {s : Shared} {cont : List V → Hp → Prop} {E : XK} {f : Addr} {a : Args} {E1 : Value → Shared → Prop} (I : Inv X pins σ H s)
    (h : codeAny (model X.prog X.w) X.A (.call (.ref f) a) (fun r t => match r with | .ok (.ret u) => ∃ b g c, u = .ref b ∧ MadeN X.prog X.w k X.stack H s cont E b g c t | _ => False) s) :
    wpAny (model X.prog X.w) X.A (call (.ref f) a.pos a.kw) (fun u t => ∃ H1 sc b g c, Inv X pins σ H1 sc ∧ u = .ref b ∧ MadeN X.prog X.w k X.stack H1 sc cont E b g c t) E1 s := by
  refine wpAny_call (codeAny_mono h ?_)
  rintro (er | fl) t hq
  · exact hq.elim
  · match fl, hq with
    | .ret u, ⟨b, g, c, e, z⟩ => exact ⟨H, s, b, g, c, I, e, z⟩
    | .next, z => exact z.elim
    | .brk, z => exact z.elim
    | .cont, z => exact z.elim
theorem ge_meth {tbl : Nat → Option (List D → M (List D))} (T : GMethE X G k mm n [] tbl) (hn : ∀ i ∈ l, NoSt X.K (G.xc i)) (hr : Room k X.A) (ho : PV G X W o fo) (ha : PLn G X W n (e :: es) fa) (hs : (e :: es).all notStar = true) (hb : plainBase o = true) (hl : (e :: es).length < 30) (hp : (apos.endLine == pos.line) = true) :
    PGenE X G W k (.Call (.Attribute o mm apos) (e :: es) [] pos) (fun sd => M.bind (fo sd) fun d => M.bind (pickN tbl d) fun g => M.bind (fa sd) fun ds => errIn l (g (d :: ds))) := by
  constructor
  rintro pins s σ H cont I ⟨w0, w, sd, S, eH, r, q⟩
  refine PySem.W.methodCall_KW (thn (ho.run pins s σ H (fun v H1 => ∃ w1 S1 d c g a dx vs, w1.H = H1 ∧ R G w0 w1 sd S1 σ ∧ RepV G w1 d v ∧ tbl c = some g ∧ v = .ref a ∧ w1.H a = some (.ins (G.ca c) dx ((G.fn c).zip vs)) ∧
      FinG G (RepVs G) (fun c x H => W c x σ H) w1 cont (M.bind (fa sd) (fun ds => errIn l (g (d :: ds))) S1)) I ?_) ?_) (meth_tree hb hs hl hp)
  · refine ⟨w0, w, sd, S, eH, r, fin_step q fun w1 S1 d v e1 s1 rv q1 => ?_⟩
    obtain ⟨i, g, ht, q2, a, dx, vs, ev, hv⟩ := pickN_fin s1 rv q1
    exact ⟨w1, S1, d, i, g, a, dx, vs, rfl, r.step e1 s1, rv, ht, ev, hv, q2⟩
  · rintro u s1 ⟨v, H1, I1, rv, w1, S1, d, c, g, a, dx, vs, eH1, r1, rd, ht, ev, hv, q1⟩
    subst eH1 ev
    obtain rfl : u = Value.ref a := rv
    obtain ⟨f, cl, hm, F, nf⟩ := T.at_ c g ht
    refine getmeth_ok I1 hv cl hm (lookup_zip_none nf) ?_
    have st2 : notStar e = true ∧ es.all notStar = true := by simpa using hs
    refine PySem.W.callWith_K (first := [.ref a]) (h₀ := X.base) I.ok.mod.kin hm.kp (thn (ha.run pos pins s1 σ w1.H (fun xs H2 => xs.length = n ∧ ∃ wd ds S, wd.H = H2 ∧ RepS G wd S ∧ RepVs G wd ds ((V.ref a :: xs) ++ []) ∧ FinG G (RepVs G) (fun c x H2 => W c x σ H2 ∧ NoSt X.K c) wd cont (g ds S)) I1 ?_) ?_) (starEach_cons st2.1) (starEach_all st2.2 pos)
    · refine ⟨w0, w1, sd, S1, rfl, r1, fin_step q1 fun w2 S2 ds xs e2 s2 rx q2 => ?_⟩
      exact ⟨rx.2, w2, d :: ds, S2, rfl, s2, by rw [List.append_nil]; exact ⟨_, _, rfl, RepV.mono e2 r1.st.dj _ _ rd, rx.1⟩, fin_errIn hn q2⟩
    · rintro us s2 ⟨xs, H2, I2, rx, lx, q2⟩
      exact ⟨I2.kIn, madeE_ok (a := ⟨.ref a :: us, []⟩) I2 (F.run X.A X.stack s2 H2 (.ref a :: us) [] (.ref a :: xs) [] cont _ hr I2.env0 (.cons rfl rx) .nil (by rw [List.length_cons, lx]) rfl q2)⟩
theorem ge_methK0 {tbl : Nat → Option (List D → M (List D))} (T : GMethE X G k mm 0 ks tbl) (hn : ∀ i ∈ l, NoSt X.K (G.xc i)) (hr : Room k X.A) (ho : PV G X W o fo) (hk : PKn G X W j kws fk) (hj : j = ks.length) (hb : plainBase o = true) (hl : kws.length + 1 < 30) (hp : (apos.endLine == pos.line) = true)
    (hall : (backToKw pos (keywordEach kws X.env)).all (·.1.isSome) = true) (hks : (backToKw pos (keywordEach kws X.env)).filterMap (·.1) = ks) :
    PGenE X G W k (.Call (.Attribute o mm apos) [] kws pos) (fun sd => M.bind (fo sd) fun d => M.bind (pickN tbl d) fun g => M.bind (fk sd) fun ds => errIn l (g (d :: ds))) := by
  constructor
  rintro pins s σ H cont I ⟨w0, w, sd, S, eH, r, q⟩
  refine PySem.W.methodCall_KW (thn (ho.run pins s σ H (fun v H1 => ∃ w1 S1 d c g a dx vs, w1.H = H1 ∧ R G w0 w1 sd S1 σ ∧ RepV G w1 d v ∧ tbl c = some g ∧ v = .ref a ∧ w1.H a = some (.ins (G.ca c) dx ((G.fn c).zip vs)) ∧
      FinG G (RepVs G) (fun c x H => W c x σ H) w1 cont (M.bind (fk sd) (fun ds => errIn l (g (d :: ds))) S1)) I ?_) ?_) (methk_tree hb rfl hall (by simpa using hl) hp)
  · refine ⟨w0, w, sd, S, eH, r, fin_step q fun w1 S1 d v e1 s1 rv q1 => ?_⟩
    obtain ⟨i, g, ht, q2, a, dx, vs, ev, hv⟩ := pickN_fin s1 rv q1
    exact ⟨w1, S1, d, i, g, a, dx, vs, rfl, r.step e1 s1, rv, ht, ev, hv, q2⟩
  · rintro u s1 ⟨v, H1, I1, rv, w1, S1, d, c, g, a, dx, vs, eH1, r1, rd, ht, ev, hv, q1⟩
    subst eH1 ev
    obtain rfl : u = Value.ref a := rv
    obtain ⟨f, cl, hm, F, nf⟩ := T.at_ c g ht
    refine getmeth_ok I1 hv cl hm (lookup_zip_none nf) ?_
    refine PySem.W.callWith_KW0 (first := [.ref a]) (h₀ := X.base) I.ok.mod.kin hm.kp hall (thn (hk.run pos pins s1 σ w1.H (fun zs H2 => zs.length = ks.length ∧ ∃ wd ds S, wd.H = H2 ∧ RepS G wd S ∧ RepVs G wd ds ([V.ref a] ++ zs) ∧ FinG G (RepVs G) (fun c x H2 => W c x σ H2 ∧ NoSt X.K c) wd cont (g ds S)) I1 ?_) ?_) (by rw [kw_names hall]; rfl)
    · refine ⟨w0, w1, sd, S1, rfl, r1, fin_step q1 fun w2 S2 ds xs e2 s2 rx q2 => ?_⟩
      exact ⟨rx.2.trans hj, w2, d :: ds, S2, rfl, s2, ⟨_, _, rfl, RepV.mono e2 r1.st.dj _ _ rd, rx.1⟩, fin_errIn hn q2⟩
    · rintro ws s2 ⟨zs, H2, I2, rz, lz, q2⟩
      refine ⟨I2.kIn, ?_⟩
      rw [hks]
      exact madeE_ok (a := ⟨[.ref a], ks.zip ws⟩) I2 (F.run X.A X.stack s2 H2 [.ref a] ws [.ref a] zs cont _ hr I2.env0 (.cons rfl .nil) rz rfl lz q2)
theorem v_listE {nm : Str} {f : List SV → M (List D)} {k2 : Nat} (c : Ctx G X W k2) (h : PGenE X G W k e f) (hr : Room (k + 3) X.A) (hg : Gl X nm) (hm : X.mg nm = none) (hv : bootBuiltins nm = some (.type "list")) (hs : notStar e = true) (hnm : nm ≠ "__name__") (hdb : (nm == ("__debug__" : Str)) = false) :
    PV G X W (.Call (.Name nm p) [e] [] pos) (fun sd => M.bind (f sd) fun l => M.pure (.lst l)) := by
  constructor
  rintro pins s σ H Q I ⟨w0, w, sd, S, eH, r, q⟩
  have he := starEach_cons (es := []) (env := X.env) hs
  refine wpAny_Call_Name_kw (ld_blt I hg hm hv ?_ hnm hdb)
  refine PyProof.Rows.callWith_type1 ?_ he rfl
  rw [he]
  show wpAny _ _ (spliced ((false, eval e X.env) :: backTo pos (starEach [] X.env))) _ _ s
  have q0 : teG G (RepVs G) W f σ H (fun ys H2 => ∀ b, H2 b = none → Q (.ref b) (upd H2 b (.lst ys))) := by
    refine ⟨w0, w, sd, S, eH, r, fin_step q fun w1 S1 l vs e1 s1 rv q1 b hb => ?_⟩
    exact q1 (w1.frz b (.lst vs)) (.ref b) (Ext.frz hb) (s1.frz hb) ⟨b, vs, rfl, .inr rfl, upd_same, RepVs.mono (Ext.frz hb) s1.dj _ _ rv⟩
  refine Calls.spliced_cons (thn (h.run pins s σ H _ I q0) ?_)
  rintro u s1 ⟨H1, sc, a, g, cd, I1, rfl, Mk⟩
  refine Calls.spliced_nil ?_
  have older : sc.heap.objs.size ≤ s1.heap.objs.size := Nat.le_trans Mk.new (Nat.le_of_lt Mk.lt)
  refine list_n hr I1.ok.frames Mk ?_ ?_
  · rintro z s2 hz ⟨H2, ys, acc, c2, o2, b2, un, hk, nz, ez, rv, le, hq⟩
    exact ⟨.ref z, upd H2 z (.lst ys), I1.drained (Nat.le_trans older hz) le ez rv ExOk.nil o2 b2 un hk nz, rfl, hq z nz⟩
  · intro x s2 hc
    obtain ⟨b, B, H2, cl, d, ex, fly, hk, ub, nb, o2, b2, hW⟩ := id hc
    have kin : X.K.In s2.heap := by
      apply I1.ok.mod.kin.keeps
      intro y oy ey
      apply fly.1 y oy
      apply ub.keep y oy (I1.bs y oy ey).1 (I1.bs y oy ey).2
      intro hm
      cases List.mem_cons.mp (I1.stkSub y hm) with
      | inr z => exact I1.ok.nofr ey z
      | inl z =>
        have l1 := Heap.lt_size ey
        have l2 := Nat.le_trans I1.ok.bsz I1.ok.above
        rw [z] at l1
        exact absurd (Nat.lt_of_lt_of_le l1 l2) (Nat.lt_irrefl _)
    refine ⟨notStop_n (fun _ _ _ z => z.2) kin hc, c.px σ pins H1 sc x _ I1 ?_⟩
    exact ⟨b, B, H2, cl, d, ex, fly, hk, ub, nb, o2, allBare_setGen b2 rfl, hW.1⟩
end
end Ev
set_option maxRecDepth 100000
set_option maxHeartbeats 4000000
local macro_rules | `(tactic| leaf_len) => `(tactic| first | exact Or.inl rfl | exact Or.inr (Or.inl rfl) | exact Or.inr (Or.inr rfl))
local macro_rules | `(tactic| mem_news) => `(tactic| first | exact Or.inl rfl | exact Or.inr rfl)
namespace K14
open PySem PySem.Spec PyProof.Rows L2 Ev
def top (i : Nat) : Stmt := PySem.Challenge.pw_rungladders_k14_ladders_refused.main.body.getD i (.Pass ⟨0, 0, 0, 0⟩)
def flds : Nat → List Str := fun c => match c with | 0 => ["told"] | 1 => ["row", "chain", "scale"] | 5 => ["first", "pattern"] | _ => []
def xfld : Nat → Str := fun c => if c < 9 ∨ c = 13 then "given" else if c = 15 then "most" else "index"
def tqs : Nat → Str := fun j => match j with | 0 => "law.<locals>.<lambda>" | 1 => "_law_right.<locals>.<lambda>" | _ => Str.empty
abbrev GG (b : Bool) (K : PySem.W.Frag) (ad : Nat → Addr) : Sg := { K := K, ca := fun c => ad (1000 + c), fn := flds, xc := fun c => .ref (ad (1100 + c)), xf := xfld, gd := b, ta := fun j => ad (8100 + j), tq := tqs }
abbrev st__law_classes : Stmt := top 82
theorem sc__law_classes : FnScope ["_law_e", "_law_found", "_law_above", "_law_at"] ["_law_e"] (defScope st__law_classes) := ⟨rfl, rfl, rfl, by decide +kernel, rfl, by decide +kernel, by decide +kernel⟩
abbrev st__law_caught : Stmt := top 83
theorem sc__law_caught : FnScope ["_law_act", "_law_e", "_law_found"] ["_law_act"] (defScope st__law_caught) := ⟨rfl, rfl, rfl, by decide +kernel, rfl, by decide +kernel, by decide +kernel⟩
def isS (l : List Nat) : Nat → Option Bool := fun c => if 100 ≤ c ∧ c < 123 then some (decide (c ∈ l)) else none
def isB (k : Nat) : String → Option Bool := fun n => if n = "ValueError" then some (k == 23) else if n = "LookupError" then some (k == 24) else if n = "ArithmeticError" then some (k == 25) else none
abbrev st_check_pattern : Stmt := top 69
theorem sc_check_pattern : FnScope ["value"] ["value"] (defScope st_check_pattern) := ⟨rfl, rfl, rfl, by decide +kernel, rfl, by decide +kernel, by decide +kernel⟩
abbrev st_is_integer : Stmt := top 33
theorem sc_is_integer : FnScope ["value"] ["value"] (defScope st_is_integer) := ⟨rfl, rfl, rfl, by decide +kernel, rfl, by decide +kernel, by decide +kernel⟩
abbrev st_is_fraction : Stmt := top 35
theorem sc_is_fraction : FnScope ["value"] ["value"] (defScope st_is_fraction) := ⟨rfl, rfl, rfl, by decide +kernel, rfl, by decide +kernel, by decide +kernel⟩
abbrev st_is_number : Stmt := top 36
theorem sc_is_number : FnScope ["value"] ["value"] (defScope st_is_number) := ⟨rfl, rfl, rfl, by decide +kernel, rfl, by decide +kernel, by decide +kernel⟩
abbrev st_is_resistance : Stmt := top 37
theorem sc_is_resistance : FnScope ["value"] ["value"] (defScope st_is_resistance) := ⟨rfl, rfl, rfl, by decide +kernel, rfl, by decide +kernel, by decide +kernel⟩
abbrev st_check_resistance : Stmt := top 41
theorem sc_check_resistance : FnScope ["value"] ["value"] (defScope st_check_resistance) := ⟨rfl, rfl, rfl, by decide +kernel, rfl, by decide +kernel, by decide +kernel⟩
abbrev st_RunX_initX : Stmt := inClass (top 72) 0
theorem sc_RunX_initX : FnScope ["self", "load"] ["self", "load"] (defScope st_RunX_initX) := ⟨rfl, rfl, rfl, by decide +kernel, rfl, by decide +kernel, by decide +kernel⟩
abbrev st_common : Stmt := top 38
theorem sc_common : FnScope ["one", "other"] ["one", "other"] (defScope st_common) := ⟨rfl, rfl, rfl, by decide +kernel, rfl, by decide +kernel, by decide +kernel⟩
abbrev st_lowest : Stmt := top 39
theorem sc_lowest : FnScope ["top", "bottom", "by"] ["top", "bottom"] (defScope st_lowest) := ⟨rfl, rfl, rfl, by decide +kernel, rfl, by decide +kernel, by decide +kernel⟩
abbrev st_pair_of : Stmt := top 40
theorem sc_pair_of : FnScope ["number"] ["number"] (defScope st_pair_of) := ⟨rfl, rfl, rfl, by decide +kernel, rfl, by decide +kernel, by decide +kernel⟩
abbrev st_LadderX_initX : Stmt := inClass (top 73) 0
theorem sc_LadderX_initX : NdefX.NScope ["self", "pattern", "load", "__class__"] ["self", "pattern", "load"] ["__class__"] (defScope st_LadderX_initX) := NdefX.nscope_by (by decide +kernel)
abbrev st_is_between : Stmt := top 34
theorem sc_is_between : FnScope ["value", "low", "high"] ["value", "low", "high"] (defScope st_is_between) := ⟨rfl, rfl, rfl, by decide +kernel, rfl, by decide +kernel, by decide +kernel⟩
abbrev st_is_piece : Stmt := top 63
theorem sc_is_piece : FnScope ["value"] ["value"] (defScope st_is_piece) := ⟨rfl, rfl, rfl, by decide +kernel, rfl, by decide +kernel, by decide +kernel⟩
abbrev st_check_pieces : Stmt := top 64
theorem sc_check_pieces : FnScope ["pieces", "index", "piece"] ["pieces"] (defScope st_check_pieces) := ⟨rfl, rfl, rfl, by decide +kernel, rfl, by decide +kernel, by decide +kernel⟩
abbrev st_joined : Stmt := top 47
theorem sc_joined : FnScope ["front", "back", "a", "b", "c", "d", "e", "f", "g", "h"] ["front", "back"] (defScope st_joined) := ⟨rfl, rfl, rfl, by decide +kernel, rfl, by decide +kernel, by decide +kernel⟩
abbrev st_chain_of : Stmt := top 48
theorem sc_chain_of : FnScope ["pieces", "found", "times", "word", "ohms"] ["pieces"] (defScope st_chain_of) := ⟨rfl, rfl, rfl, by decide +kernel, rfl, by decide +kernel, by decide +kernel⟩
abbrev st_PatternX_initX : Stmt := inClass (top 68) 0
theorem sc_PatternX_initX : FnScope ["self", "pieces"] ["self", "pieces"] (defScope st_PatternX_initX) := ⟨rfl, rfl, rfl, by decide +kernel, rfl, by decide +kernel, by decide +kernel⟩
abbrev st_check_count : Stmt := top 42
theorem sc_check_count : FnScope ["value"] ["value"] (defScope st_check_count) := ⟨rfl, rfl, rfl, by decide +kernel, rfl, by decide +kernel, by decide +kernel⟩
abbrev st_led : Stmt := top 49
theorem sc_led : FnScope ["chain", "pair", "a", "b", "c", "d"] ["chain", "pair"] (defScope st_led) := ⟨rfl, rfl, rfl, by decide +kernel, rfl, by decide +kernel, by decide +kernel⟩
abbrev st_shown : Stmt := top 50
theorem sc_shown : FnScope ["chain", "pair", "top", "bottom"] ["chain", "pair"] (defScope st_shown) := ⟨rfl, rfl, rfl, by decide +kernel, rfl, by decide +kernel, by decide +kernel⟩
abbrev st_slim : Stmt := top 51
theorem sc_slim : FnScope ["chain", "by", "number"] ["chain"] (defScope st_slim) := ⟨rfl, rfl, rfl, by decide +kernel, rfl, by decide +kernel, by decide +kernel⟩
abbrev st_repeated : Stmt := top 52
theorem sc_repeated : FnScope ["chain", "count", "found", "power"] ["chain", "count"] (defScope st_repeated) := ⟨rfl, rfl, rfl, by decide +kernel, rfl, by decide +kernel, by decide +kernel⟩
abbrev st_Ladder_value_at : Stmt := inClass (top 73) 3
theorem sc_Ladder_value_at : FnScope ["self", "number"] ["self", "number"] (defScope st_Ladder_value_at) := ⟨rfl, rfl, rfl, by decide +kernel, rfl, by decide +kernel, by decide +kernel⟩
abbrev st_RunX_callX : Stmt := inClass (top 72) 4
theorem sc_RunX_callX : FnScope ["self", "count"] ["self", "count"] (defScope st_RunX_callX) := ⟨rfl, rfl, rfl, by decide +kernel, rfl, by decide +kernel, by decide +kernel⟩
abbrev st__law_sip : Stmt := top 76
theorem sc__law_sip : FnScope ["_law_cup_here", "_law_many", "_law_part"] ["_law_cup_here", "_law_many"] (defScope st__law_sip) := ⟨rfl, rfl, rfl, by decide +kernel, rfl, by decide +kernel, by decide +kernel⟩
abbrev st__law_pick : Stmt := top 77
theorem sc__law_pick : FnScope ["_law_cup_here", "_law_things"] ["_law_cup_here", "_law_things"] (defScope st__law_pick) := ⟨rfl, rfl, rfl, by decide +kernel, rfl, by decide +kernel, by decide +kernel⟩
abbrev st__law_nothing : Stmt := top 81
theorem sc__law_nothing : FnScope ["_law_cup_here", "_law_some"] ["_law_cup_here"] (defScope st__law_nothing) := ⟨rfl, rfl, rfl, by decide +kernel, rfl, by decide +kernel, by decide +kernel⟩
abbrev st_integer_in : Stmt := top 44
theorem sc_integer_in : FnScope ["word", "digit"] ["word"] (defScope st_integer_in) := ⟨rfl, rfl, rfl, by decide +kernel, rfl, by decide +kernel, by decide +kernel⟩
abbrev st_piece_in : Stmt := top 65
theorem sc_piece_in : FnScope ["text", "words", "ohms"] ["text"] (defScope st_piece_in) := ⟨rfl, rfl, rfl, by decide +kernel, rfl, by decide +kernel, by decide +kernel⟩
abbrev st_RowX_initX : Stmt := inClass (top 62) 0
theorem sc_RowX_initX : FnScope ["self", "told"] ["self", "told"] (defScope st_RowX_initX) := ⟨rfl, rfl, rfl, by decide +kernel, rfl, by decide +kernel, by decide +kernel⟩
abbrev st_pattern_in : Stmt := top 66
theorem sc_pattern_in : FnScope ["text", "pieces", "part"] ["text"] (defScope st_pattern_in) := ⟨rfl, rfl, rfl, by decide +kernel, rfl, by decide +kernel, by decide +kernel⟩
abbrev st_Pattern_read : Stmt := inClass (top 68) 1
theorem sc_Pattern_read : FnScope ["text", "found"] ["text"] (defScope st_Pattern_read) := ⟨rfl, rfl, rfl, by decide +kernel, rfl, by decide +kernel, by decide +kernel⟩
abbrev st__law_words : Stmt := top 79
theorem sc__law_words : FnScope ["_law_row_here", "_law_word", "_law_ohms"] ["_law_row_here"] (defScope st__law_words) := ⟨rfl, rfl, rfl, by decide +kernel, rfl, by decide +kernel, by decide +kernel⟩
abbrev st__law_read : Stmt := top 80
theorem sc__law_read : FnScope ["_law_row_here"] ["_law_row_here"] (defScope st__law_read) := ⟨rfl, rfl, rfl, by decide +kernel, rfl, by decide +kernel, by decide +kernel⟩
abbrev st__law_row : Stmt := top 78
theorem sc__law_row : FnScope ["_law_cup_here", "_law_most", "_law_found", "_law_turn"] ["_law_cup_here", "_law_most"] (defScope st__law_row) := ⟨rfl, rfl, rfl, by decide +kernel, rfl, by decide +kernel, by decide +kernel⟩
abbrev st_Pattern_pieces : Stmt := inClass (top 68) 2
theorem sc_Pattern_pieces : FnScope ["self"] ["self"] (defScope st_Pattern_pieces) := ⟨rfl, rfl, rfl, by decide +kernel, rfl, by decide +kernel, by decide +kernel⟩
abbrev st_Run_load : Stmt := inClass (top 72) 1
theorem sc_Run_load : FnScope ["self"] ["self"] (defScope st_Run_load) := ⟨rfl, rfl, rfl, by decide +kernel, rfl, by decide +kernel, by decide +kernel⟩
abbrev st_PatternX_callX : Stmt := inClass (top 68) 4
theorem sc_PatternX_callX : FnScope ["self", "load"] ["self", "load"] (defScope st_PatternX_callX) := ⟨rfl, rfl, rfl, by decide +kernel, rfl, by decide +kernel, by decide +kernel⟩
abbrev st_Ladder_next_of : Stmt := inClass (top 73) 2
theorem sc_Ladder_next_of : FnScope ["self", "pair"] ["self", "pair"] (defScope st_Ladder_next_of) := ⟨rfl, rfl, rfl, by decide +kernel, rfl, by decide +kernel, by decide +kernel⟩
abbrev st_Run_opening : Stmt := inClass (top 72) 5
theorem sc_Run_opening : GScope ["self", "count", "pair", "turn"] ["self", "count"] (defScope st_Run_opening) := ⟨rfl, rfl, rfl, by decide +kernel, rfl, by decide +kernel, by decide +kernel⟩
abbrev st__law_right : Stmt := top 84
theorem sc__law_right : FnScope ["_law_cup_here", "_law_turn", "_law_mine", "_law_odd", "_law_end", "_law_bad", "_law_told", "_law_way", "_law_many"] ["_law_cup_here"] (defScope st__law_right) := ⟨rfl, rfl, rfl, by decide +kernel, rfl, by decide +kernel, by decide +kernel⟩
abbrev st__law_cup : Stmt := top 75
theorem sc__law_cup : FnScope ["_law_script", "_law_spot", "_law_cell", "_law_one"] ["_law_script", "_law_spot"] (defScope st__law_cup) := ⟨rfl, rfl, rfl, by decide +kernel, rfl, by decide +kernel, by decide +kernel⟩
abbrev st_law : Stmt := top 85
theorem sc_law : FnScope ["_law_script", "_law_way", "_law_spot"] ["_law_script"] (defScope st_law) := ⟨rfl, rfl, rfl, by decide +kernel, rfl, by decide +kernel, by decide +kernel⟩
structure Facts (P : Program) (w : World) (K : PySem.W.Frag) (mg : Str → Option Value) (base : Heap) (ad : Nat → Addr) : Prop where
  f_check_pattern : ∃ fd, Fun K "check_pattern" "check_pattern" st_check_pattern (ad 0) fd
  g_check_pattern : mg "check_pattern" = some (.ref (ad 0))
  f_is_integer : ∃ fd, Fun K "is_integer" "is_integer" st_is_integer (ad 1) fd
  g_is_integer : mg "is_integer" = some (.ref (ad 1))
  f_is_fraction : ∃ fd, Fun K "is_fraction" "is_fraction" st_is_fraction (ad 2) fd
  g_is_fraction : mg "is_fraction" = some (.ref (ad 2))
  f_is_number : ∃ fd, Fun K "is_number" "is_number" st_is_number (ad 3) fd
  g_is_number : mg "is_number" = some (.ref (ad 3))
  f_is_resistance : ∃ fd, Fun K "is_resistance" "is_resistance" st_is_resistance (ad 4) fd
  g_is_resistance : mg "is_resistance" = some (.ref (ad 4))
  f_check_resistance : ∃ fd, Fun K "check_resistance" "check_resistance" st_check_resistance (ad 5) fd
  g_check_resistance : mg "check_resistance" = some (.ref (ad 5))
  f_RunX_initX : ∃ fd, Fun K "__init__" "Run.__init__" st_RunX_initX (ad 6) fd
  f_common : ∃ fd, Fun K "common" "common" st_common (ad 7) fd
  g_common : mg "common" = some (.ref (ad 7))
  f_lowest : ∃ fd, Fun K "lowest" "lowest" st_lowest (ad 8) fd
  g_lowest : mg "lowest" = some (.ref (ad 8))
  f_pair_of : ∃ fd, Fun K "pair_of" "pair_of" st_pair_of (ad 9) fd
  g_pair_of : mg "pair_of" = some (.ref (ad 9))
  f_is_between : ∃ fd, Fun K "is_between" "is_between" st_is_between (ad 11) fd
  g_is_between : mg "is_between" = some (.ref (ad 11))
  f_is_piece : ∃ fd, Fun K "is_piece" "is_piece" st_is_piece (ad 12) fd
  g_is_piece : mg "is_piece" = some (.ref (ad 12))
  f_check_pieces : ∃ fd, Fun K "check_pieces" "check_pieces" st_check_pieces (ad 13) fd
  g_check_pieces : mg "check_pieces" = some (.ref (ad 13))
  f_joined : ∃ fd, Fun K "joined" "joined" st_joined (ad 14) fd
  g_joined : mg "joined" = some (.ref (ad 14))
  f_chain_of : ∃ fd, Fun K "chain_of" "chain_of" st_chain_of (ad 15) fd
  g_chain_of : mg "chain_of" = some (.ref (ad 15))
  f_PatternX_initX : ∃ fd, Fun K "__init__" "Pattern.__init__" st_PatternX_initX (ad 16) fd
  f_check_count : ∃ fd, Fun K "check_count" "check_count" st_check_count (ad 17) fd
  g_check_count : mg "check_count" = some (.ref (ad 17))
  f_led : ∃ fd, Fun K "led" "led" st_led (ad 18) fd
  g_led : mg "led" = some (.ref (ad 18))
  f_shown : ∃ fd, Fun K "shown" "shown" st_shown (ad 19) fd
  g_shown : mg "shown" = some (.ref (ad 19))
  f_slim : ∃ fd, Fun K "slim" "slim" st_slim (ad 20) fd
  g_slim : mg "slim" = some (.ref (ad 20))
  f_repeated : ∃ fd, Fun K "repeated" "repeated" st_repeated (ad 21) fd
  g_repeated : mg "repeated" = some (.ref (ad 21))
  f_Ladder_value_at : ∃ fd, Fun K "value_at" "Ladder.value_at" st_Ladder_value_at (ad 22) fd
  f_RunX_callX : ∃ fd, Fun K "__call__" "Run.__call__" st_RunX_callX (ad 23) fd
  f__law_classes : ∃ fd, Fun K "_law_classes" "_law_classes" st__law_classes (ad 43) fd
  g__law_classes : mg "_law_classes" = some (.ref (ad 43))
  f__law_caught : ∃ fd, Fun K "_law_caught" "_law_caught" st__law_caught (ad 44) fd
  g__law_caught : mg "_law_caught" = some (.ref (ad 44))
  f__law_sip : ∃ fd, Fun K "_law_sip" "_law_sip" st__law_sip (ad 24) fd
  g__law_sip : mg "_law_sip" = some (.ref (ad 24))
  f__law_pick : ∃ fd, Fun K "_law_pick" "_law_pick" st__law_pick (ad 25) fd
  g__law_pick : mg "_law_pick" = some (.ref (ad 25))
  f__law_nothing : ∃ fd, Fun K "_law_nothing" "_law_nothing" st__law_nothing (ad 26) fd
  g__law_nothing : mg "_law_nothing" = some (.ref (ad 26))
  f_integer_in : ∃ fd, Fun K "integer_in" "integer_in" st_integer_in (ad 27) fd
  g_integer_in : mg "integer_in" = some (.ref (ad 27))
  f_piece_in : ∃ fd, Fun K "piece_in" "piece_in" st_piece_in (ad 28) fd
  g_piece_in : mg "piece_in" = some (.ref (ad 28))
  f_RowX_initX : ∃ fd, Fun K "__init__" "Row.__init__" st_RowX_initX (ad 29) fd
  f_pattern_in : ∃ fd, Fun K "pattern_in" "pattern_in" st_pattern_in (ad 30) fd
  g_pattern_in : mg "pattern_in" = some (.ref (ad 30))
  f_Pattern_read : ∃ fd, Fun K "read" "Pattern.read" st_Pattern_read (ad 31) fd
  f__law_words : ∃ fd, Fun K "_law_words" "_law_words" st__law_words (ad 32) fd
  g__law_words : mg "_law_words" = some (.ref (ad 32))
  f__law_read : ∃ fd, Fun K "_law_read" "_law_read" st__law_read (ad 33) fd
  g__law_read : mg "_law_read" = some (.ref (ad 33))
  f__law_row : ∃ fd, Fun K "_law_row" "_law_row" st__law_row (ad 34) fd
  g__law_row : mg "_law_row" = some (.ref (ad 34))
  f_Pattern_pieces : ∃ fd, Fun K "pieces" "Pattern.pieces" st_Pattern_pieces (ad 35) fd
  f_Run_load : ∃ fd, Fun K "load" "Run.load" st_Run_load (ad 36) fd
  f_PatternX_callX : ∃ fd, Fun K "__call__" "Pattern.__call__" st_PatternX_callX (ad 37) fd
  f_Ladder_next_of : ∃ fd, Fun K "next_of" "Ladder.next_of" st_Ladder_next_of (ad 38) fd
  f_Run_opening : ∃ fd, Fun K "opening" "Run.opening" st_Run_opening (ad 39) fd
  f__law_right : ∃ fd, FunC K "_law_right" "_law_right" st__law_right (ad 40) (ad 8001) fd
  tb_1 : LamX.TabB base mg (ad 8001) (ad 8101)
  g__law_right : mg "_law_right" = some (.ref (ad 40))
  f__law_cup : ∃ fd, Fun K "_law_cup" "_law_cup" st__law_cup (ad 41) fd
  g__law_cup : mg "_law_cup" = some (.ref (ad 41))
  f_law : ∃ fd, FunC K "law" "law" st_law (ad 42) (ad 8000) fd
  tb_0 : LamX.TabB base mg (ad 8000) (ad 8100)
  g_law : mg "law" = some (.ref (ad 42))
  kx_NotAPattern : mg "NotAPattern" = some (.ref (ad 1100))
  kx_NotARun : mg "NotARun" = some (.ref (ad 1101))
  kx_InvalidResistance : mg "InvalidResistance" = some (.ref (ad 1102))
  kx_InvalidCount : mg "InvalidCount" = some (.ref (ad 1103))
  kx_InvalidNumber : mg "InvalidNumber" = some (.ref (ad 1104))
  kx_InvalidText : mg "InvalidText" = some (.ref (ad 1105))
  kx_InvalidName : mg "InvalidName" = some (.ref (ad 1106))
  kx_InvalidClaim : mg "InvalidClaim" = some (.ref (ad 1107))
  kx_InvalidIndex : mg "InvalidIndex" = some (.ref (ad 1108))
  kx_InvalidPieces : mg "InvalidPieces" = some (.ref (ad 1109))
  kx_InvalidKinds : mg "InvalidKinds" = some (.ref (ad 1110))
  kx_InvalidStretches : mg "InvalidStretches" = some (.ref (ad 1111))
  kx_InvalidDeeds : mg "InvalidDeeds" = some (.ref (ad 1112))
  kx_UnknownName : mg "UnknownName" = some (.ref (ad 1113))
  kx_InUse : mg "InUse" = some (.ref (ad 1114))
  kx_TooMany : mg "TooMany" = some (.ref (ad 1115))
  kx_Broken : mg "Broken" = some (.ref (ad 1116))
  kx_NoLimit : mg "NoLimit" = some (.ref (ad 1117))
  kx_NothingToUndo : mg "NothingToUndo" = some (.ref (ad 1118))
  kx_WrongValue : mg "WrongValue" = some (.ref (ad 1120))
  kx_WrongName : mg "WrongName" = some (.ref (ad 1121))
  kx_NoAnswer : mg "NoAnswer" = some (.ref (ad 1122))
  er_NotAPattern : ∀ b : Bool, ErrT K mg (GG b K ad) 0 "NotAPattern"
  xh_NotAPattern : ∀ b : Bool, IsaH (GG b K ad) K (ad 1100) (isS [100, 120]) (isB 23)
  xf_NotAPattern : XfC K (ad 1100)
  xn_NotAPattern_given : PySem.W.findIn K (.ref (ad 1100)) "given" = some none
  xn_NotAPattern_most : PySem.W.findIn K (.ref (ad 1100)) "most" = some none
  xn_NotAPattern_index : PySem.W.findIn K (.ref (ad 1100)) "index" = some none
  ns_NotAPattern : NoSt K (.ref (ad 1100))
  xm_NotAPattern : PySem.W.exmAny K (.ref (ad 1100)) [.ref (ad 1120), .ref (ad 1121), .ref (ad 1122)] = some true
  er_InvalidResistance : ∀ b : Bool, ErrT K mg (GG b K ad) 2 "InvalidResistance"
  xh_InvalidResistance : ∀ b : Bool, IsaH (GG b K ad) K (ad 1102) (isS [102, 120]) (isB 23)
  xf_InvalidResistance : XfC K (ad 1102)
  xn_InvalidResistance_given : PySem.W.findIn K (.ref (ad 1102)) "given" = some none
  xn_InvalidResistance_most : PySem.W.findIn K (.ref (ad 1102)) "most" = some none
  xn_InvalidResistance_index : PySem.W.findIn K (.ref (ad 1102)) "index" = some none
  ns_InvalidResistance : NoSt K (.ref (ad 1102))
  xm_InvalidResistance : PySem.W.exmAny K (.ref (ad 1102)) [.ref (ad 1120), .ref (ad 1121), .ref (ad 1122)] = some true
  er_InvalidPieces : ∀ b : Bool, ErrT K mg (GG b K ad) 9 "InvalidPieces"
  xh_InvalidPieces : ∀ b : Bool, IsaH (GG b K ad) K (ad 1109) (isS [109, 120]) (isB 23)
  xf_InvalidPieces : XfC K (ad 1109)
  xn_InvalidPieces_given : PySem.W.findIn K (.ref (ad 1109)) "given" = some none
  xn_InvalidPieces_most : PySem.W.findIn K (.ref (ad 1109)) "most" = some none
  xn_InvalidPieces_index : PySem.W.findIn K (.ref (ad 1109)) "index" = some none
  ns_InvalidPieces : NoSt K (.ref (ad 1109))
  xm_InvalidPieces : PySem.W.exmAny K (.ref (ad 1109)) [.ref (ad 1120), .ref (ad 1121), .ref (ad 1122)] = some true
  er_InvalidCount : ∀ b : Bool, ErrT K mg (GG b K ad) 3 "InvalidCount"
  xh_InvalidCount : ∀ b : Bool, IsaH (GG b K ad) K (ad 1103) (isS [103, 120]) (isB 23)
  xf_InvalidCount : XfC K (ad 1103)
  xn_InvalidCount_given : PySem.W.findIn K (.ref (ad 1103)) "given" = some none
  xn_InvalidCount_most : PySem.W.findIn K (.ref (ad 1103)) "most" = some none
  xn_InvalidCount_index : PySem.W.findIn K (.ref (ad 1103)) "index" = some none
  ns_InvalidCount : NoSt K (.ref (ad 1103))
  xm_InvalidCount : PySem.W.exmAny K (.ref (ad 1103)) [.ref (ad 1120), .ref (ad 1121), .ref (ad 1122)] = some true
  er_InvalidText : ∀ b : Bool, ErrT K mg (GG b K ad) 5 "InvalidText"
  xh_InvalidText : ∀ b : Bool, IsaH (GG b K ad) K (ad 1105) (isS [105, 120]) (isB 23)
  xf_InvalidText : XfC K (ad 1105)
  xn_InvalidText_given : PySem.W.findIn K (.ref (ad 1105)) "given" = some none
  xn_InvalidText_most : PySem.W.findIn K (.ref (ad 1105)) "most" = some none
  xn_InvalidText_index : PySem.W.findIn K (.ref (ad 1105)) "index" = some none
  ns_InvalidText : NoSt K (.ref (ad 1105))
  xm_InvalidText : PySem.W.exmAny K (.ref (ad 1105)) [.ref (ad 1120), .ref (ad 1121), .ref (ad 1122)] = some true
  zx_ValueError : mg "ValueError" = none
  zx_LookupError : mg "LookupError" = none
  zx_ArithmeticError : mg "ArithmeticError" = none
  u_LadderX_initX : Sup P K "__init__" "Ladder.__init__" st_LadderX_initX (ad 10) (ad 2010) (ad 3010) (ad 1005) (ad 1005) (ad 6)
  k_Row : mg "Row" = some (.ref (ad 1000))
  m_Row : Mk K (ad 1000) (ad 29)
  cl_Row : Cls K (ad 1000)
  na_Row_told : NoAttr K (ad 1000) "told"
  k_Pattern : mg "Pattern" = some (.ref (ad 1001))
  m_Pattern : Mk K (ad 1001) (ad 16)
  cl_Pattern : Cls K (ad 1001)
  na_Pattern_row : NoAttr K (ad 1001) "row"
  na_Pattern_chain : NoAttr K (ad 1001) "chain"
  na_Pattern_scale : NoAttr K (ad 1001) "scale"
  k_Ladder : mg "Ladder" = some (.ref (ad 1005))
  m_Ladder : Mk K (ad 1005) (ad 10)
  cl_Ladder : Cls K (ad 1005)
  na_Ladder_first : NoAttr K (ad 1005) "first"
  na_Ladder_pattern : NoAttr K (ad 1005) "pattern"
  t_Ladder_Ladder_value_at : Meth K (ad 1005) "value_at" (ad 22)
  o_Ladder_RunX_callX : StX.CallO K (ad 1005) (ad 23)
  p_Pattern_Pattern_pieces : ∃ q, PropOf K (ad 1001) "pieces" q (ad 35)
  p_Ladder_Run_load : ∃ q, PropOf K (ad 1005) "load" q (ad 36)
  o_Pattern_PatternX_callX : StX.CallO K (ad 1001) (ad 37)
  t_Ladder_Ladder_next_of : Meth K (ad 1005) "next_of" (ad 38)
  t_Ladder_Run_opening : Meth K (ad 1005) "opening" (ad 39)
  s_Pattern_read : ∃ (mc : Value) (p : Addr) (rest : List Value), ClX.CRead K (ad 1001) mc ∧ PySem.W.findCls K (.ref (ad 1001)) mc "read" = some (.get (.builtin "staticmethod.__get__") (.ref p) .none (.ref (ad 1001))) ∧ PySem.W.recIn K p "staticmethod" = some (.ref (ad 31) :: rest)
  z_abs : mg "abs" = none
  z_all : mg "all" = none
  z_any : mg "any" = none
  z_bool : mg "bool" = none
  z_divmod : mg "divmod" = none
  z_enumerate : mg "enumerate" = none
  z_int : mg "int" = none
  z_isinstance : mg "isinstance" = none
  z_len : mg "len" = none
  z_list : mg "list" = none
  z_max : mg "max" = none
  z_min : mg "min" = none
  z_range : mg "range" = none
  z_repr : mg "repr" = none
  z_str : mg "str" = none
  z_super : mg "super" = none
  z_tuple : mg "tuple" = none
  c_OPEN : ∀ b : Bool, GlobD mg (GG b K ad) "OPEN" (.tup [(.int 1), (.int 0)])
  c_GREATEST : ∀ b : Bool, GlobD mg (GG b K ad) "GREATEST" (.int 1000000000000)
  c_MOST_PIECES : ∀ b : Bool, GlobD mg (GG b K ad) "MOST_PIECES" (.int 4)
  c_MOST_OHMS : ∀ b : Bool, GlobD mg (GG b K ad) "MOST_OHMS" (.int 12)
  c_WORDS : ∀ b : Bool, GlobD mg (GG b K ad) "WORDS" (.tup [(.str "rail"), (.str "rung")])
  c_NOTHING : ∀ b : Bool, GlobD mg (GG b K ad) "NOTHING" (.tup [(.int 1), (.int 0), (.int 0), (.int 1)])
  c_MOST_SECTIONS : ∀ b : Bool, GlobD mg (GG b K ad) "MOST_SECTIONS" (.int 100)
  c_DIGITS : ∀ b : Bool, GlobD mg (GG b K ad) "DIGITS" (.str "0123456789")
  c_MOST_DIGITS : ∀ b : Bool, GlobD mg (GG b K ad) "MOST_DIGITS" (.int 13)
  c_MOST_JOINED : ∀ b : Bool, GlobD mg (GG b K ad) "MOST_JOINED" (.int 8)
  isa : ∀ (b : Bool) (X : Cx), X.K = K → ClsT X (GG b K ad) (fun c => decide (c ∈ ([0, 1, 5] : List Nat))) (fun a b => if a ∈ ([0, 1, 5] : List Nat) ∧ b ∈ ([1, 0] : List Nat) then some (decide ((a, b) ∈ ([(0, 0), (1, 1)] : List (Nat × Nat)))) else none)
variable {P : Program} {w : World} {K : PySem.W.Frag} {mg : Str → Option Value} {base : Heap} {ad : Nat → Addr} {b : Bool}
def Same (X : Cx) (P : Program) (w : World) (K : PySem.W.Frag) (mg : Str → Option Value) (base : Heap) : Prop := X.prog = P ∧ X.w = w ∧ X.K = K ∧ X.mg = mg ∧ X.base = base
theorem T_fld_first (T : Facts P w K mg base ad) {X : Cx} (h : Same X P w K mg base) : FldT X (GG b K ad) "first" (tab [(5, 0)]) := by
  obtain ⟨rfl, rfl, rfl, rfl, rfl⟩ := h
  exact ⟨(tab_cons ⟨T.cl_Ladder, T.na_Ladder_first, (show (flds 5).Nodup by decide +kernel), rfl, (show (flds 5).length < 1000 by decide +kernel)⟩ tab_nil)⟩
theorem T_fld_pattern (T : Facts P w K mg base ad) {X : Cx} (h : Same X P w K mg base) : FldT X (GG b K ad) "pattern" (tab [(5, 1)]) := by
  obtain ⟨rfl, rfl, rfl, rfl, rfl⟩ := h
  exact ⟨(tab_cons ⟨T.cl_Ladder, T.na_Ladder_pattern, (show (flds 5).Nodup by decide +kernel), rfl, (show (flds 5).length < 1000 by decide +kernel)⟩ tab_nil)⟩
theorem T_fld_row (T : Facts P w K mg base ad) {X : Cx} (h : Same X P w K mg base) : FldT X (GG b K ad) "row" (tab [(1, 0)]) := by
  obtain ⟨rfl, rfl, rfl, rfl, rfl⟩ := h
  exact ⟨(tab_cons ⟨T.cl_Pattern, T.na_Pattern_row, (show (flds 1).Nodup by decide +kernel), rfl, (show (flds 1).length < 1000 by decide +kernel)⟩ tab_nil)⟩
theorem T_fld_scale (T : Facts P w K mg base ad) {X : Cx} (h : Same X P w K mg base) : FldT X (GG b K ad) "scale" (tab [(1, 2)]) := by
  obtain ⟨rfl, rfl, rfl, rfl, rfl⟩ := h
  exact ⟨(tab_cons ⟨T.cl_Pattern, T.na_Pattern_scale, (show (flds 1).Nodup by decide +kernel), rfl, (show (flds 1).length < 1000 by decide +kernel)⟩ tab_nil)⟩
theorem T_fld_chain (T : Facts P w K mg base ad) {X : Cx} (h : Same X P w K mg base) : FldT X (GG b K ad) "chain" (tab [(1, 1)]) := by
  obtain ⟨rfl, rfl, rfl, rfl, rfl⟩ := h
  exact ⟨(tab_cons ⟨T.cl_Pattern, T.na_Pattern_chain, (show (flds 1).Nodup by decide +kernel), rfl, (show (flds 1).length < 1000 by decide +kernel)⟩ tab_nil)⟩
theorem T_fld_told (T : Facts P w K mg base ad) {X : Cx} (h : Same X P w K mg base) : FldT X (GG b K ad) "told" (tab [(0, 0)]) := by
  obtain ⟨rfl, rfl, rfl, rfl, rfl⟩ := h
  exact ⟨(tab_cons ⟨T.cl_Row, T.na_Row_told, (show (flds 0).Nodup by decide +kernel), rfl, (show (flds 0).length < 1000 by decide +kernel)⟩ tab_nil)⟩
theorem T_attr_told_0 (T : Facts P w K mg base ad) {X : Cx} (h : Same X P w K mg base) {k : Nat} (hk : 0 ≤ k) : AttrT X (GG b K ad) k "told" (tab [(0, .fld 0)]) := by
  obtain ⟨rfl, rfl, rfl, rfl, rfl⟩ := h
  exact AttrT.of (tab_cons ⟨T.cl_Row, T.na_Row_told, (show (flds 0).Nodup by decide +kernel), rfl⟩ tab_nil)
theorem T_attr_first_5 (T : Facts P w K mg base ad) {X : Cx} (h : Same X P w K mg base) {k : Nat} (hk : 0 ≤ k) : AttrT X (GG b K ad) k "first" (tab [(5, .fld 0)]) := by
  obtain ⟨rfl, rfl, rfl, rfl, rfl⟩ := h
  exact AttrT.of (tab_cons ⟨T.cl_Ladder, T.na_Ladder_first, (show (flds 5).Nodup by decide +kernel), rfl⟩ tab_nil)
theorem T_attr_chain_1 (T : Facts P w K mg base ad) {X : Cx} (h : Same X P w K mg base) {k : Nat} (hk : 0 ≤ k) : AttrT X (GG b K ad) k "chain" (tab [(1, .fld 1)]) := by
  obtain ⟨rfl, rfl, rfl, rfl, rfl⟩ := h
  exact AttrT.of (tab_cons ⟨T.cl_Pattern, T.na_Pattern_chain, (show (flds 1).Nodup by decide +kernel), rfl⟩ tab_nil)
theorem T_attr_pattern_5 (T : Facts P w K mg base ad) {X : Cx} (h : Same X P w K mg base) {k : Nat} (hk : 0 ≤ k) : AttrT X (GG b K ad) k "pattern" (tab [(5, .fld 1)]) := by
  obtain ⟨rfl, rfl, rfl, rfl, rfl⟩ := h
  exact AttrT.of (tab_cons ⟨T.cl_Ladder, T.na_Ladder_pattern, (show (flds 5).Nodup by decide +kernel), rfl⟩ tab_nil)
theorem T_attr_row_1 (T : Facts P w K mg base ad) {X : Cx} (h : Same X P w K mg base) {k : Nat} (hk : 0 ≤ k) : AttrT X (GG b K ad) k "row" (tab [(1, .fld 0)]) := by
  obtain ⟨rfl, rfl, rfl, rfl, rfl⟩ := h
  exact AttrT.of (tab_cons ⟨T.cl_Pattern, T.na_Pattern_row, (show (flds 1).Nodup by decide +kernel), rfl⟩ tab_nil)
def pk_check_pattern : Σ' ms : MS, ∀ (P : Program) (w : World) (K : PySem.W.Frag) (mg : Str → Option Value) (base : Heap) (ad : Nat → Addr) (b : Bool), Facts P w K mg base ad → Body P w K mg base (GG b K ad) 1 (ad 0) ["value"] "check_pattern" st_check_pattern ms :=
  ⟨_, fun P w K mg base ad b T cdv A fr s H E c => ss_cons (s_if (b_not (b_val (v_callB (c_isa c.cK (T.isa _ _ rfl)) (by rfl) T.z_isinstance (by decide +kernel) (l_cons (v_var (i := 0) rfl (by leaf_len) (by decide) (by decide)) (l_cons (v_glob (by rfl) (glob_cls (c := 1) T.k_Pattern) (by decide)) l_nil rfl) rfl) rfl (by decide) (by decide)) (fun _ => rfl))) (ss_cons (s_raise (cx := 0) c (by decide) (L2N.takes_of rfl rfl rfl rfl) (T.er_NotAPattern _) (by rfl) (by decide) (v_var (i := 0) rfl (by leaf_len) (by decide) (by decide)) rfl) ss_never) (ss_nil)) (ss_nil)⟩
def sem_check_pattern : List D → M D := runFn 1 1 pk_check_pattern.1
theorem ok_check_pattern (T : Facts P w K mg base ad) : FnA P w K mg base (GG b K ad) 3 (ad 0) sem_check_pattern := by
  obtain ⟨fd, F⟩ := T.f_check_pattern
  exact fna_rule F sc_check_pattern (F.binds fun _ _ _ _ _ _ us hl => match us, hl with | [_], _ => rfl) rfl (pk_check_pattern.2 P w K mg base ad b T) rfl rfl (by decide)
def pk_is_integer : Σ' ms : MS, ∀ (P : Program) (w : World) (K : PySem.W.Frag) (mg : Str → Option Value) (base : Heap) (ad : Nat → Addr) (b : Bool), Facts P w K mg base ad → Body P w K mg base (GG b K ad) 0 (ad 1) ["value"] "is_integer" st_is_integer ms :=
  ⟨_, fun P w K mg base ad b T cdv A fr s H E c => ss_cons (s_ret (v_and (v_callB (c_isa c.cK (T.isa _ _ rfl)) (by rfl) T.z_isinstance (by decide +kernel) (l_cons (v_var (i := 0) rfl (by leaf_len) (by decide) (by decide)) (l_cons (v_ty (t := .int) (by rfl) T.z_int (by decide +kernel) (by decide) (by decide)) l_nil rfl) rfl) rfl (by decide) (by decide)) (v_one (v_not (v_callB (c_isa c.cK (T.isa _ _ rfl)) (by rfl) T.z_isinstance (by decide +kernel) (l_cons (v_var (i := 0) rfl (by leaf_len) (by decide) (by decide)) (l_cons (v_ty (t := .bool) (by rfl) T.z_bool (by decide +kernel) (by decide) (by decide)) l_nil rfl) rfl) rfl (by decide) (by decide)))))) ss_nil⟩
def sem_is_integer : List D → M D := runFn 1 1 pk_is_integer.1
theorem ok_is_integer (T : Facts P w K mg base ad) : FnA P w K mg base (GG b K ad) 2 (ad 1) sem_is_integer := by
  obtain ⟨fd, F⟩ := T.f_is_integer
  exact fna_rule F sc_is_integer (F.binds fun _ _ _ _ _ _ us hl => match us, hl with | [_], _ => rfl) rfl (pk_is_integer.2 P w K mg base ad b T) rfl rfl (by decide)
def pk_is_fraction : Σ' ms : MS, ∀ (P : Program) (w : World) (K : PySem.W.Frag) (mg : Str → Option Value) (base : Heap) (ad : Nat → Addr) (b : Bool), Facts P w K mg base ad → Body P w K mg base (GG b K ad) 2 (ad 2) ["value"] "is_fraction" st_is_fraction ms :=
  ⟨_, fun P w K mg base ad b T cdv A fr s H E c => ss_cons (s_if (b_not (b_val (v_callB (c_isa c.cK (T.isa _ _ rfl)) (by rfl) T.z_isinstance (by decide +kernel) (l_cons (v_var (i := 0) rfl (by leaf_len) (by decide) (by decide)) (l_cons (v_ty (t := .tuple) (by rfl) T.z_tuple (by decide +kernel) (by decide) (by decide)) l_nil rfl) rfl) rfl (by decide) (by decide)) (fun _ => rfl))) (ss_cons (s_ret (v_and (v_calls (FnA.call c ((ok_is_integer T).mono (by decide))) (by rfl) T.g_is_integer (l_cons (v_var (i := 0) rfl (by leaf_len) (by decide) (by decide)) l_nil rfl) rfl (by decide)) (v_one (v_cmp (o_ge) (v_var (i := 0) rfl (by leaf_len) (by decide) (by decide)) v_int rfl)))) ss_nil) (ss_nil)) (ss_cons (s_ret (v_and (v_cmp (o_eq c.cK c.rm) (v_callB (c_len c.cK) (by rfl) T.z_len (by decide +kernel) (l_cons (v_var (i := 0) rfl (by leaf_len) (by decide) (by decide)) l_nil rfl) rfl (by decide) (by decide)) v_int rfl) (v_and (v_calls (FnA.call c ((ok_is_integer T).mono (by decide))) (by rfl) T.g_is_integer (l_cons (v_ix c.cK (v_var (i := 0) rfl (by leaf_len) (by decide) (by decide)) v_int rfl) l_nil rfl) rfl (by decide)) (v_and (v_calls (FnA.call c ((ok_is_integer T).mono (by decide))) (by rfl) T.g_is_integer (l_cons (v_ix c.cK (v_var (i := 0) rfl (by leaf_len) (by decide) (by decide)) v_int rfl) l_nil rfl) rfl (by decide)) (v_and (v_cmp (o_ge) (v_ix c.cK (v_var (i := 0) rfl (by leaf_len) (by decide) (by decide)) v_int rfl) v_int rfl) (v_one (v_cmp (o_ge) (v_ix c.cK (v_var (i := 0) rfl (by leaf_len) (by decide) (by decide)) v_int rfl) v_int rfl))))))) ss_nil)⟩
def sem_is_fraction : List D → M D := runFn 1 1 pk_is_fraction.1
theorem ok_is_fraction (T : Facts P w K mg base ad) : FnA P w K mg base (GG b K ad) 4 (ad 2) sem_is_fraction := by
  obtain ⟨fd, F⟩ := T.f_is_fraction
  exact fna_rule F sc_is_fraction (F.binds fun _ _ _ _ _ _ us hl => match us, hl with | [_], _ => rfl) rfl (pk_is_fraction.2 P w K mg base ad b T) rfl rfl (by decide)
def pk_is_number : Σ' ms : MS, ∀ (P : Program) (w : World) (K : PySem.W.Frag) (mg : Str → Option Value) (base : Heap) (ad : Nat → Addr) (b : Bool), Facts P w K mg base ad → Body P w K mg base (GG b K ad) 4 (ad 3) ["value"] "is_number" st_is_number ms :=
  ⟨_, fun P w K mg base ad b T cdv A fr s H E c => ss_cons (s_if (b_val (v_calls (FnA.call c ((ok_is_fraction T).mono (by decide))) (by rfl) T.g_is_fraction (l_cons (v_var (i := 0) rfl (by leaf_len) (by decide) (by decide)) l_nil rfl) rfl (by decide)) (fun _ => rfl)) (ss_cons (s_ret v_bool) ss_nil) (ss_nil)) (ss_cons (s_if (b_of (w_or (b_not (b_val (v_callB (c_isa c.cK (T.isa _ _ rfl)) (by rfl) T.z_isinstance (by decide +kernel) (l_cons (v_var (i := 0) rfl (by leaf_len) (by decide) (by decide)) (l_cons (v_ty (t := .tuple) (by rfl) T.z_tuple (by decide +kernel) (by decide) (by decide)) l_nil rfl) rfl) rfl (by decide) (by decide)) (fun _ => rfl))) (w_or1 (b_cmp (o_ne c.cK c.rm) (v_callB (c_len c.cK) (by rfl) T.z_len (by decide +kernel) (l_cons (v_var (i := 0) rfl (by leaf_len) (by decide) (by decide)) l_nil rfl) rfl (by decide) (by decide)) v_int rfl)))) (ss_cons (s_ret v_bool) ss_nil) (ss_nil)) (ss_cons (s_ret (v_and (v_calls (FnA.call c ((ok_is_integer T).mono (by decide))) (by rfl) T.g_is_integer (l_cons (v_ix c.cK (v_var (i := 0) rfl (by leaf_len) (by decide) (by decide)) v_int rfl) l_nil rfl) rfl (by decide)) (v_and (v_calls (FnA.call c ((ok_is_integer T).mono (by decide))) (by rfl) T.g_is_integer (l_cons (v_ix c.cK (v_var (i := 0) rfl (by leaf_len) (by decide) (by decide)) v_int rfl) l_nil rfl) rfl (by decide)) (v_one (v_cmp (o_eq c.cK c.rm) (v_var (i := 0) rfl (by leaf_len) (by decide) (by decide)) (v_glob (by rfl) (T.c_OPEN _) (by decide)) rfl))))) ss_nil))⟩
def sem_is_number : List D → M D := runFn 1 1 pk_is_number.1
theorem ok_is_number (T : Facts P w K mg base ad) : FnA P w K mg base (GG b K ad) 6 (ad 3) sem_is_number := by
  obtain ⟨fd, F⟩ := T.f_is_number
  exact fna_rule F sc_is_number (F.binds fun _ _ _ _ _ _ us hl => match us, hl with | [_], _ => rfl) rfl (pk_is_number.2 P w K mg base ad b T) rfl rfl (by decide)
def pk_is_resistance : Σ' ms : MS, ∀ (P : Program) (w : World) (K : PySem.W.Frag) (mg : Str → Option Value) (base : Heap) (ad : Nat → Addr) (b : Bool), Facts P w K mg base ad → Body P w K mg base (GG b K ad) 6 (ad 4) ["value"] "is_resistance" st_is_resistance ms :=
  ⟨_, fun P w K mg base ad b T cdv A fr s H E c => ss_cons (s_if (b_not (b_val (v_calls (FnA.call c ((ok_is_number T).mono (by decide))) (by rfl) T.g_is_number (l_cons (v_var (i := 0) rfl (by leaf_len) (by decide) (by decide)) l_nil rfl) rfl (by decide)) (fun _ => rfl))) (ss_cons (s_ret v_bool) ss_nil) (ss_nil)) (ss_cons (s_if (b_val (v_callB (c_isa c.cK (T.isa _ _ rfl)) (by rfl) T.z_isinstance (by decide +kernel) (l_cons (v_var (i := 0) rfl (by leaf_len) (by decide) (by decide)) (l_cons (v_ty (t := .tuple) (by rfl) T.z_tuple (by decide +kernel) (by decide) (by decide)) l_nil rfl) rfl) rfl (by decide) (by decide)) (fun _ => rfl)) (ss_cons (s_ret (v_and (v_cmp (o_le) (v_ix c.cK (v_var (i := 0) rfl (by leaf_len) (by decide) (by decide)) v_int rfl) (v_glob (by rfl) (T.c_GREATEST _) (by decide)) rfl) (v_one (v_cmp (o_le) (v_ix c.cK (v_var (i := 0) rfl (by leaf_len) (by decide) (by decide)) v_int rfl) (v_glob (by rfl) (T.c_GREATEST _) (by decide)) rfl)))) ss_nil) (ss_nil)) (ss_cons (s_ret (v_cmp (o_le) (v_var (i := 0) rfl (by leaf_len) (by decide) (by decide)) (v_glob (by rfl) (T.c_GREATEST _) (by decide)) rfl)) ss_nil))⟩
def sem_is_resistance : List D → M D := runFn 1 1 pk_is_resistance.1
theorem ok_is_resistance (T : Facts P w K mg base ad) : FnA P w K mg base (GG b K ad) 8 (ad 4) sem_is_resistance := by
  obtain ⟨fd, F⟩ := T.f_is_resistance
  exact fna_rule F sc_is_resistance (F.binds fun _ _ _ _ _ _ us hl => match us, hl with | [_], _ => rfl) rfl (pk_is_resistance.2 P w K mg base ad b T) rfl rfl (by decide)
def pk_check_resistance : Σ' ms : MS, ∀ (P : Program) (w : World) (K : PySem.W.Frag) (mg : Str → Option Value) (base : Heap) (ad : Nat → Addr) (b : Bool), Facts P w K mg base ad → Body P w K mg base (GG b K ad) 8 (ad 5) ["value"] "check_resistance" st_check_resistance ms :=
  ⟨_, fun P w K mg base ad b T cdv A fr s H E c => ss_cons (s_if (b_not (b_val (v_calls (FnA.call c ((ok_is_resistance T).mono (by decide))) (by rfl) T.g_is_resistance (l_cons (v_var (i := 0) rfl (by leaf_len) (by decide) (by decide)) l_nil rfl) rfl (by decide)) (fun _ => rfl))) (ss_cons (s_raise (cx := 2) c (by decide) (L2N.takes_of rfl rfl rfl rfl) (T.er_InvalidResistance _) (by rfl) (by decide) (v_var (i := 0) rfl (by leaf_len) (by decide) (by decide)) rfl) ss_never) (ss_nil)) (ss_nil)⟩
def sem_check_resistance : List D → M D := runFn 1 1 pk_check_resistance.1
theorem ok_check_resistance (T : Facts P w K mg base ad) : FnA P w K mg base (GG b K ad) 10 (ad 5) sem_check_resistance := by
  obtain ⟨fd, F⟩ := T.f_check_resistance
  exact fna_rule F sc_check_resistance (F.binds fun _ _ _ _ _ _ us hl => match us, hl with | [_], _ => rfl) rfl (pk_check_resistance.2 P w K mg base ad b T) rfl rfl (by decide)
def pk_RunX_initX : Σ' ms : MS, ∀ (P : Program) (w : World) (K : PySem.W.Frag) (mg : Str → Option Value) (base : Heap) (ad : Nat → Addr) (b : Bool), Facts P w K mg base ad → Body P w K mg base (GG b K ad) 0 (ad 6) ["self", "load"] "Run.__init__" st_RunX_initX ms :=
  ⟨_, fun P w K mg base ad b T cdv A fr s H E c => ss_cons (s_setF (i := 0) (T_fld_first T ⟨rfl, rfl, rfl, rfl, rfl⟩) rfl (by leaf_len) (by decide) (by decide) (v_var (i := 1) rfl (by leaf_len) (by decide) (by decide)) rfl) (ss_nil)⟩
def pk_common : Σ' ms : MS, ∀ (P : Program) (w : World) (K : PySem.W.Frag) (mg : Str → Option Value) (base : Heap) (ad : Nat → Addr) (b : Bool), Facts P w K mg base ad → Body P w K mg base (GG b K ad) 0 (ad 7) ["one", "other"] "common" st_common ms :=
  ⟨_, fun P w K mg base ad b T cdv A fr s H E c => ss_cons (s_while c (b_cmp (o_gt) (v_var (i := 1) rfl (by leaf_len) (by decide) (by decide)) v_int rfl) (ss_cons (s_par (i := 0) (j := 1) c rfl rfl (by decide) rfl rfl (l_cons (v_var (i := 1) rfl (by leaf_len) (by decide) (by decide)) (l_cons (v_bin (o_mod) (v_callTy (c_int) (by rfl) T.z_int (by decide +kernel) (l_cons (v_var (i := 0) rfl (by leaf_len) (by decide) (by decide)) l_nil rfl) rfl (by decide) (by decide)) (v_callTy (c_int) (by rfl) T.z_int (by decide +kernel) (l_cons (v_var (i := 1) rfl (by leaf_len) (by decide) (by decide)) l_nil rfl) rfl (by decide) (by decide))) l_nil rfl) rfl) rfl) (ss_nil))) (ss_cons (s_ret (v_var (i := 0) rfl (by leaf_len) (by decide) (by decide))) ss_nil)⟩
def sem_common : List D → M D := runFn 2 2 pk_common.1
theorem ok_common (T : Facts P w K mg base ad) : FnA P w K mg base (GG b K ad) 2 (ad 7) sem_common := by
  obtain ⟨fd, F⟩ := T.f_common
  exact fna_rule F sc_common (F.binds fun _ _ _ _ _ _ us hl => match us, hl with | [_, _], _ => rfl) rfl (pk_common.2 P w K mg base ad b T) rfl rfl (by decide)
def pk_lowest : Σ' ms : MS, ∀ (P : Program) (w : World) (K : PySem.W.Frag) (mg : Str → Option Value) (base : Heap) (ad : Nat → Addr) (b : Bool), Facts P w K mg base ad → Body P w K mg base (GG b K ad) 2 (ad 8) ["top", "bottom", "by"] "lowest" st_lowest ms :=
  ⟨_, fun P w K mg base ad b T cdv A fr s H E c => ss_cons (s_set (i := 2) c rfl (by mem_news) (v_calls (FnA.call c ((ok_common T).mono (by decide))) (by rfl) T.g_common (l_cons (v_var (i := 0) rfl (by leaf_len) (by decide) (by decide)) (l_cons (v_var (i := 1) rfl (by leaf_len) (by decide) (by decide)) l_nil rfl) rfl) rfl (by decide)) rfl (.inl rfl)) (ss_cons (s_ret (v_tup (l_cons (v_bin (o_fdiv) (v_var (i := 0) rfl (by leaf_len) (by decide) (by decide)) (v_var (i := 2) rfl (by leaf_len) (by decide) (by decide))) (l_cons (v_bin (o_fdiv) (v_var (i := 1) rfl (by leaf_len) (by decide) (by decide)) (v_var (i := 2) rfl (by leaf_len) (by decide) (by decide))) l_nil rfl) rfl) (by decide))) ss_nil)⟩
def sem_lowest : List D → M D := runFn 2 3 pk_lowest.1
theorem ok_lowest (T : Facts P w K mg base ad) : FnA P w K mg base (GG b K ad) 4 (ad 8) sem_lowest := by
  obtain ⟨fd, F⟩ := T.f_lowest
  exact fna_rule F sc_lowest (F.binds fun _ _ _ _ _ _ us hl => match us, hl with | [_, _], _ => rfl) rfl (pk_lowest.2 P w K mg base ad b T) rfl rfl (by decide)
def pk_pair_of : Σ' ms : MS, ∀ (P : Program) (w : World) (K : PySem.W.Frag) (mg : Str → Option Value) (base : Heap) (ad : Nat → Addr) (b : Bool), Facts P w K mg base ad → Body P w K mg base (GG b K ad) 4 (ad 9) ["number"] "pair_of" st_pair_of ms :=
  ⟨_, fun P w K mg base ad b T cdv A fr s H E c => ss_cons (s_ret (v_ite (b_val (v_callB (c_isa c.cK (T.isa _ _ rfl)) (by rfl) T.z_isinstance (by decide +kernel) (l_cons (v_var (i := 0) rfl (by leaf_len) (by decide) (by decide)) (l_cons (v_ty (t := .tuple) (by rfl) T.z_tuple (by decide +kernel) (by decide) (by decide)) l_nil rfl) rfl) rfl (by decide) (by decide)) (fun _ => rfl)) (v_calls (FnA.call c ((ok_lowest T).mono (by decide))) (by rfl) T.g_lowest (l_cons (v_ix c.cK (v_var (i := 0) rfl (by leaf_len) (by decide) (by decide)) v_int rfl) (l_cons (v_ix c.cK (v_var (i := 0) rfl (by leaf_len) (by decide) (by decide)) v_int rfl) l_nil rfl) rfl) rfl (by decide)) (v_tup (l_cons (v_var (i := 0) rfl (by leaf_len) (by decide) (by decide)) (l_cons v_int l_nil rfl) rfl) (by decide)))) ss_nil⟩
def sem_pair_of : List D → M D := runFn 1 1 pk_pair_of.1
theorem ok_pair_of (T : Facts P w K mg base ad) : FnA P w K mg base (GG b K ad) 6 (ad 9) sem_pair_of := by
  obtain ⟨fd, F⟩ := T.f_pair_of
  exact fna_rule F sc_pair_of (F.binds fun _ _ _ _ _ _ us hl => match us, hl with | [_], _ => rfl) rfl (pk_pair_of.2 P w K mg base ad b T) rfl rfl (by decide)
def pk_LadderX_initX : Σ' ms : MS, ∀ (P : Program) (w : World) (K : PySem.W.Frag) (mg : Str → Option Value) (base : Heap) (ad : Nat → Addr) (b : Bool), Facts P w K mg base ad → BodyS P w K mg base (GG b K ad) 10 (ad 10) (ad 2010) (ad 3010) ["self", "pattern", "load", "__class__"] "__init__" "Ladder.__init__" st_LadderX_initX ms :=
  ⟨_, fun P w K mg base ad b T A fr s H E c => sa_cons (sa_st (s_expr (v_calls (FnA.call c ((ok_check_pattern T).mono (by decide))) (by rfl) T.g_check_pattern (l_cons (v_var (i := 1) rfl (by leaf_len) (by decide) (by decide)) l_nil rfl) rfl (by decide)) rfl)) (sa_cons (sa_st (s_expr (v_calls (FnA.call c ((ok_check_resistance T).mono (by decide))) (by rfl) T.g_check_resistance (l_cons (v_var (i := 2) rfl (by leaf_len) (by decide) (by decide)) l_nil rfl) rfl (by decide)) rfl)) (sa_cons (s_super (c0 := 5) c T.u_LadderX_initX rfl (let ⟨_, F⟩ := T.f_RunX_initX; ((fns_rule F sc_RunX_initX (F.binds fun _ _ _ _ _ _ us hl => match us, hl with | [_, _], _ => rfl) rfl (pk_RunX_initX.2 P w K mg base ad b T)).mono (by decide))) rfl rfl (by decide) T.z_super (by decide +kernel) (by decide +kernel) rfl (by decide +kernel) rfl (l_cons (v_calls (FnA.call c ((ok_pair_of T).mono (by decide))) (by rfl) T.g_pair_of (l_cons (v_var (i := 2) rfl (by leaf_len) (by decide) (by decide)) l_nil rfl) rfl (by decide)) l_nil rfl) rfl rfl (swap_free rfl) rfl) (sa_of (ss_cons (s_setF (i := 0) (T_fld_pattern T ⟨rfl, rfl, rfl, rfl, rfl⟩) rfl (by leaf_len) (by decide) (by decide) (v_var (i := 1) rfl (by leaf_len) (by decide) (by decide)) rfl) (ss_nil)))))⟩
def sem_LadderX_initX : List D → M D := mkFn 5 3 4 pk_LadderX_initX.1
theorem mk_Ladder (T : Facts P w K mg base ad) : ClA P w K mg base (GG b K ad) 12 5 sem_LadderX_initX := by
  exact cla_super T.u_LadderX_initX sc_LadderX_initX rfl (pk_LadderX_initX.2 P w K mg base ad b T) (fun _ _ _ _ _ us hl => match us, hl with | [_, _, _], _ => rfl) T.m_Ladder rfl rfl (by decide)
theorem mkk_CLadder_LadderX_initX_1_load_pattern (T : Facts P w K mg base ad) : ClK P w K mg base (GG b K ad) 12 5 0 ["load", "pattern"] (fun ds => sem_LadderX_initX (perm [1, 0] ds)) := by
  exact clk_super (ix := [1, 0]) T.u_LadderX_initX sc_LadderX_initX rfl (pk_LadderX_initX.2 P w K mg base ad b T) (fun _ _ _ _ _ us ws h1 h2 => match us, ws, h1, h2 with | [_], [_, _], _, _ => rfl) T.m_Ladder rfl rfl (by decide)
def pk_is_between : Σ' ms : MS, ∀ (P : Program) (w : World) (K : PySem.W.Frag) (mg : Str → Option Value) (base : Heap) (ad : Nat → Addr) (b : Bool), Facts P w K mg base ad → Body P w K mg base (GG b K ad) 2 (ad 11) ["value", "low", "high"] "is_between" st_is_between ms :=
  ⟨_, fun P w K mg base ad b T cdv A fr s H E c => ss_cons (s_ret (v_and (v_calls (FnA.call c ((ok_is_integer T).mono (by decide))) (by rfl) T.g_is_integer (l_cons (v_var (i := 0) rfl (by leaf_len) (by decide) (by decide)) l_nil rfl) rfl (by decide)) (v_one (v_chain' (o_le) (o_le) (v_var (i := 1) rfl (by leaf_len) (by decide) (by decide)) (v_var (i := 0) rfl (by leaf_len) (by decide) (by decide)) (v_var (i := 2) rfl (by leaf_len) (by decide) (by decide)) rfl)))) ss_nil⟩
def sem_is_between : List D → M D := runFn 3 3 pk_is_between.1
theorem ok_is_between (T : Facts P w K mg base ad) : FnA P w K mg base (GG b K ad) 4 (ad 11) sem_is_between := by
  obtain ⟨fd, F⟩ := T.f_is_between
  exact fna_rule F sc_is_between (F.binds fun _ _ _ _ _ _ us hl => match us, hl with | [_, _, _], _ => rfl) rfl (pk_is_between.2 P w K mg base ad b T) rfl rfl (by decide)
def pk_is_piece : Σ' ms : MS, ∀ (P : Program) (w : World) (K : PySem.W.Frag) (mg : Str → Option Value) (base : Heap) (ad : Nat → Addr) (b : Bool), Facts P w K mg base ad → Body P w K mg base (GG b K ad) 4 (ad 12) ["value"] "is_piece" st_is_piece ms :=
  ⟨_, fun P w K mg base ad b T cdv A fr s H E c => ss_cons (s_if (b_of (w_or (b_not (b_val (v_callB (c_isa c.cK (T.isa _ _ rfl)) (by rfl) T.z_isinstance (by decide +kernel) (l_cons (v_var (i := 0) rfl (by leaf_len) (by decide) (by decide)) (l_cons (v_ty (t := .tuple) (by rfl) T.z_tuple (by decide +kernel) (by decide) (by decide)) l_nil rfl) rfl) rfl (by decide) (by decide)) (fun _ => rfl))) (w_or (b_cmp (o_ne c.cK c.rm) (v_callB (c_len c.cK) (by rfl) T.z_len (by decide +kernel) (l_cons (v_var (i := 0) rfl (by leaf_len) (by decide) (by decide)) l_nil rfl) rfl (by decide) (by decide)) v_int rfl) (w_or1 (b_not (b_val (v_callB (c_isa c.cK (T.isa _ _ rfl)) (by rfl) T.z_isinstance (by decide +kernel) (l_cons (v_ix c.cK (v_var (i := 0) rfl (by leaf_len) (by decide) (by decide)) v_int rfl) (l_cons (v_ty (t := .str) (by rfl) T.z_str (by decide +kernel) (by decide) (by decide)) l_nil rfl) rfl) rfl (by decide) (by decide)) (fun _ => rfl))))))) (ss_cons (s_ret v_bool) ss_nil) (ss_nil)) (ss_cons (s_ret (v_and (v_cmp (o_in c.cK c.rm) (v_ix c.cK (v_var (i := 0) rfl (by leaf_len) (by decide) (by decide)) v_int rfl) (v_glob (by rfl) (T.c_WORDS _) (by decide)) rfl) (v_one (v_calls (FnA.call c ((ok_is_between T).mono (by decide))) (by rfl) T.g_is_between (l_cons (v_ix c.cK (v_var (i := 0) rfl (by leaf_len) (by decide) (by decide)) v_int rfl) (l_cons v_int (l_cons (v_glob (by rfl) (T.c_MOST_OHMS _) (by decide)) l_nil rfl) rfl) rfl) rfl (by decide))))) ss_nil)⟩
def sem_is_piece : List D → M D := runFn 1 1 pk_is_piece.1
theorem ok_is_piece (T : Facts P w K mg base ad) : FnA P w K mg base (GG b K ad) 6 (ad 12) sem_is_piece := by
  obtain ⟨fd, F⟩ := T.f_is_piece
  exact fna_rule F sc_is_piece (F.binds fun _ _ _ _ _ _ us hl => match us, hl with | [_], _ => rfl) rfl (pk_is_piece.2 P w K mg base ad b T) rfl rfl (by decide)
def pk_check_pieces : Σ' ms : MS, ∀ (P : Program) (w : World) (K : PySem.W.Frag) (mg : Str → Option Value) (base : Heap) (ad : Nat → Addr) (b : Bool), Facts P w K mg base ad → Body P w K mg base (GG b K ad) 6 (ad 13) ["pieces", "index", "piece"] "check_pieces" st_check_pieces ms :=
  ⟨_, fun P w K mg base ad b T cdv A fr s H E c => ss_cons (s_if (b_of (w_or (b_cmp (o_eq c.cK c.rm) (v_callB (c_len c.cK) (by rfl) T.z_len (by decide +kernel) (l_cons (v_var (i := 0) rfl (by leaf_len) (by decide) (by decide)) l_nil rfl) rfl (by decide) (by decide)) v_int rfl) (w_or1 (b_cmp (o_gt) (v_callB (c_len c.cK) (by rfl) T.z_len (by decide +kernel) (l_cons (v_var (i := 0) rfl (by leaf_len) (by decide) (by decide)) l_nil rfl) rfl (by decide) (by decide)) (v_glob (by rfl) (T.c_MOST_PIECES _) (by decide)) rfl)))) (ss_cons (s_raise (cx := 9) c (by decide) (L2N.takes_of rfl rfl rfl rfl) (T.er_InvalidPieces _) (by rfl) (by decide) v_none rfl) ss_never) (ss_nil)) (ss_cons (s_for c (i_enum c (by rfl) T.z_enumerate (v_var (i := 0) rfl (by leaf_len) (by decide) (by decide)) rfl) (g_tup c.cK c.calm (gs_cons (g_name (i := 1) c.nd rfl (by mem_news) (.inl rfl)) (gs_cons (g_name (i := 2) c.nd rfl (by mem_news) (.inl rfl)) gs_nil rfl) rfl) rfl rfl) (ss_cons (s_if (b_not (b_val (v_calls (FnA.call c ((ok_is_piece T).mono (by decide))) (by rfl) T.g_is_piece (l_cons (v_var (i := 2) rfl (by leaf_len) (by decide) (by decide)) l_nil rfl) rfl (by decide)) (fun _ => rfl))) (ss_cons (s_raise (cx := 9) c (by decide) (L2N.takes_of rfl rfl rfl rfl) (T.er_InvalidPieces _) (by rfl) (by decide) (v_var (i := 1) rfl (by leaf_len) (by decide) (by decide)) rfl) ss_never) (ss_nil)) (ss_nil)) rfl) (ss_nil))⟩
def sem_check_pieces : List D → M D := runFn 1 3 pk_check_pieces.1
theorem ok_check_pieces (T : Facts P w K mg base ad) : FnA P w K mg base (GG b K ad) 8 (ad 13) sem_check_pieces := by
  obtain ⟨fd, F⟩ := T.f_check_pieces
  exact fna_rule F sc_check_pieces (F.binds fun _ _ _ _ _ _ us hl => match us, hl with | [_], _ => rfl) rfl (pk_check_pieces.2 P w K mg base ad b T) rfl rfl (by decide)
def pk_joined : Σ' ms : MS, ∀ (P : Program) (w : World) (K : PySem.W.Frag) (mg : Str → Option Value) (base : Heap) (ad : Nat → Addr) (b : Bool), Facts P w K mg base ad → Body P w K mg base (GG b K ad) 0 (ad 14) ["front", "back", "a", "b", "c", "d", "e", "f", "g", "h"] "joined" st_joined ms :=
  ⟨_, fun P w K mg base ad b T cdv A fr s H E c => ss_cons (s_asg (v_var (i := 0) rfl (by leaf_len) (by decide) (by decide)) (g_tup c.cK c.calm (gs_cons (g_name (i := 2) c.nd rfl (by mem_news) (.inl rfl)) (gs_cons (g_name (i := 3) c.nd rfl (by mem_news) (.inl rfl)) (gs_cons (g_name (i := 4) c.nd rfl (by mem_news) (.inl rfl)) (gs_cons (g_name (i := 5) c.nd rfl (by mem_news) (.inl rfl)) gs_nil rfl) rfl) rfl) rfl) rfl rfl) rfl rfl rfl) (ss_cons (s_asg (v_var (i := 1) rfl (by leaf_len) (by decide) (by decide)) (g_tup c.cK c.calm (gs_cons (g_name (i := 6) c.nd rfl (by mem_news) (.inl rfl)) (gs_cons (g_name (i := 7) c.nd rfl (by mem_news) (.inl rfl)) (gs_cons (g_name (i := 8) c.nd rfl (by mem_news) (.inl rfl)) (gs_cons (g_name (i := 9) c.nd rfl (by mem_news) (.inl rfl)) gs_nil rfl) rfl) rfl) rfl) rfl rfl) rfl rfl rfl) (ss_cons (s_ret (v_tup (l_cons (v_bin (o_add c.cK) (v_bin (o_mul c.cK) (v_var (i := 2) rfl (by leaf_len) (by decide) (by decide)) (v_var (i := 6) rfl (by leaf_len) (by decide) (by decide))) (v_bin (o_mul c.cK) (v_var (i := 3) rfl (by leaf_len) (by decide) (by decide)) (v_var (i := 8) rfl (by leaf_len) (by decide) (by decide)))) (l_cons (v_bin (o_add c.cK) (v_bin (o_mul c.cK) (v_var (i := 2) rfl (by leaf_len) (by decide) (by decide)) (v_var (i := 7) rfl (by leaf_len) (by decide) (by decide))) (v_bin (o_mul c.cK) (v_var (i := 3) rfl (by leaf_len) (by decide) (by decide)) (v_var (i := 9) rfl (by leaf_len) (by decide) (by decide)))) (l_cons (v_bin (o_add c.cK) (v_bin (o_mul c.cK) (v_var (i := 4) rfl (by leaf_len) (by decide) (by decide)) (v_var (i := 6) rfl (by leaf_len) (by decide) (by decide))) (v_bin (o_mul c.cK) (v_var (i := 5) rfl (by leaf_len) (by decide) (by decide)) (v_var (i := 8) rfl (by leaf_len) (by decide) (by decide)))) (l_cons (v_bin (o_add c.cK) (v_bin (o_mul c.cK) (v_var (i := 4) rfl (by leaf_len) (by decide) (by decide)) (v_var (i := 7) rfl (by leaf_len) (by decide) (by decide))) (v_bin (o_mul c.cK) (v_var (i := 5) rfl (by leaf_len) (by decide) (by decide)) (v_var (i := 9) rfl (by leaf_len) (by decide) (by decide)))) l_nil rfl) rfl) rfl) rfl) (by decide))) ss_nil))⟩
def sem_joined : List D → M D := runFn 2 10 pk_joined.1
theorem ok_joined (T : Facts P w K mg base ad) : FnA P w K mg base (GG b K ad) 2 (ad 14) sem_joined := by
  obtain ⟨fd, F⟩ := T.f_joined
  exact fna_rule F sc_joined (F.binds fun _ _ _ _ _ _ us hl => match us, hl with | [_, _], _ => rfl) rfl (pk_joined.2 P w K mg base ad b T) rfl rfl (by decide)
def pk_chain_of : Σ' ms : MS, ∀ (P : Program) (w : World) (K : PySem.W.Frag) (mg : Str → Option Value) (base : Heap) (ad : Nat → Addr) (b : Bool), Facts P w K mg base ad → Body P w K mg base (GG b K ad) 2 (ad 15) ["pieces", "found", "times", "word", "ohms"] "chain_of" st_chain_of ms :=
  ⟨_, fun P w K mg base ad b T cdv A fr s H E c => ss_cons (s_par (i := 1) (j := 2) c rfl rfl (by decide) rfl rfl (l_cons (v_glob (by rfl) (T.c_NOTHING _) (by decide)) (l_cons v_int l_nil rfl) rfl) rfl) (ss_cons (s_for c (i_seq c (v_var (i := 0) rfl (by leaf_len) (by decide) (by decide))) (g_tup c.cK c.calm (gs_cons (g_name (i := 3) c.nd rfl (by mem_news) (.inl rfl)) (gs_cons (g_name (i := 4) c.nd rfl (by mem_news) (.inl rfl)) gs_nil rfl) rfl) rfl rfl) (ss_cons (s_if (b_cmp (o_eq c.cK c.rm) (v_var (i := 3) rfl (by leaf_len) (by decide) (by decide)) v_str rfl) (ss_cons (s_set (i := 1) c rfl (by mem_news) (v_calls (FnA.call c ((ok_joined T).mono (by decide))) (by rfl) T.g_joined (l_cons (v_var (i := 1) rfl (by leaf_len) (by decide) (by decide)) (l_cons (v_tup (l_cons v_int (l_cons (v_var (i := 4) rfl (by leaf_len) (by decide) (by decide)) (l_cons v_int (l_cons v_int l_nil rfl) rfl) rfl) rfl) (by decide)) l_nil rfl) rfl) rfl (by decide)) rfl (.inl rfl)) (ss_nil)) (ss_cons (s_par (i := 1) (j := 2) c rfl rfl (by decide) rfl rfl (l_cons (v_calls (FnA.call c ((ok_joined T).mono (by decide))) (by rfl) T.g_joined (l_cons (v_var (i := 1) rfl (by leaf_len) (by decide) (by decide)) (l_cons (v_tup (l_cons (v_var (i := 4) rfl (by leaf_len) (by decide) (by decide)) (l_cons v_int (l_cons v_int (l_cons (v_var (i := 4) rfl (by leaf_len) (by decide) (by decide)) l_nil rfl) rfl) rfl) rfl) (by decide)) l_nil rfl) rfl) rfl (by decide)) (l_cons (v_bin (o_mul c.cK) (v_var (i := 2) rfl (by leaf_len) (by decide) (by decide)) (v_var (i := 4) rfl (by leaf_len) (by decide) (by decide))) l_nil rfl) rfl) rfl) (ss_nil))) (ss_nil)) rfl) (ss_cons (s_ret (v_tup (l_cons (v_var (i := 1) rfl (by leaf_len) (by decide) (by decide)) (l_cons (v_var (i := 2) rfl (by leaf_len) (by decide) (by decide)) l_nil rfl) rfl) (by decide))) ss_nil))⟩
def sem_chain_of : List D → M D := runFn 1 5 pk_chain_of.1
theorem ok_chain_of (T : Facts P w K mg base ad) : FnA P w K mg base (GG b K ad) 4 (ad 15) sem_chain_of := by
  obtain ⟨fd, F⟩ := T.f_chain_of
  exact fna_rule F sc_chain_of (F.binds fun _ _ _ _ _ _ us hl => match us, hl with | [_], _ => rfl) rfl (pk_chain_of.2 P w K mg base ad b T) rfl rfl (by decide)
def pk_PatternX_initX : Σ' ms : MS, ∀ (P : Program) (w : World) (K : PySem.W.Frag) (mg : Str → Option Value) (base : Heap) (ad : Nat → Addr) (b : Bool), Facts P w K mg base ad → Body P w K mg base (GG b K ad) 8 (ad 16) ["self", "pieces"] "Pattern.__init__" st_PatternX_initX ms :=
  ⟨_, fun P w K mg base ad b T cdv A fr s H E c => ss_cons (s_if (b_of (w_and (b_cmp (o_eq c.cK c.rm) (v_callB (c_len c.cK) (by rfl) T.z_len (by decide +kernel) (l_cons (v_var (i := 1) rfl (by leaf_len) (by decide) (by decide)) l_nil rfl) rfl (by decide) (by decide)) v_int rfl) (w_and1 (b_val (v_callB (c_isa c.cK (T.isa _ _ rfl)) (by rfl) T.z_isinstance (by decide +kernel) (l_cons (v_ix c.cK (v_var (i := 1) rfl (by leaf_len) (by decide) (by decide)) v_int rfl) (l_cons (v_glob (by rfl) (glob_cls (c := 0) T.k_Row) (by decide)) l_nil rfl) rfl) rfl (by decide) (by decide)) (fun _ => rfl))))) (ss_cons (s_setF (i := 0) (T_fld_row T ⟨rfl, rfl, rfl, rfl, rfl⟩) rfl (by leaf_len) (by decide) (by decide) (v_attr c (T_attr_told_0 T ⟨rfl, rfl, rfl, rfl, rfl⟩ (by decide)) (v_ix c.cK (v_var (i := 1) rfl (by leaf_len) (by decide) (by decide)) v_int rfl) rfl) rfl) (ss_nil)) (ss_cons (s_expr (v_calls (FnA.call c ((ok_check_pieces T).mono (by decide))) (by rfl) T.g_check_pieces (l_cons (v_var (i := 1) rfl (by leaf_len) (by decide) (by decide)) l_nil rfl) rfl (by decide)) rfl) (ss_cons (s_setF (i := 0) (T_fld_row T ⟨rfl, rfl, rfl, rfl, rfl⟩) rfl (by leaf_len) (by decide) (by decide) (v_callTy (c_tuple c.cK) (by rfl) T.z_tuple (by decide +kernel) (l_cons (v_var (i := 1) rfl (by leaf_len) (by decide) (by decide)) l_nil rfl) rfl (by decide) (by decide)) rfl) (ss_nil)))) (ss_cons (s_asg (v_calls (FnA.call c ((ok_chain_of T).mono (by decide))) (by rfl) T.g_chain_of (l_cons (v_ownF (i := 0) (T_fld_row T ⟨rfl, rfl, rfl, rfl, rfl⟩) rfl (by leaf_len) (by decide) (by decide)) l_nil rfl) rfl (by decide)) (g_tup c.cK c.calm (gs_cons (g_fld (i := 0) (T_fld_chain T ⟨rfl, rfl, rfl, rfl, rfl⟩) rfl (by leaf_len) (by decide) (by decide)) (gs_cons (g_fld (i := 0) (T_fld_scale T ⟨rfl, rfl, rfl, rfl, rfl⟩) rfl (by leaf_len) (by decide) (by decide)) gs_nil rfl) rfl) rfl rfl) rfl rfl rfl) (ss_nil))⟩
def sem_PatternX_initX : List D → M D := mkStar 1 1 2 pk_PatternX_initX.1
theorem mk_Pattern (T : Facts P w K mg base ad) : ClA P w K mg base (GG b K ad) 10 1 sem_PatternX_initX := by
  obtain ⟨fd, F⟩ := T.f_PatternX_initX
  exact cla_star (ps := ["self"]) (pv := "pieces") F sc_PatternX_initX rfl (pk_PatternX_initX.2 P w K mg base ad b T) (fun _ _ _ _ _ _ => StX.bind_star1 (B := fun l => bindArgs _ ⟨l, []⟩) (fun _ => rfl) (fun _ _ _ => rfl)) T.m_Pattern rfl rfl (by decide) (by decide)
def pk_check_count : Σ' ms : MS, ∀ (P : Program) (w : World) (K : PySem.W.Frag) (mg : Str → Option Value) (base : Heap) (ad : Nat → Addr) (b : Bool), Facts P w K mg base ad → Body P w K mg base (GG b K ad) 4 (ad 17) ["value"] "check_count" st_check_count ms :=
  ⟨_, fun P w K mg base ad b T cdv A fr s H E c => ss_cons (s_if (b_not (b_val (v_calls (FnA.call c ((ok_is_between T).mono (by decide))) (by rfl) T.g_is_between (l_cons (v_var (i := 0) rfl (by leaf_len) (by decide) (by decide)) (l_cons v_int (l_cons (v_glob (by rfl) (T.c_MOST_SECTIONS _) (by decide)) l_nil rfl) rfl) rfl) rfl (by decide)) (fun _ => rfl))) (ss_cons (s_raise (cx := 3) c (by decide) (L2N.takes_of rfl rfl rfl rfl) (T.er_InvalidCount _) (by rfl) (by decide) (v_var (i := 0) rfl (by leaf_len) (by decide) (by decide)) rfl) ss_never) (ss_nil)) (ss_nil)⟩
def sem_check_count : List D → M D := runFn 1 1 pk_check_count.1
theorem ok_check_count (T : Facts P w K mg base ad) : FnA P w K mg base (GG b K ad) 6 (ad 17) sem_check_count := by
  obtain ⟨fd, F⟩ := T.f_check_count
  exact fna_rule F sc_check_count (F.binds fun _ _ _ _ _ _ us hl => match us, hl with | [_], _ => rfl) rfl (pk_check_count.2 P w K mg base ad b T) rfl rfl (by decide)
def pk_led : Σ' ms : MS, ∀ (P : Program) (w : World) (K : PySem.W.Frag) (mg : Str → Option Value) (base : Heap) (ad : Nat → Addr) (b : Bool), Facts P w K mg base ad → Body P w K mg base (GG b K ad) 0 (ad 18) ["chain", "pair", "a", "b", "c", "d"] "led" st_led ms :=
  ⟨_, fun P w K mg base ad b T cdv A fr s H E c => ss_cons (s_asg (v_var (i := 0) rfl (by leaf_len) (by decide) (by decide)) (g_tup c.cK c.calm (gs_cons (g_name (i := 2) c.nd rfl (by mem_news) (.inl rfl)) (gs_cons (g_name (i := 3) c.nd rfl (by mem_news) (.inl rfl)) (gs_cons (g_name (i := 4) c.nd rfl (by mem_news) (.inl rfl)) (gs_cons (g_name (i := 5) c.nd rfl (by mem_news) (.inl rfl)) gs_nil rfl) rfl) rfl) rfl) rfl rfl) rfl rfl rfl) (ss_cons (s_ret (v_tup (l_cons (v_bin (o_add c.cK) (v_bin (o_mul c.cK) (v_var (i := 2) rfl (by leaf_len) (by decide) (by decide)) (v_ix c.cK (v_var (i := 1) rfl (by leaf_len) (by decide) (by decide)) v_int rfl)) (v_bin (o_mul c.cK) (v_var (i := 3) rfl (by leaf_len) (by decide) (by decide)) (v_ix c.cK (v_var (i := 1) rfl (by leaf_len) (by decide) (by decide)) v_int rfl))) (l_cons (v_bin (o_add c.cK) (v_bin (o_mul c.cK) (v_var (i := 4) rfl (by leaf_len) (by decide) (by decide)) (v_ix c.cK (v_var (i := 1) rfl (by leaf_len) (by decide) (by decide)) v_int rfl)) (v_bin (o_mul c.cK) (v_var (i := 5) rfl (by leaf_len) (by decide) (by decide)) (v_ix c.cK (v_var (i := 1) rfl (by leaf_len) (by decide) (by decide)) v_int rfl))) l_nil rfl) rfl) (by decide))) ss_nil)⟩
def sem_led : List D → M D := runFn 2 6 pk_led.1
theorem ok_led (T : Facts P w K mg base ad) : FnA P w K mg base (GG b K ad) 2 (ad 18) sem_led := by
  obtain ⟨fd, F⟩ := T.f_led
  exact fna_rule F sc_led (F.binds fun _ _ _ _ _ _ us hl => match us, hl with | [_, _], _ => rfl) rfl (pk_led.2 P w K mg base ad b T) rfl rfl (by decide)
def pk_shown : Σ' ms : MS, ∀ (P : Program) (w : World) (K : PySem.W.Frag) (mg : Str → Option Value) (base : Heap) (ad : Nat → Addr) (b : Bool), Facts P w K mg base ad → Body P w K mg base (GG b K ad) 4 (ad 19) ["chain", "pair", "top", "bottom"] "shown" st_shown ms :=
  ⟨_, fun P w K mg base ad b T cdv A fr s H E c => ss_cons (s_asg (v_calls (FnA.call c ((ok_led T).mono (by decide))) (by rfl) T.g_led (l_cons (v_var (i := 0) rfl (by leaf_len) (by decide) (by decide)) (l_cons (v_var (i := 1) rfl (by leaf_len) (by decide) (by decide)) l_nil rfl) rfl) rfl (by decide)) (g_tup c.cK c.calm (gs_cons (g_name (i := 2) c.nd rfl (by mem_news) (.inl rfl)) (gs_cons (g_name (i := 3) c.nd rfl (by mem_news) (.inl rfl)) gs_nil rfl) rfl) rfl rfl) rfl rfl rfl) (ss_cons (s_ret (v_calls (FnA.call c ((ok_lowest T).mono (by decide))) (by rfl) T.g_lowest (l_cons (v_var (i := 2) rfl (by leaf_len) (by decide) (by decide)) (l_cons (v_var (i := 3) rfl (by leaf_len) (by decide) (by decide)) l_nil rfl) rfl) rfl (by decide))) ss_nil)⟩
def sem_shown : List D → M D := runFn 2 4 pk_shown.1
theorem ok_shown (T : Facts P w K mg base ad) : FnA P w K mg base (GG b K ad) 6 (ad 19) sem_shown := by
  obtain ⟨fd, F⟩ := T.f_shown
  exact fna_rule F sc_shown (F.binds fun _ _ _ _ _ _ us hl => match us, hl with | [_, _], _ => rfl) rfl (pk_shown.2 P w K mg base ad b T) rfl rfl (by decide)
def pk_slim : Σ' ms : MS, ∀ (P : Program) (w : World) (K : PySem.W.Frag) (mg : Str → Option Value) (base : Heap) (ad : Nat → Addr) (b : Bool), Facts P w K mg base ad → Body P w K mg base (GG b K ad) 2 (ad 20) ["chain", "by", "number"] "slim" st_slim ms :=
  ⟨_, fun P w K mg base ad b T cdv A fr s H E c => ss_cons (s_set (i := 1) c rfl (by mem_news) (v_calls (FnA.call c ((ok_common T).mono (by decide))) (by rfl) T.g_common (l_cons (v_calls (FnA.call c ((ok_common T).mono (by decide))) (by rfl) T.g_common (l_cons (v_ix c.cK (v_var (i := 0) rfl (by leaf_len) (by decide) (by decide)) v_int rfl) (l_cons (v_ix c.cK (v_var (i := 0) rfl (by leaf_len) (by decide) (by decide)) v_int rfl) l_nil rfl) rfl) rfl (by decide)) (l_cons (v_calls (FnA.call c ((ok_common T).mono (by decide))) (by rfl) T.g_common (l_cons (v_ix c.cK (v_var (i := 0) rfl (by leaf_len) (by decide) (by decide)) v_int rfl) (l_cons (v_ix c.cK (v_var (i := 0) rfl (by leaf_len) (by decide) (by decide)) v_int rfl) l_nil rfl) rfl) rfl (by decide)) l_nil rfl) rfl) rfl (by decide)) rfl (.inl rfl)) (ss_cons (s_ret (v_callTy (c_tuple c.cK) (by rfl) T.z_tuple (by decide +kernel) (l_cons (v_lc c (own := [("number", 2)]) (i_seq c (v_var (i := 0) rfl (by leaf_len) (by decide) (by decide))) (blkOk_by (N := ["chain", "by", "number"]) (sc := defScope st_slim) (by decide +kernel)) (fun s H C cl fp => blkP c fun c => (p_name (i := 2) c.nd rfl (by mem_news) (.inr rfl))) (fun s H C cl fp => blkT c fun c => t_nil) (fun s H C cl fp => blkV c fun c => (v_bin (o_fdiv) (v_var (i := 2) rfl (by leaf_len) (by decide) (by decide)) (v_var (i := 1) rfl (by leaf_len) (by decide) (by decide)))) rfl (by decide)) l_nil rfl) rfl (by decide) (by decide))) ss_nil)⟩
def sem_slim : List D → M D := runFn 1 3 pk_slim.1
theorem ok_slim (T : Facts P w K mg base ad) : FnA P w K mg base (GG b K ad) 4 (ad 20) sem_slim := by
  obtain ⟨fd, F⟩ := T.f_slim
  exact fna_rule F sc_slim (F.binds fun _ _ _ _ _ _ us hl => match us, hl with | [_], _ => rfl) rfl (pk_slim.2 P w K mg base ad b T) rfl rfl (by decide)
def pk_repeated : Σ' ms : MS, ∀ (P : Program) (w : World) (K : PySem.W.Frag) (mg : Str → Option Value) (base : Heap) (ad : Nat → Addr) (b : Bool), Facts P w K mg base ad → Body P w K mg base (GG b K ad) 4 (ad 21) ["chain", "count", "found", "power"] "repeated" st_repeated ms :=
  ⟨_, fun P w K mg base ad b T cdv A fr s H E c => ss_cons (s_par (i := 2) (j := 3) c rfl rfl (by decide) rfl rfl (l_cons (v_glob (by rfl) (T.c_NOTHING _) (by decide)) (l_cons (v_var (i := 0) rfl (by leaf_len) (by decide) (by decide)) l_nil rfl) rfl) rfl) (ss_cons (s_while c (b_cmp (o_gt) (v_var (i := 1) rfl (by leaf_len) (by decide) (by decide)) v_int rfl) (ss_cons (s_if (b_cmp (o_eq c.cK c.rm) (v_bin (o_mod) (v_var (i := 1) rfl (by leaf_len) (by decide) (by decide)) v_int) v_int rfl) (ss_cons (s_set (i := 2) c rfl (by mem_news) (v_calls (FnA.call c ((ok_slim T).mono (by decide))) (by rfl) T.g_slim (l_cons (v_calls (FnA.call c ((ok_joined T).mono (by decide))) (by rfl) T.g_joined (l_cons (v_var (i := 2) rfl (by leaf_len) (by decide) (by decide)) (l_cons (v_var (i := 3) rfl (by leaf_len) (by decide) (by decide)) l_nil rfl) rfl) rfl (by decide)) l_nil rfl) rfl (by decide)) rfl (.inl rfl)) (ss_nil)) (ss_nil)) (ss_cons (s_set (i := 3) c rfl (by mem_news) (v_calls (FnA.call c ((ok_slim T).mono (by decide))) (by rfl) T.g_slim (l_cons (v_calls (FnA.call c ((ok_joined T).mono (by decide))) (by rfl) T.g_joined (l_cons (v_var (i := 3) rfl (by leaf_len) (by decide) (by decide)) (l_cons (v_var (i := 3) rfl (by leaf_len) (by decide) (by decide)) l_nil rfl) rfl) rfl (by decide)) l_nil rfl) rfl (by decide)) rfl (.inl rfl)) (ss_cons (s_set (i := 1) c rfl (by mem_news) (v_bin (o_fdiv) (v_var (i := 1) rfl (by leaf_len) (by decide) (by decide)) v_int) rfl (.inl rfl)) (ss_nil))))) (ss_cons (s_ret (v_var (i := 2) rfl (by leaf_len) (by decide) (by decide))) ss_nil))⟩
def sem_repeated : List D → M D := runFn 2 4 pk_repeated.1
theorem ok_repeated (T : Facts P w K mg base ad) : FnA P w K mg base (GG b K ad) 6 (ad 21) sem_repeated := by
  obtain ⟨fd, F⟩ := T.f_repeated
  exact fna_rule F sc_repeated (F.binds fun _ _ _ _ _ _ us hl => match us, hl with | [_, _], _ => rfl) rfl (pk_repeated.2 P w K mg base ad b T) rfl rfl (by decide)
def pk_Ladder_value_at : Σ' ms : MS, ∀ (P : Program) (w : World) (K : PySem.W.Frag) (mg : Str → Option Value) (base : Heap) (ad : Nat → Addr) (b : Bool), Facts P w K mg base ad → Body P w K mg base (GG b K ad) 6 (ad 22) ["self", "number"] "Ladder.value_at" st_Ladder_value_at ms :=
  ⟨_, fun P w K mg base ad b T cdv A fr s H E c => ss_cons (s_ret (v_calls (FnA.call c ((ok_shown T).mono (by decide))) (by rfl) T.g_shown (l_cons (v_calls (FnA.call c ((ok_repeated T).mono (by decide))) (by rfl) T.g_repeated (l_cons (v_attr c (T_attr_chain_1 T ⟨rfl, rfl, rfl, rfl, rfl⟩ (by decide)) (v_attr c (T_attr_pattern_5 T ⟨rfl, rfl, rfl, rfl, rfl⟩ (by decide)) (v_var (i := 0) rfl (by leaf_len) (by decide) (by decide)) rfl) rfl) (l_cons (v_var (i := 1) rfl (by leaf_len) (by decide) (by decide)) l_nil rfl) rfl) rfl (by decide)) (l_cons (v_attr c (T_attr_first_5 T ⟨rfl, rfl, rfl, rfl, rfl⟩ (by decide)) (v_var (i := 0) rfl (by leaf_len) (by decide) (by decide)) rfl) l_nil rfl) rfl) rfl (by decide))) ss_nil⟩
def sem_Ladder_value_at : List D → M D := runFn 2 2 pk_Ladder_value_at.1
theorem ok_Ladder_value_at (T : Facts P w K mg base ad) : FnA P w K mg base (GG b K ad) 8 (ad 22) sem_Ladder_value_at := by
  obtain ⟨fd, F⟩ := T.f_Ladder_value_at
  exact fna_rule F sc_Ladder_value_at (F.binds fun _ _ _ _ _ _ us hl => match us, hl with | [_, _], _ => rfl) rfl (pk_Ladder_value_at.2 P w K mg base ad b T) rfl rfl (by decide)
theorem T_meth_value_at_5 (T : Facts P w K mg base ad) {X : Cx} (h : Same X P w K mg base) {k : Nat} (hk : 8 ≤ k) : MethT X (GG b K ad) k "value_at" (tab [(5, sem_Ladder_value_at)]) := by
  obtain ⟨rfl, rfl, rfl, rfl, rfl⟩ := h
  exact ⟨(tab_cons ⟨_, T.cl_Ladder, T.t_Ladder_Ladder_value_at, (ok_Ladder_value_at T).mono (Nat.le_trans (by decide) hk), (show ("value_at" : Str) ∉ flds 5 by decide +kernel)⟩ tab_nil)⟩
def pk_RunX_callX : Σ' ms : MS, ∀ (P : Program) (w : World) (K : PySem.W.Frag) (mg : Str → Option Value) (base : Heap) (ad : Nat → Addr) (b : Bool), Facts P w K mg base ad → Body P w K mg base (GG b K ad) 8 (ad 23) ["self", "count"] "Run.__call__" st_RunX_callX ms :=
  ⟨_, fun P w K mg base ad b T cdv A fr s H E c => ss_cons (s_expr (v_calls (FnA.call c ((ok_check_count T).mono (by decide))) (by rfl) T.g_check_count (l_cons (v_var (i := 1) rfl (by leaf_len) (by decide) (by decide)) l_nil rfl) rfl (by decide)) rfl) (ss_cons (s_ret (v_meth c (T_meth_value_at_5 T ⟨rfl, rfl, rfl, rfl, rfl⟩ (by decide)) (v_var (i := 0) rfl (by leaf_len) (by decide) (by decide)) (l_cons (v_var (i := 1) rfl (by leaf_len) (by decide) (by decide)) l_nil rfl) rfl rfl (by decide) rfl)) ss_nil)⟩
def sem_RunX_callX : List D → M D := runFn 2 2 pk_RunX_callX.1
theorem ok_RunX_callX (T : Facts P w K mg base ad) : FnA P w K mg base (GG b K ad) 10 (ad 23) sem_RunX_callX := by
  obtain ⟨fd, F⟩ := T.f_RunX_callX
  exact fna_rule F sc_RunX_callX (F.binds fun _ _ _ _ _ _ us hl => match us, hl with | [_, _], _ => rfl) rfl (pk_RunX_callX.2 P w K mg base ad b T) rfl rfl (by decide)
theorem okk_RunX_callX_1_count (T : Facts P w K mg base ad) : FnK P w K mg base (GG b K ad) 10 (ad 23) 1 ["count"] (fun ds => sem_RunX_callX (perm [0, 1] ds)) := by
  obtain ⟨fd, F⟩ := T.f_RunX_callX
  exact fnk_rule (ix := [0, 1]) F sc_RunX_callX (fun _ _ _ _ _ _ us ws h1 h2 => match us, ws, h1, h2 with | [_], [_], _, _ => rfl) rfl (pk_RunX_callX.2 P w K mg base ad b T) rfl rfl (by decide)
theorem T_call_5 (T : Facts P w K mg base ad) {X : Cx} (h : Same X P w K mg base) {k : Nat} (hk : 10 ≤ k) : CallT X (GG b K ad) k (tab [(5, sem_RunX_callX)]) := by
  obtain ⟨rfl, rfl, rfl, rfl, rfl⟩ := h
  exact ⟨(tab_cons ⟨_, T.o_Ladder_RunX_callX, (ok_RunX_callX T).mono (Nat.le_trans (by decide) hk)⟩ tab_nil)⟩
theorem T_callk_5_count0 (T : Facts P w K mg base ad) {X : Cx} (h : Same X P w K mg base) {k : Nat} (hk : 10 ≤ k) : CallKT X (GG b K ad) k ["count"] (tab [(5, fun ds => sem_RunX_callX (perm [0, 1] ds))]) := by
  obtain ⟨rfl, rfl, rfl, rfl, rfl⟩ := h
  exact ⟨(tab_cons ⟨_, T.o_Ladder_RunX_callX, (okk_RunX_callX_1_count T).mono (Nat.le_trans (by decide) hk)⟩ tab_nil)⟩
def pkh__law_classes_NotAPattern : Σ' ms : Addr → Addr → MS, ∀ (P : Program) (w : World) (K : PySem.W.Frag) (mg : Str → Option Value) (base : Heap) (ad : Nat → Addr), Facts P w K mg base ad → BodyH P w K mg base (GG true K ad) 0 (ad 43) (ad 1100) ["_law_e", "_law_found", "_law_above", "_law_at"] "_law_classes" st__law_classes ms :=
  ⟨_, fun P w K mg base ad T cdv A fr s H a dd o c => ss_cons (s_setH (i := 1) c rfl (by mem_news) (v_lst (l_cons (v_callB (c_isaH c (T.xh_NotAPattern _)) (by rfl) T.z_isinstance (by decide +kernel) (l_cons (v_var (i := 0) rfl (by leaf_len) (by decide) (by decide)) (l_cons (v_glob (by rfl) (glob_cls (c := 100) T.kx_NotAPattern) (by decide)) l_nil rfl) rfl) rfl (by decide) (by decide)) (l_cons (v_callB (c_isaH c (T.xh_NotAPattern _)) (by rfl) T.z_isinstance (by decide +kernel) (l_cons (v_var (i := 0) rfl (by leaf_len) (by decide) (by decide)) (l_cons (v_glob (by rfl) (glob_cls (c := 101) T.kx_NotARun) (by decide)) l_nil rfl) rfl) rfl (by decide) (by decide)) l_nil rfl) rfl) (by decide)) rfl (.inl rfl)) (ss_cons (s_setH (i := 1) c rfl (by mem_news) (v_bin (o_add c.cK) (v_var (i := 1) rfl (by leaf_len) (by decide) (by decide)) (v_lst (l_cons (v_callB (c_isaH c (T.xh_NotAPattern _)) (by rfl) T.z_isinstance (by decide +kernel) (l_cons (v_var (i := 0) rfl (by leaf_len) (by decide) (by decide)) (l_cons (v_glob (by rfl) (glob_cls (c := 102) T.kx_InvalidResistance) (by decide)) l_nil rfl) rfl) rfl (by decide) (by decide)) (l_cons (v_callB (c_isaH c (T.xh_NotAPattern _)) (by rfl) T.z_isinstance (by decide +kernel) (l_cons (v_var (i := 0) rfl (by leaf_len) (by decide) (by decide)) (l_cons (v_glob (by rfl) (glob_cls (c := 103) T.kx_InvalidCount) (by decide)) l_nil rfl) rfl) rfl (by decide) (by decide)) l_nil rfl) rfl) (by decide))) rfl (.inl rfl)) (ss_cons (s_setH (i := 1) c rfl (by mem_news) (v_bin (o_add c.cK) (v_var (i := 1) rfl (by leaf_len) (by decide) (by decide)) (v_lst (l_cons (v_callB (c_isaH c (T.xh_NotAPattern _)) (by rfl) T.z_isinstance (by decide +kernel) (l_cons (v_var (i := 0) rfl (by leaf_len) (by decide) (by decide)) (l_cons (v_glob (by rfl) (glob_cls (c := 104) T.kx_InvalidNumber) (by decide)) l_nil rfl) rfl) rfl (by decide) (by decide)) (l_cons (v_callB (c_isaH c (T.xh_NotAPattern _)) (by rfl) T.z_isinstance (by decide +kernel) (l_cons (v_var (i := 0) rfl (by leaf_len) (by decide) (by decide)) (l_cons (v_glob (by rfl) (glob_cls (c := 105) T.kx_InvalidText) (by decide)) l_nil rfl) rfl) rfl (by decide) (by decide)) (l_cons (v_callB (c_isaH c (T.xh_NotAPattern _)) (by rfl) T.z_isinstance (by decide +kernel) (l_cons (v_var (i := 0) rfl (by leaf_len) (by decide) (by decide)) (l_cons (v_glob (by rfl) (glob_cls (c := 106) T.kx_InvalidName) (by decide)) l_nil rfl) rfl) rfl (by decide) (by decide)) l_nil rfl) rfl) rfl) (by decide))) rfl (.inl rfl)) (ss_cons (s_setH (i := 1) c rfl (by mem_news) (v_bin (o_add c.cK) (v_var (i := 1) rfl (by leaf_len) (by decide) (by decide)) (v_lst (l_cons (v_callB (c_isaH c (T.xh_NotAPattern _)) (by rfl) T.z_isinstance (by decide +kernel) (l_cons (v_var (i := 0) rfl (by leaf_len) (by decide) (by decide)) (l_cons (v_glob (by rfl) (glob_cls (c := 107) T.kx_InvalidClaim) (by decide)) l_nil rfl) rfl) rfl (by decide) (by decide)) (l_cons (v_callB (c_isaH c (T.xh_NotAPattern _)) (by rfl) T.z_isinstance (by decide +kernel) (l_cons (v_var (i := 0) rfl (by leaf_len) (by decide) (by decide)) (l_cons (v_glob (by rfl) (glob_cls (c := 108) T.kx_InvalidIndex) (by decide)) l_nil rfl) rfl) rfl (by decide) (by decide)) l_nil rfl) rfl) (by decide))) rfl (.inl rfl)) (ss_cons (s_setH (i := 1) c rfl (by mem_news) (v_bin (o_add c.cK) (v_var (i := 1) rfl (by leaf_len) (by decide) (by decide)) (v_lst (l_cons (v_callB (c_isaH c (T.xh_NotAPattern _)) (by rfl) T.z_isinstance (by decide +kernel) (l_cons (v_var (i := 0) rfl (by leaf_len) (by decide) (by decide)) (l_cons (v_glob (by rfl) (glob_cls (c := 109) T.kx_InvalidPieces) (by decide)) l_nil rfl) rfl) rfl (by decide) (by decide)) (l_cons (v_callB (c_isaH c (T.xh_NotAPattern _)) (by rfl) T.z_isinstance (by decide +kernel) (l_cons (v_var (i := 0) rfl (by leaf_len) (by decide) (by decide)) (l_cons (v_glob (by rfl) (glob_cls (c := 110) T.kx_InvalidKinds) (by decide)) l_nil rfl) rfl) rfl (by decide) (by decide)) (l_cons (v_callB (c_isaH c (T.xh_NotAPattern _)) (by rfl) T.z_isinstance (by decide +kernel) (l_cons (v_var (i := 0) rfl (by leaf_len) (by decide) (by decide)) (l_cons (v_glob (by rfl) (glob_cls (c := 111) T.kx_InvalidStretches) (by decide)) l_nil rfl) rfl) rfl (by decide) (by decide)) l_nil rfl) rfl) rfl) (by decide))) rfl (.inl rfl)) (ss_cons (s_setH (i := 1) c rfl (by mem_news) (v_bin (o_add c.cK) (v_var (i := 1) rfl (by leaf_len) (by decide) (by decide)) (v_lst (l_cons (v_callB (c_isaH c (T.xh_NotAPattern _)) (by rfl) T.z_isinstance (by decide +kernel) (l_cons (v_var (i := 0) rfl (by leaf_len) (by decide) (by decide)) (l_cons (v_glob (by rfl) (glob_cls (c := 112) T.kx_InvalidDeeds) (by decide)) l_nil rfl) rfl) rfl (by decide) (by decide)) (l_cons (v_callB (c_isaH c (T.xh_NotAPattern _)) (by rfl) T.z_isinstance (by decide +kernel) (l_cons (v_var (i := 0) rfl (by leaf_len) (by decide) (by decide)) (l_cons (v_glob (by rfl) (glob_cls (c := 113) T.kx_UnknownName) (by decide)) l_nil rfl) rfl) rfl (by decide) (by decide)) (l_cons (v_callB (c_isaH c (T.xh_NotAPattern _)) (by rfl) T.z_isinstance (by decide +kernel) (l_cons (v_var (i := 0) rfl (by leaf_len) (by decide) (by decide)) (l_cons (v_glob (by rfl) (glob_cls (c := 114) T.kx_InUse) (by decide)) l_nil rfl) rfl) rfl (by decide) (by decide)) l_nil rfl) rfl) rfl) (by decide))) rfl (.inl rfl)) (ss_cons (s_setH (i := 1) c rfl (by mem_news) (v_bin (o_add c.cK) (v_var (i := 1) rfl (by leaf_len) (by decide) (by decide)) (v_lst (l_cons (v_callB (c_isaH c (T.xh_NotAPattern _)) (by rfl) T.z_isinstance (by decide +kernel) (l_cons (v_var (i := 0) rfl (by leaf_len) (by decide) (by decide)) (l_cons (v_glob (by rfl) (glob_cls (c := 115) T.kx_TooMany) (by decide)) l_nil rfl) rfl) rfl (by decide) (by decide)) (l_cons (v_callB (c_isaH c (T.xh_NotAPattern _)) (by rfl) T.z_isinstance (by decide +kernel) (l_cons (v_var (i := 0) rfl (by leaf_len) (by decide) (by decide)) (l_cons (v_glob (by rfl) (glob_cls (c := 116) T.kx_Broken) (by decide)) l_nil rfl) rfl) rfl (by decide) (by decide)) l_nil rfl) rfl) (by decide))) rfl (.inl rfl)) (ss_cons (s_setH (i := 1) c rfl (by mem_news) (v_bin (o_add c.cK) (v_var (i := 1) rfl (by leaf_len) (by decide) (by decide)) (v_lst (l_cons (v_callB (c_isaH c (T.xh_NotAPattern _)) (by rfl) T.z_isinstance (by decide +kernel) (l_cons (v_var (i := 0) rfl (by leaf_len) (by decide) (by decide)) (l_cons (v_glob (by rfl) (glob_cls (c := 117) T.kx_NoLimit) (by decide)) l_nil rfl) rfl) rfl (by decide) (by decide)) (l_cons (v_callB (c_isaH c (T.xh_NotAPattern _)) (by rfl) T.z_isinstance (by decide +kernel) (l_cons (v_var (i := 0) rfl (by leaf_len) (by decide) (by decide)) (l_cons (v_glob (by rfl) (glob_cls (c := 118) T.kx_NothingToUndo) (by decide)) l_nil rfl) rfl) rfl (by decide) (by decide)) l_nil rfl) rfl) (by decide))) rfl (.inl rfl)) (ss_cons (s_setH (i := 2) c rfl (by mem_news) (v_lst (l_cons (v_callB (c_isaH c (T.xh_NotAPattern _)) (by rfl) T.z_isinstance (by decide +kernel) (l_cons (v_var (i := 0) rfl (by leaf_len) (by decide) (by decide)) (l_cons (v_glob (by rfl) (glob_cls (c := 120) T.kx_WrongValue) (by decide)) l_nil rfl) rfl) rfl (by decide) (by decide)) (l_cons (v_callB (c_isaH c (T.xh_NotAPattern _)) (by rfl) T.z_isinstance (by decide +kernel) (l_cons (v_var (i := 0) rfl (by leaf_len) (by decide) (by decide)) (l_cons (v_glob (by rfl) (glob_cls (c := 121) T.kx_WrongName) (by decide)) l_nil rfl) rfl) rfl (by decide) (by decide)) (l_cons (v_callB (c_isaH c (T.xh_NotAPattern _)) (by rfl) T.z_isinstance (by decide +kernel) (l_cons (v_var (i := 0) rfl (by leaf_len) (by decide) (by decide)) (l_cons (v_glob (by rfl) (glob_cls (c := 122) T.kx_NoAnswer) (by decide)) l_nil rfl) rfl) rfl (by decide) (by decide)) l_nil rfl) rfl) rfl) (by decide)) rfl (.inl rfl)) (ss_cons (s_setH (i := 2) c rfl (by mem_news) (v_bin (o_add c.cK) (v_var (i := 2) rfl (by leaf_len) (by decide) (by decide)) (v_lst (l_cons (v_callB (c_isaH c (T.xh_NotAPattern _)) (by rfl) T.z_isinstance (by decide +kernel) (l_cons (v_var (i := 0) rfl (by leaf_len) (by decide) (by decide)) (l_cons (v_tyX (n := "ValueError") (by rfl) T.zx_ValueError (by decide +kernel) (by decide) (by decide)) l_nil rfl) rfl) rfl (by decide) (by decide)) (l_cons (v_callB (c_isaH c (T.xh_NotAPattern _)) (by rfl) T.z_isinstance (by decide +kernel) (l_cons (v_var (i := 0) rfl (by leaf_len) (by decide) (by decide)) (l_cons (v_tyX (n := "LookupError") (by rfl) T.zx_LookupError (by decide +kernel) (by decide) (by decide)) l_nil rfl) rfl) rfl (by decide) (by decide)) (l_cons (v_callB (c_isaH c (T.xh_NotAPattern _)) (by rfl) T.z_isinstance (by decide +kernel) (l_cons (v_var (i := 0) rfl (by leaf_len) (by decide) (by decide)) (l_cons (v_tyX (n := "ArithmeticError") (by rfl) T.zx_ArithmeticError (by decide +kernel) (by decide) (by decide)) l_nil rfl) rfl) rfl (by decide) (by decide)) l_nil rfl) rfl) rfl) (by decide))) rfl (.inl rfl)) (ss_cons (s_ret (v_bin (o_add c.cK) (v_lcH c (own := [("_law_at", 3)]) (i_rng1H (by rfl) T.z_range (l_cons v_int l_nil rfl) rfl) (blkOk_by (N := ["_law_e", "_law_found", "_law_above", "_law_at"]) (sc := defScope st__law_classes) (by decide +kernel)) (fun s H C cl fp o => (p_name (i := 3) c.nd rfl (by mem_news) (.inr rfl))) (fun s H C cl fp o => (t_one (b_val (v_ix c.cK (v_var (i := 1) rfl (by leaf_len) (by decide) (by decide)) (v_var (i := 3) rfl (by leaf_len) (by decide) (by decide)) rfl) (fun _ => rfl)))) (fun s H C cl fp o => (v_var (i := 3) rfl (by leaf_len) (by decide) (by decide))) rfl (by decide)) (v_lcH c (own := [("_law_at", 3)]) (i_rng1H (by rfl) T.z_range (l_cons v_int l_nil rfl) rfl) (blkOk_by (N := ["_law_e", "_law_found", "_law_above", "_law_at"]) (sc := defScope st__law_classes) (by decide +kernel)) (fun s H C cl fp o => (p_name (i := 3) c.nd rfl (by mem_news) (.inr rfl))) (fun s H C cl fp o => (t_one (b_val (v_ix c.cK (v_var (i := 2) rfl (by leaf_len) (by decide) (by decide)) (v_var (i := 3) rfl (by leaf_len) (by decide) (by decide)) rfl) (fun _ => rfl)))) (fun s H C cl fp o => (v_bin (o_add c.cK) v_int (v_var (i := 3) rfl (by leaf_len) (by decide) (by decide)))) rfl (by decide)))) ss_nil))))))))))⟩
theorem okh__law_classes_NotAPattern (T : Facts P w K mg base ad) : FnHA P w K mg base (GG true K ad) 1 (ad 43) (ad 1100) (fun a dd => runFn 1 4 (pkh__law_classes_NotAPattern.1 a dd)) := by
  obtain ⟨fd, F⟩ := T.f__law_classes
  exact fnh_rule F sc__law_classes (F.binds fun _ _ _ _ _ _ us hl => match us, hl with | [_], _ => rfl) rfl (pkh__law_classes_NotAPattern.2 P w K mg base ad T) rfl rfl (by decide)
theorem cod_NotAPattern : ∀ (a dd : Addr) (d : D) (S : List Ob), runFn 1 4 (pkh__law_classes_NotAPattern.1 a dd) [.raw (.ref a) dd ["given"] [d]] S = some (.ok (.lst [.int 0, .int 20, .int 23]), S) := by
  intro a dd d S
  simp [runFn, pkh__law_classes_NotAPattern, seqS, asgS, exS, setT, getv, slots, M.bind, M.pure, on2, isaH_at, isaC, isS, isB, dAdd, lim]
  rfl
def pkh__law_classes_InvalidResistance : Σ' ms : Addr → Addr → MS, ∀ (P : Program) (w : World) (K : PySem.W.Frag) (mg : Str → Option Value) (base : Heap) (ad : Nat → Addr), Facts P w K mg base ad → BodyH P w K mg base (GG true K ad) 0 (ad 43) (ad 1102) ["_law_e", "_law_found", "_law_above", "_law_at"] "_law_classes" st__law_classes ms :=
  ⟨_, fun P w K mg base ad T cdv A fr s H a dd o c => ss_cons (s_setH (i := 1) c rfl (by mem_news) (v_lst (l_cons (v_callB (c_isaH c (T.xh_InvalidResistance _)) (by rfl) T.z_isinstance (by decide +kernel) (l_cons (v_var (i := 0) rfl (by leaf_len) (by decide) (by decide)) (l_cons (v_glob (by rfl) (glob_cls (c := 100) T.kx_NotAPattern) (by decide)) l_nil rfl) rfl) rfl (by decide) (by decide)) (l_cons (v_callB (c_isaH c (T.xh_InvalidResistance _)) (by rfl) T.z_isinstance (by decide +kernel) (l_cons (v_var (i := 0) rfl (by leaf_len) (by decide) (by decide)) (l_cons (v_glob (by rfl) (glob_cls (c := 101) T.kx_NotARun) (by decide)) l_nil rfl) rfl) rfl (by decide) (by decide)) l_nil rfl) rfl) (by decide)) rfl (.inl rfl)) (ss_cons (s_setH (i := 1) c rfl (by mem_news) (v_bin (o_add c.cK) (v_var (i := 1) rfl (by leaf_len) (by decide) (by decide)) (v_lst (l_cons (v_callB (c_isaH c (T.xh_InvalidResistance _)) (by rfl) T.z_isinstance (by decide +kernel) (l_cons (v_var (i := 0) rfl (by leaf_len) (by decide) (by decide)) (l_cons (v_glob (by rfl) (glob_cls (c := 102) T.kx_InvalidResistance) (by decide)) l_nil rfl) rfl) rfl (by decide) (by decide)) (l_cons (v_callB (c_isaH c (T.xh_InvalidResistance _)) (by rfl) T.z_isinstance (by decide +kernel) (l_cons (v_var (i := 0) rfl (by leaf_len) (by decide) (by decide)) (l_cons (v_glob (by rfl) (glob_cls (c := 103) T.kx_InvalidCount) (by decide)) l_nil rfl) rfl) rfl (by decide) (by decide)) l_nil rfl) rfl) (by decide))) rfl (.inl rfl)) (ss_cons (s_setH (i := 1) c rfl (by mem_news) (v_bin (o_add c.cK) (v_var (i := 1) rfl (by leaf_len) (by decide) (by decide)) (v_lst (l_cons (v_callB (c_isaH c (T.xh_InvalidResistance _)) (by rfl) T.z_isinstance (by decide +kernel) (l_cons (v_var (i := 0) rfl (by leaf_len) (by decide) (by decide)) (l_cons (v_glob (by rfl) (glob_cls (c := 104) T.kx_InvalidNumber) (by decide)) l_nil rfl) rfl) rfl (by decide) (by decide)) (l_cons (v_callB (c_isaH c (T.xh_InvalidResistance _)) (by rfl) T.z_isinstance (by decide +kernel) (l_cons (v_var (i := 0) rfl (by leaf_len) (by decide) (by decide)) (l_cons (v_glob (by rfl) (glob_cls (c := 105) T.kx_InvalidText) (by decide)) l_nil rfl) rfl) rfl (by decide) (by decide)) (l_cons (v_callB (c_isaH c (T.xh_InvalidResistance _)) (by rfl) T.z_isinstance (by decide +kernel) (l_cons (v_var (i := 0) rfl (by leaf_len) (by decide) (by decide)) (l_cons (v_glob (by rfl) (glob_cls (c := 106) T.kx_InvalidName) (by decide)) l_nil rfl) rfl) rfl (by decide) (by decide)) l_nil rfl) rfl) rfl) (by decide))) rfl (.inl rfl)) (ss_cons (s_setH (i := 1) c rfl (by mem_news) (v_bin (o_add c.cK) (v_var (i := 1) rfl (by leaf_len) (by decide) (by decide)) (v_lst (l_cons (v_callB (c_isaH c (T.xh_InvalidResistance _)) (by rfl) T.z_isinstance (by decide +kernel) (l_cons (v_var (i := 0) rfl (by leaf_len) (by decide) (by decide)) (l_cons (v_glob (by rfl) (glob_cls (c := 107) T.kx_InvalidClaim) (by decide)) l_nil rfl) rfl) rfl (by decide) (by decide)) (l_cons (v_callB (c_isaH c (T.xh_InvalidResistance _)) (by rfl) T.z_isinstance (by decide +kernel) (l_cons (v_var (i := 0) rfl (by leaf_len) (by decide) (by decide)) (l_cons (v_glob (by rfl) (glob_cls (c := 108) T.kx_InvalidIndex) (by decide)) l_nil rfl) rfl) rfl (by decide) (by decide)) l_nil rfl) rfl) (by decide))) rfl (.inl rfl)) (ss_cons (s_setH (i := 1) c rfl (by mem_news) (v_bin (o_add c.cK) (v_var (i := 1) rfl (by leaf_len) (by decide) (by decide)) (v_lst (l_cons (v_callB (c_isaH c (T.xh_InvalidResistance _)) (by rfl) T.z_isinstance (by decide +kernel) (l_cons (v_var (i := 0) rfl (by leaf_len) (by decide) (by decide)) (l_cons (v_glob (by rfl) (glob_cls (c := 109) T.kx_InvalidPieces) (by decide)) l_nil rfl) rfl) rfl (by decide) (by decide)) (l_cons (v_callB (c_isaH c (T.xh_InvalidResistance _)) (by rfl) T.z_isinstance (by decide +kernel) (l_cons (v_var (i := 0) rfl (by leaf_len) (by decide) (by decide)) (l_cons (v_glob (by rfl) (glob_cls (c := 110) T.kx_InvalidKinds) (by decide)) l_nil rfl) rfl) rfl (by decide) (by decide)) (l_cons (v_callB (c_isaH c (T.xh_InvalidResistance _)) (by rfl) T.z_isinstance (by decide +kernel) (l_cons (v_var (i := 0) rfl (by leaf_len) (by decide) (by decide)) (l_cons (v_glob (by rfl) (glob_cls (c := 111) T.kx_InvalidStretches) (by decide)) l_nil rfl) rfl) rfl (by decide) (by decide)) l_nil rfl) rfl) rfl) (by decide))) rfl (.inl rfl)) (ss_cons (s_setH (i := 1) c rfl (by mem_news) (v_bin (o_add c.cK) (v_var (i := 1) rfl (by leaf_len) (by decide) (by decide)) (v_lst (l_cons (v_callB (c_isaH c (T.xh_InvalidResistance _)) (by rfl) T.z_isinstance (by decide +kernel) (l_cons (v_var (i := 0) rfl (by leaf_len) (by decide) (by decide)) (l_cons (v_glob (by rfl) (glob_cls (c := 112) T.kx_InvalidDeeds) (by decide)) l_nil rfl) rfl) rfl (by decide) (by decide)) (l_cons (v_callB (c_isaH c (T.xh_InvalidResistance _)) (by rfl) T.z_isinstance (by decide +kernel) (l_cons (v_var (i := 0) rfl (by leaf_len) (by decide) (by decide)) (l_cons (v_glob (by rfl) (glob_cls (c := 113) T.kx_UnknownName) (by decide)) l_nil rfl) rfl) rfl (by decide) (by decide)) (l_cons (v_callB (c_isaH c (T.xh_InvalidResistance _)) (by rfl) T.z_isinstance (by decide +kernel) (l_cons (v_var (i := 0) rfl (by leaf_len) (by decide) (by decide)) (l_cons (v_glob (by rfl) (glob_cls (c := 114) T.kx_InUse) (by decide)) l_nil rfl) rfl) rfl (by decide) (by decide)) l_nil rfl) rfl) rfl) (by decide))) rfl (.inl rfl)) (ss_cons (s_setH (i := 1) c rfl (by mem_news) (v_bin (o_add c.cK) (v_var (i := 1) rfl (by leaf_len) (by decide) (by decide)) (v_lst (l_cons (v_callB (c_isaH c (T.xh_InvalidResistance _)) (by rfl) T.z_isinstance (by decide +kernel) (l_cons (v_var (i := 0) rfl (by leaf_len) (by decide) (by decide)) (l_cons (v_glob (by rfl) (glob_cls (c := 115) T.kx_TooMany) (by decide)) l_nil rfl) rfl) rfl (by decide) (by decide)) (l_cons (v_callB (c_isaH c (T.xh_InvalidResistance _)) (by rfl) T.z_isinstance (by decide +kernel) (l_cons (v_var (i := 0) rfl (by leaf_len) (by decide) (by decide)) (l_cons (v_glob (by rfl) (glob_cls (c := 116) T.kx_Broken) (by decide)) l_nil rfl) rfl) rfl (by decide) (by decide)) l_nil rfl) rfl) (by decide))) rfl (.inl rfl)) (ss_cons (s_setH (i := 1) c rfl (by mem_news) (v_bin (o_add c.cK) (v_var (i := 1) rfl (by leaf_len) (by decide) (by decide)) (v_lst (l_cons (v_callB (c_isaH c (T.xh_InvalidResistance _)) (by rfl) T.z_isinstance (by decide +kernel) (l_cons (v_var (i := 0) rfl (by leaf_len) (by decide) (by decide)) (l_cons (v_glob (by rfl) (glob_cls (c := 117) T.kx_NoLimit) (by decide)) l_nil rfl) rfl) rfl (by decide) (by decide)) (l_cons (v_callB (c_isaH c (T.xh_InvalidResistance _)) (by rfl) T.z_isinstance (by decide +kernel) (l_cons (v_var (i := 0) rfl (by leaf_len) (by decide) (by decide)) (l_cons (v_glob (by rfl) (glob_cls (c := 118) T.kx_NothingToUndo) (by decide)) l_nil rfl) rfl) rfl (by decide) (by decide)) l_nil rfl) rfl) (by decide))) rfl (.inl rfl)) (ss_cons (s_setH (i := 2) c rfl (by mem_news) (v_lst (l_cons (v_callB (c_isaH c (T.xh_InvalidResistance _)) (by rfl) T.z_isinstance (by decide +kernel) (l_cons (v_var (i := 0) rfl (by leaf_len) (by decide) (by decide)) (l_cons (v_glob (by rfl) (glob_cls (c := 120) T.kx_WrongValue) (by decide)) l_nil rfl) rfl) rfl (by decide) (by decide)) (l_cons (v_callB (c_isaH c (T.xh_InvalidResistance _)) (by rfl) T.z_isinstance (by decide +kernel) (l_cons (v_var (i := 0) rfl (by leaf_len) (by decide) (by decide)) (l_cons (v_glob (by rfl) (glob_cls (c := 121) T.kx_WrongName) (by decide)) l_nil rfl) rfl) rfl (by decide) (by decide)) (l_cons (v_callB (c_isaH c (T.xh_InvalidResistance _)) (by rfl) T.z_isinstance (by decide +kernel) (l_cons (v_var (i := 0) rfl (by leaf_len) (by decide) (by decide)) (l_cons (v_glob (by rfl) (glob_cls (c := 122) T.kx_NoAnswer) (by decide)) l_nil rfl) rfl) rfl (by decide) (by decide)) l_nil rfl) rfl) rfl) (by decide)) rfl (.inl rfl)) (ss_cons (s_setH (i := 2) c rfl (by mem_news) (v_bin (o_add c.cK) (v_var (i := 2) rfl (by leaf_len) (by decide) (by decide)) (v_lst (l_cons (v_callB (c_isaH c (T.xh_InvalidResistance _)) (by rfl) T.z_isinstance (by decide +kernel) (l_cons (v_var (i := 0) rfl (by leaf_len) (by decide) (by decide)) (l_cons (v_tyX (n := "ValueError") (by rfl) T.zx_ValueError (by decide +kernel) (by decide) (by decide)) l_nil rfl) rfl) rfl (by decide) (by decide)) (l_cons (v_callB (c_isaH c (T.xh_InvalidResistance _)) (by rfl) T.z_isinstance (by decide +kernel) (l_cons (v_var (i := 0) rfl (by leaf_len) (by decide) (by decide)) (l_cons (v_tyX (n := "LookupError") (by rfl) T.zx_LookupError (by decide +kernel) (by decide) (by decide)) l_nil rfl) rfl) rfl (by decide) (by decide)) (l_cons (v_callB (c_isaH c (T.xh_InvalidResistance _)) (by rfl) T.z_isinstance (by decide +kernel) (l_cons (v_var (i := 0) rfl (by leaf_len) (by decide) (by decide)) (l_cons (v_tyX (n := "ArithmeticError") (by rfl) T.zx_ArithmeticError (by decide +kernel) (by decide) (by decide)) l_nil rfl) rfl) rfl (by decide) (by decide)) l_nil rfl) rfl) rfl) (by decide))) rfl (.inl rfl)) (ss_cons (s_ret (v_bin (o_add c.cK) (v_lcH c (own := [("_law_at", 3)]) (i_rng1H (by rfl) T.z_range (l_cons v_int l_nil rfl) rfl) (blkOk_by (N := ["_law_e", "_law_found", "_law_above", "_law_at"]) (sc := defScope st__law_classes) (by decide +kernel)) (fun s H C cl fp o => (p_name (i := 3) c.nd rfl (by mem_news) (.inr rfl))) (fun s H C cl fp o => (t_one (b_val (v_ix c.cK (v_var (i := 1) rfl (by leaf_len) (by decide) (by decide)) (v_var (i := 3) rfl (by leaf_len) (by decide) (by decide)) rfl) (fun _ => rfl)))) (fun s H C cl fp o => (v_var (i := 3) rfl (by leaf_len) (by decide) (by decide))) rfl (by decide)) (v_lcH c (own := [("_law_at", 3)]) (i_rng1H (by rfl) T.z_range (l_cons v_int l_nil rfl) rfl) (blkOk_by (N := ["_law_e", "_law_found", "_law_above", "_law_at"]) (sc := defScope st__law_classes) (by decide +kernel)) (fun s H C cl fp o => (p_name (i := 3) c.nd rfl (by mem_news) (.inr rfl))) (fun s H C cl fp o => (t_one (b_val (v_ix c.cK (v_var (i := 2) rfl (by leaf_len) (by decide) (by decide)) (v_var (i := 3) rfl (by leaf_len) (by decide) (by decide)) rfl) (fun _ => rfl)))) (fun s H C cl fp o => (v_bin (o_add c.cK) v_int (v_var (i := 3) rfl (by leaf_len) (by decide) (by decide)))) rfl (by decide)))) ss_nil))))))))))⟩
theorem okh__law_classes_InvalidResistance (T : Facts P w K mg base ad) : FnHA P w K mg base (GG true K ad) 1 (ad 43) (ad 1102) (fun a dd => runFn 1 4 (pkh__law_classes_InvalidResistance.1 a dd)) := by
  obtain ⟨fd, F⟩ := T.f__law_classes
  exact fnh_rule F sc__law_classes (F.binds fun _ _ _ _ _ _ us hl => match us, hl with | [_], _ => rfl) rfl (pkh__law_classes_InvalidResistance.2 P w K mg base ad T) rfl rfl (by decide)
theorem cod_InvalidResistance : ∀ (a dd : Addr) (d : D) (S : List Ob), runFn 1 4 (pkh__law_classes_InvalidResistance.1 a dd) [.raw (.ref a) dd ["given"] [d]] S = some (.ok (.lst [.int 2, .int 20, .int 23]), S) := by
  intro a dd d S
  simp [runFn, pkh__law_classes_InvalidResistance, seqS, asgS, exS, setT, getv, slots, M.bind, M.pure, on2, isaH_at, isaC, isS, isB, dAdd, lim]
  rfl
def pkh__law_classes_InvalidPieces : Σ' ms : Addr → Addr → MS, ∀ (P : Program) (w : World) (K : PySem.W.Frag) (mg : Str → Option Value) (base : Heap) (ad : Nat → Addr), Facts P w K mg base ad → BodyH P w K mg base (GG true K ad) 0 (ad 43) (ad 1109) ["_law_e", "_law_found", "_law_above", "_law_at"] "_law_classes" st__law_classes ms :=
  ⟨_, fun P w K mg base ad T cdv A fr s H a dd o c => ss_cons (s_setH (i := 1) c rfl (by mem_news) (v_lst (l_cons (v_callB (c_isaH c (T.xh_InvalidPieces _)) (by rfl) T.z_isinstance (by decide +kernel) (l_cons (v_var (i := 0) rfl (by leaf_len) (by decide) (by decide)) (l_cons (v_glob (by rfl) (glob_cls (c := 100) T.kx_NotAPattern) (by decide)) l_nil rfl) rfl) rfl (by decide) (by decide)) (l_cons (v_callB (c_isaH c (T.xh_InvalidPieces _)) (by rfl) T.z_isinstance (by decide +kernel) (l_cons (v_var (i := 0) rfl (by leaf_len) (by decide) (by decide)) (l_cons (v_glob (by rfl) (glob_cls (c := 101) T.kx_NotARun) (by decide)) l_nil rfl) rfl) rfl (by decide) (by decide)) l_nil rfl) rfl) (by decide)) rfl (.inl rfl)) (ss_cons (s_setH (i := 1) c rfl (by mem_news) (v_bin (o_add c.cK) (v_var (i := 1) rfl (by leaf_len) (by decide) (by decide)) (v_lst (l_cons (v_callB (c_isaH c (T.xh_InvalidPieces _)) (by rfl) T.z_isinstance (by decide +kernel) (l_cons (v_var (i := 0) rfl (by leaf_len) (by decide) (by decide)) (l_cons (v_glob (by rfl) (glob_cls (c := 102) T.kx_InvalidResistance) (by decide)) l_nil rfl) rfl) rfl (by decide) (by decide)) (l_cons (v_callB (c_isaH c (T.xh_InvalidPieces _)) (by rfl) T.z_isinstance (by decide +kernel) (l_cons (v_var (i := 0) rfl (by leaf_len) (by decide) (by decide)) (l_cons (v_glob (by rfl) (glob_cls (c := 103) T.kx_InvalidCount) (by decide)) l_nil rfl) rfl) rfl (by decide) (by decide)) l_nil rfl) rfl) (by decide))) rfl (.inl rfl)) (ss_cons (s_setH (i := 1) c rfl (by mem_news) (v_bin (o_add c.cK) (v_var (i := 1) rfl (by leaf_len) (by decide) (by decide)) (v_lst (l_cons (v_callB (c_isaH c (T.xh_InvalidPieces _)) (by rfl) T.z_isinstance (by decide +kernel) (l_cons (v_var (i := 0) rfl (by leaf_len) (by decide) (by decide)) (l_cons (v_glob (by rfl) (glob_cls (c := 104) T.kx_InvalidNumber) (by decide)) l_nil rfl) rfl) rfl (by decide) (by decide)) (l_cons (v_callB (c_isaH c (T.xh_InvalidPieces _)) (by rfl) T.z_isinstance (by decide +kernel) (l_cons (v_var (i := 0) rfl (by leaf_len) (by decide) (by decide)) (l_cons (v_glob (by rfl) (glob_cls (c := 105) T.kx_InvalidText) (by decide)) l_nil rfl) rfl) rfl (by decide) (by decide)) (l_cons (v_callB (c_isaH c (T.xh_InvalidPieces _)) (by rfl) T.z_isinstance (by decide +kernel) (l_cons (v_var (i := 0) rfl (by leaf_len) (by decide) (by decide)) (l_cons (v_glob (by rfl) (glob_cls (c := 106) T.kx_InvalidName) (by decide)) l_nil rfl) rfl) rfl (by decide) (by decide)) l_nil rfl) rfl) rfl) (by decide))) rfl (.inl rfl)) (ss_cons (s_setH (i := 1) c rfl (by mem_news) (v_bin (o_add c.cK) (v_var (i := 1) rfl (by leaf_len) (by decide) (by decide)) (v_lst (l_cons (v_callB (c_isaH c (T.xh_InvalidPieces _)) (by rfl) T.z_isinstance (by decide +kernel) (l_cons (v_var (i := 0) rfl (by leaf_len) (by decide) (by decide)) (l_cons (v_glob (by rfl) (glob_cls (c := 107) T.kx_InvalidClaim) (by decide)) l_nil rfl) rfl) rfl (by decide) (by decide)) (l_cons (v_callB (c_isaH c (T.xh_InvalidPieces _)) (by rfl) T.z_isinstance (by decide +kernel) (l_cons (v_var (i := 0) rfl (by leaf_len) (by decide) (by decide)) (l_cons (v_glob (by rfl) (glob_cls (c := 108) T.kx_InvalidIndex) (by decide)) l_nil rfl) rfl) rfl (by decide) (by decide)) l_nil rfl) rfl) (by decide))) rfl (.inl rfl)) (ss_cons (s_setH (i := 1) c rfl (by mem_news) (v_bin (o_add c.cK) (v_var (i := 1) rfl (by leaf_len) (by decide) (by decide)) (v_lst (l_cons (v_callB (c_isaH c (T.xh_InvalidPieces _)) (by rfl) T.z_isinstance (by decide +kernel) (l_cons (v_var (i := 0) rfl (by leaf_len) (by decide) (by decide)) (l_cons (v_glob (by rfl) (glob_cls (c := 109) T.kx_InvalidPieces) (by decide)) l_nil rfl) rfl) rfl (by decide) (by decide)) (l_cons (v_callB (c_isaH c (T.xh_InvalidPieces _)) (by rfl) T.z_isinstance (by decide +kernel) (l_cons (v_var (i := 0) rfl (by leaf_len) (by decide) (by decide)) (l_cons (v_glob (by rfl) (glob_cls (c := 110) T.kx_InvalidKinds) (by decide)) l_nil rfl) rfl) rfl (by decide) (by decide)) (l_cons (v_callB (c_isaH c (T.xh_InvalidPieces _)) (by rfl) T.z_isinstance (by decide +kernel) (l_cons (v_var (i := 0) rfl (by leaf_len) (by decide) (by decide)) (l_cons (v_glob (by rfl) (glob_cls (c := 111) T.kx_InvalidStretches) (by decide)) l_nil rfl) rfl) rfl (by decide) (by decide)) l_nil rfl) rfl) rfl) (by decide))) rfl (.inl rfl)) (ss_cons (s_setH (i := 1) c rfl (by mem_news) (v_bin (o_add c.cK) (v_var (i := 1) rfl (by leaf_len) (by decide) (by decide)) (v_lst (l_cons (v_callB (c_isaH c (T.xh_InvalidPieces _)) (by rfl) T.z_isinstance (by decide +kernel) (l_cons (v_var (i := 0) rfl (by leaf_len) (by decide) (by decide)) (l_cons (v_glob (by rfl) (glob_cls (c := 112) T.kx_InvalidDeeds) (by decide)) l_nil rfl) rfl) rfl (by decide) (by decide)) (l_cons (v_callB (c_isaH c (T.xh_InvalidPieces _)) (by rfl) T.z_isinstance (by decide +kernel) (l_cons (v_var (i := 0) rfl (by leaf_len) (by decide) (by decide)) (l_cons (v_glob (by rfl) (glob_cls (c := 113) T.kx_UnknownName) (by decide)) l_nil rfl) rfl) rfl (by decide) (by decide)) (l_cons (v_callB (c_isaH c (T.xh_InvalidPieces _)) (by rfl) T.z_isinstance (by decide +kernel) (l_cons (v_var (i := 0) rfl (by leaf_len) (by decide) (by decide)) (l_cons (v_glob (by rfl) (glob_cls (c := 114) T.kx_InUse) (by decide)) l_nil rfl) rfl) rfl (by decide) (by decide)) l_nil rfl) rfl) rfl) (by decide))) rfl (.inl rfl)) (ss_cons (s_setH (i := 1) c rfl (by mem_news) (v_bin (o_add c.cK) (v_var (i := 1) rfl (by leaf_len) (by decide) (by decide)) (v_lst (l_cons (v_callB (c_isaH c (T.xh_InvalidPieces _)) (by rfl) T.z_isinstance (by decide +kernel) (l_cons (v_var (i := 0) rfl (by leaf_len) (by decide) (by decide)) (l_cons (v_glob (by rfl) (glob_cls (c := 115) T.kx_TooMany) (by decide)) l_nil rfl) rfl) rfl (by decide) (by decide)) (l_cons (v_callB (c_isaH c (T.xh_InvalidPieces _)) (by rfl) T.z_isinstance (by decide +kernel) (l_cons (v_var (i := 0) rfl (by leaf_len) (by decide) (by decide)) (l_cons (v_glob (by rfl) (glob_cls (c := 116) T.kx_Broken) (by decide)) l_nil rfl) rfl) rfl (by decide) (by decide)) l_nil rfl) rfl) (by decide))) rfl (.inl rfl)) (ss_cons (s_setH (i := 1) c rfl (by mem_news) (v_bin (o_add c.cK) (v_var (i := 1) rfl (by leaf_len) (by decide) (by decide)) (v_lst (l_cons (v_callB (c_isaH c (T.xh_InvalidPieces _)) (by rfl) T.z_isinstance (by decide +kernel) (l_cons (v_var (i := 0) rfl (by leaf_len) (by decide) (by decide)) (l_cons (v_glob (by rfl) (glob_cls (c := 117) T.kx_NoLimit) (by decide)) l_nil rfl) rfl) rfl (by decide) (by decide)) (l_cons (v_callB (c_isaH c (T.xh_InvalidPieces _)) (by rfl) T.z_isinstance (by decide +kernel) (l_cons (v_var (i := 0) rfl (by leaf_len) (by decide) (by decide)) (l_cons (v_glob (by rfl) (glob_cls (c := 118) T.kx_NothingToUndo) (by decide)) l_nil rfl) rfl) rfl (by decide) (by decide)) l_nil rfl) rfl) (by decide))) rfl (.inl rfl)) (ss_cons (s_setH (i := 2) c rfl (by mem_news) (v_lst (l_cons (v_callB (c_isaH c (T.xh_InvalidPieces _)) (by rfl) T.z_isinstance (by decide +kernel) (l_cons (v_var (i := 0) rfl (by leaf_len) (by decide) (by decide)) (l_cons (v_glob (by rfl) (glob_cls (c := 120) T.kx_WrongValue) (by decide)) l_nil rfl) rfl) rfl (by decide) (by decide)) (l_cons (v_callB (c_isaH c (T.xh_InvalidPieces _)) (by rfl) T.z_isinstance (by decide +kernel) (l_cons (v_var (i := 0) rfl (by leaf_len) (by decide) (by decide)) (l_cons (v_glob (by rfl) (glob_cls (c := 121) T.kx_WrongName) (by decide)) l_nil rfl) rfl) rfl (by decide) (by decide)) (l_cons (v_callB (c_isaH c (T.xh_InvalidPieces _)) (by rfl) T.z_isinstance (by decide +kernel) (l_cons (v_var (i := 0) rfl (by leaf_len) (by decide) (by decide)) (l_cons (v_glob (by rfl) (glob_cls (c := 122) T.kx_NoAnswer) (by decide)) l_nil rfl) rfl) rfl (by decide) (by decide)) l_nil rfl) rfl) rfl) (by decide)) rfl (.inl rfl)) (ss_cons (s_setH (i := 2) c rfl (by mem_news) (v_bin (o_add c.cK) (v_var (i := 2) rfl (by leaf_len) (by decide) (by decide)) (v_lst (l_cons (v_callB (c_isaH c (T.xh_InvalidPieces _)) (by rfl) T.z_isinstance (by decide +kernel) (l_cons (v_var (i := 0) rfl (by leaf_len) (by decide) (by decide)) (l_cons (v_tyX (n := "ValueError") (by rfl) T.zx_ValueError (by decide +kernel) (by decide) (by decide)) l_nil rfl) rfl) rfl (by decide) (by decide)) (l_cons (v_callB (c_isaH c (T.xh_InvalidPieces _)) (by rfl) T.z_isinstance (by decide +kernel) (l_cons (v_var (i := 0) rfl (by leaf_len) (by decide) (by decide)) (l_cons (v_tyX (n := "LookupError") (by rfl) T.zx_LookupError (by decide +kernel) (by decide) (by decide)) l_nil rfl) rfl) rfl (by decide) (by decide)) (l_cons (v_callB (c_isaH c (T.xh_InvalidPieces _)) (by rfl) T.z_isinstance (by decide +kernel) (l_cons (v_var (i := 0) rfl (by leaf_len) (by decide) (by decide)) (l_cons (v_tyX (n := "ArithmeticError") (by rfl) T.zx_ArithmeticError (by decide +kernel) (by decide) (by decide)) l_nil rfl) rfl) rfl (by decide) (by decide)) l_nil rfl) rfl) rfl) (by decide))) rfl (.inl rfl)) (ss_cons (s_ret (v_bin (o_add c.cK) (v_lcH c (own := [("_law_at", 3)]) (i_rng1H (by rfl) T.z_range (l_cons v_int l_nil rfl) rfl) (blkOk_by (N := ["_law_e", "_law_found", "_law_above", "_law_at"]) (sc := defScope st__law_classes) (by decide +kernel)) (fun s H C cl fp o => (p_name (i := 3) c.nd rfl (by mem_news) (.inr rfl))) (fun s H C cl fp o => (t_one (b_val (v_ix c.cK (v_var (i := 1) rfl (by leaf_len) (by decide) (by decide)) (v_var (i := 3) rfl (by leaf_len) (by decide) (by decide)) rfl) (fun _ => rfl)))) (fun s H C cl fp o => (v_var (i := 3) rfl (by leaf_len) (by decide) (by decide))) rfl (by decide)) (v_lcH c (own := [("_law_at", 3)]) (i_rng1H (by rfl) T.z_range (l_cons v_int l_nil rfl) rfl) (blkOk_by (N := ["_law_e", "_law_found", "_law_above", "_law_at"]) (sc := defScope st__law_classes) (by decide +kernel)) (fun s H C cl fp o => (p_name (i := 3) c.nd rfl (by mem_news) (.inr rfl))) (fun s H C cl fp o => (t_one (b_val (v_ix c.cK (v_var (i := 2) rfl (by leaf_len) (by decide) (by decide)) (v_var (i := 3) rfl (by leaf_len) (by decide) (by decide)) rfl) (fun _ => rfl)))) (fun s H C cl fp o => (v_bin (o_add c.cK) v_int (v_var (i := 3) rfl (by leaf_len) (by decide) (by decide)))) rfl (by decide)))) ss_nil))))))))))⟩
theorem okh__law_classes_InvalidPieces (T : Facts P w K mg base ad) : FnHA P w K mg base (GG true K ad) 1 (ad 43) (ad 1109) (fun a dd => runFn 1 4 (pkh__law_classes_InvalidPieces.1 a dd)) := by
  obtain ⟨fd, F⟩ := T.f__law_classes
  exact fnh_rule F sc__law_classes (F.binds fun _ _ _ _ _ _ us hl => match us, hl with | [_], _ => rfl) rfl (pkh__law_classes_InvalidPieces.2 P w K mg base ad T) rfl rfl (by decide)
theorem cod_InvalidPieces : ∀ (a dd : Addr) (d : D) (S : List Ob), runFn 1 4 (pkh__law_classes_InvalidPieces.1 a dd) [.raw (.ref a) dd ["index"] [d]] S = some (.ok (.lst [.int 9, .int 20, .int 23]), S) := by
  intro a dd d S
  simp [runFn, pkh__law_classes_InvalidPieces, seqS, asgS, exS, setT, getv, slots, M.bind, M.pure, on2, isaH_at, isaC, isS, isB, dAdd, lim]
  rfl
def pkh__law_classes_InvalidCount : Σ' ms : Addr → Addr → MS, ∀ (P : Program) (w : World) (K : PySem.W.Frag) (mg : Str → Option Value) (base : Heap) (ad : Nat → Addr), Facts P w K mg base ad → BodyH P w K mg base (GG true K ad) 0 (ad 43) (ad 1103) ["_law_e", "_law_found", "_law_above", "_law_at"] "_law_classes" st__law_classes ms :=
  ⟨_, fun P w K mg base ad T cdv A fr s H a dd o c => ss_cons (s_setH (i := 1) c rfl (by mem_news) (v_lst (l_cons (v_callB (c_isaH c (T.xh_InvalidCount _)) (by rfl) T.z_isinstance (by decide +kernel) (l_cons (v_var (i := 0) rfl (by leaf_len) (by decide) (by decide)) (l_cons (v_glob (by rfl) (glob_cls (c := 100) T.kx_NotAPattern) (by decide)) l_nil rfl) rfl) rfl (by decide) (by decide)) (l_cons (v_callB (c_isaH c (T.xh_InvalidCount _)) (by rfl) T.z_isinstance (by decide +kernel) (l_cons (v_var (i := 0) rfl (by leaf_len) (by decide) (by decide)) (l_cons (v_glob (by rfl) (glob_cls (c := 101) T.kx_NotARun) (by decide)) l_nil rfl) rfl) rfl (by decide) (by decide)) l_nil rfl) rfl) (by decide)) rfl (.inl rfl)) (ss_cons (s_setH (i := 1) c rfl (by mem_news) (v_bin (o_add c.cK) (v_var (i := 1) rfl (by leaf_len) (by decide) (by decide)) (v_lst (l_cons (v_callB (c_isaH c (T.xh_InvalidCount _)) (by rfl) T.z_isinstance (by decide +kernel) (l_cons (v_var (i := 0) rfl (by leaf_len) (by decide) (by decide)) (l_cons (v_glob (by rfl) (glob_cls (c := 102) T.kx_InvalidResistance) (by decide)) l_nil rfl) rfl) rfl (by decide) (by decide)) (l_cons (v_callB (c_isaH c (T.xh_InvalidCount _)) (by rfl) T.z_isinstance (by decide +kernel) (l_cons (v_var (i := 0) rfl (by leaf_len) (by decide) (by decide)) (l_cons (v_glob (by rfl) (glob_cls (c := 103) T.kx_InvalidCount) (by decide)) l_nil rfl) rfl) rfl (by decide) (by decide)) l_nil rfl) rfl) (by decide))) rfl (.inl rfl)) (ss_cons (s_setH (i := 1) c rfl (by mem_news) (v_bin (o_add c.cK) (v_var (i := 1) rfl (by leaf_len) (by decide) (by decide)) (v_lst (l_cons (v_callB (c_isaH c (T.xh_InvalidCount _)) (by rfl) T.z_isinstance (by decide +kernel) (l_cons (v_var (i := 0) rfl (by leaf_len) (by decide) (by decide)) (l_cons (v_glob (by rfl) (glob_cls (c := 104) T.kx_InvalidNumber) (by decide)) l_nil rfl) rfl) rfl (by decide) (by decide)) (l_cons (v_callB (c_isaH c (T.xh_InvalidCount _)) (by rfl) T.z_isinstance (by decide +kernel) (l_cons (v_var (i := 0) rfl (by leaf_len) (by decide) (by decide)) (l_cons (v_glob (by rfl) (glob_cls (c := 105) T.kx_InvalidText) (by decide)) l_nil rfl) rfl) rfl (by decide) (by decide)) (l_cons (v_callB (c_isaH c (T.xh_InvalidCount _)) (by rfl) T.z_isinstance (by decide +kernel) (l_cons (v_var (i := 0) rfl (by leaf_len) (by decide) (by decide)) (l_cons (v_glob (by rfl) (glob_cls (c := 106) T.kx_InvalidName) (by decide)) l_nil rfl) rfl) rfl (by decide) (by decide)) l_nil rfl) rfl) rfl) (by decide))) rfl (.inl rfl)) (ss_cons (s_setH (i := 1) c rfl (by mem_news) (v_bin (o_add c.cK) (v_var (i := 1) rfl (by leaf_len) (by decide) (by decide)) (v_lst (l_cons (v_callB (c_isaH c (T.xh_InvalidCount _)) (by rfl) T.z_isinstance (by decide +kernel) (l_cons (v_var (i := 0) rfl (by leaf_len) (by decide) (by decide)) (l_cons (v_glob (by rfl) (glob_cls (c := 107) T.kx_InvalidClaim) (by decide)) l_nil rfl) rfl) rfl (by decide) (by decide)) (l_cons (v_callB (c_isaH c (T.xh_InvalidCount _)) (by rfl) T.z_isinstance (by decide +kernel) (l_cons (v_var (i := 0) rfl (by leaf_len) (by decide) (by decide)) (l_cons (v_glob (by rfl) (glob_cls (c := 108) T.kx_InvalidIndex) (by decide)) l_nil rfl) rfl) rfl (by decide) (by decide)) l_nil rfl) rfl) (by decide))) rfl (.inl rfl)) (ss_cons (s_setH (i := 1) c rfl (by mem_news) (v_bin (o_add c.cK) (v_var (i := 1) rfl (by leaf_len) (by decide) (by decide)) (v_lst (l_cons (v_callB (c_isaH c (T.xh_InvalidCount _)) (by rfl) T.z_isinstance (by decide +kernel) (l_cons (v_var (i := 0) rfl (by leaf_len) (by decide) (by decide)) (l_cons (v_glob (by rfl) (glob_cls (c := 109) T.kx_InvalidPieces) (by decide)) l_nil rfl) rfl) rfl (by decide) (by decide)) (l_cons (v_callB (c_isaH c (T.xh_InvalidCount _)) (by rfl) T.z_isinstance (by decide +kernel) (l_cons (v_var (i := 0) rfl (by leaf_len) (by decide) (by decide)) (l_cons (v_glob (by rfl) (glob_cls (c := 110) T.kx_InvalidKinds) (by decide)) l_nil rfl) rfl) rfl (by decide) (by decide)) (l_cons (v_callB (c_isaH c (T.xh_InvalidCount _)) (by rfl) T.z_isinstance (by decide +kernel) (l_cons (v_var (i := 0) rfl (by leaf_len) (by decide) (by decide)) (l_cons (v_glob (by rfl) (glob_cls (c := 111) T.kx_InvalidStretches) (by decide)) l_nil rfl) rfl) rfl (by decide) (by decide)) l_nil rfl) rfl) rfl) (by decide))) rfl (.inl rfl)) (ss_cons (s_setH (i := 1) c rfl (by mem_news) (v_bin (o_add c.cK) (v_var (i := 1) rfl (by leaf_len) (by decide) (by decide)) (v_lst (l_cons (v_callB (c_isaH c (T.xh_InvalidCount _)) (by rfl) T.z_isinstance (by decide +kernel) (l_cons (v_var (i := 0) rfl (by leaf_len) (by decide) (by decide)) (l_cons (v_glob (by rfl) (glob_cls (c := 112) T.kx_InvalidDeeds) (by decide)) l_nil rfl) rfl) rfl (by decide) (by decide)) (l_cons (v_callB (c_isaH c (T.xh_InvalidCount _)) (by rfl) T.z_isinstance (by decide +kernel) (l_cons (v_var (i := 0) rfl (by leaf_len) (by decide) (by decide)) (l_cons (v_glob (by rfl) (glob_cls (c := 113) T.kx_UnknownName) (by decide)) l_nil rfl) rfl) rfl (by decide) (by decide)) (l_cons (v_callB (c_isaH c (T.xh_InvalidCount _)) (by rfl) T.z_isinstance (by decide +kernel) (l_cons (v_var (i := 0) rfl (by leaf_len) (by decide) (by decide)) (l_cons (v_glob (by rfl) (glob_cls (c := 114) T.kx_InUse) (by decide)) l_nil rfl) rfl) rfl (by decide) (by decide)) l_nil rfl) rfl) rfl) (by decide))) rfl (.inl rfl)) (ss_cons (s_setH (i := 1) c rfl (by mem_news) (v_bin (o_add c.cK) (v_var (i := 1) rfl (by leaf_len) (by decide) (by decide)) (v_lst (l_cons (v_callB (c_isaH c (T.xh_InvalidCount _)) (by rfl) T.z_isinstance (by decide +kernel) (l_cons (v_var (i := 0) rfl (by leaf_len) (by decide) (by decide)) (l_cons (v_glob (by rfl) (glob_cls (c := 115) T.kx_TooMany) (by decide)) l_nil rfl) rfl) rfl (by decide) (by decide)) (l_cons (v_callB (c_isaH c (T.xh_InvalidCount _)) (by rfl) T.z_isinstance (by decide +kernel) (l_cons (v_var (i := 0) rfl (by leaf_len) (by decide) (by decide)) (l_cons (v_glob (by rfl) (glob_cls (c := 116) T.kx_Broken) (by decide)) l_nil rfl) rfl) rfl (by decide) (by decide)) l_nil rfl) rfl) (by decide))) rfl (.inl rfl)) (ss_cons (s_setH (i := 1) c rfl (by mem_news) (v_bin (o_add c.cK) (v_var (i := 1) rfl (by leaf_len) (by decide) (by decide)) (v_lst (l_cons (v_callB (c_isaH c (T.xh_InvalidCount _)) (by rfl) T.z_isinstance (by decide +kernel) (l_cons (v_var (i := 0) rfl (by leaf_len) (by decide) (by decide)) (l_cons (v_glob (by rfl) (glob_cls (c := 117) T.kx_NoLimit) (by decide)) l_nil rfl) rfl) rfl (by decide) (by decide)) (l_cons (v_callB (c_isaH c (T.xh_InvalidCount _)) (by rfl) T.z_isinstance (by decide +kernel) (l_cons (v_var (i := 0) rfl (by leaf_len) (by decide) (by decide)) (l_cons (v_glob (by rfl) (glob_cls (c := 118) T.kx_NothingToUndo) (by decide)) l_nil rfl) rfl) rfl (by decide) (by decide)) l_nil rfl) rfl) (by decide))) rfl (.inl rfl)) (ss_cons (s_setH (i := 2) c rfl (by mem_news) (v_lst (l_cons (v_callB (c_isaH c (T.xh_InvalidCount _)) (by rfl) T.z_isinstance (by decide +kernel) (l_cons (v_var (i := 0) rfl (by leaf_len) (by decide) (by decide)) (l_cons (v_glob (by rfl) (glob_cls (c := 120) T.kx_WrongValue) (by decide)) l_nil rfl) rfl) rfl (by decide) (by decide)) (l_cons (v_callB (c_isaH c (T.xh_InvalidCount _)) (by rfl) T.z_isinstance (by decide +kernel) (l_cons (v_var (i := 0) rfl (by leaf_len) (by decide) (by decide)) (l_cons (v_glob (by rfl) (glob_cls (c := 121) T.kx_WrongName) (by decide)) l_nil rfl) rfl) rfl (by decide) (by decide)) (l_cons (v_callB (c_isaH c (T.xh_InvalidCount _)) (by rfl) T.z_isinstance (by decide +kernel) (l_cons (v_var (i := 0) rfl (by leaf_len) (by decide) (by decide)) (l_cons (v_glob (by rfl) (glob_cls (c := 122) T.kx_NoAnswer) (by decide)) l_nil rfl) rfl) rfl (by decide) (by decide)) l_nil rfl) rfl) rfl) (by decide)) rfl (.inl rfl)) (ss_cons (s_setH (i := 2) c rfl (by mem_news) (v_bin (o_add c.cK) (v_var (i := 2) rfl (by leaf_len) (by decide) (by decide)) (v_lst (l_cons (v_callB (c_isaH c (T.xh_InvalidCount _)) (by rfl) T.z_isinstance (by decide +kernel) (l_cons (v_var (i := 0) rfl (by leaf_len) (by decide) (by decide)) (l_cons (v_tyX (n := "ValueError") (by rfl) T.zx_ValueError (by decide +kernel) (by decide) (by decide)) l_nil rfl) rfl) rfl (by decide) (by decide)) (l_cons (v_callB (c_isaH c (T.xh_InvalidCount _)) (by rfl) T.z_isinstance (by decide +kernel) (l_cons (v_var (i := 0) rfl (by leaf_len) (by decide) (by decide)) (l_cons (v_tyX (n := "LookupError") (by rfl) T.zx_LookupError (by decide +kernel) (by decide) (by decide)) l_nil rfl) rfl) rfl (by decide) (by decide)) (l_cons (v_callB (c_isaH c (T.xh_InvalidCount _)) (by rfl) T.z_isinstance (by decide +kernel) (l_cons (v_var (i := 0) rfl (by leaf_len) (by decide) (by decide)) (l_cons (v_tyX (n := "ArithmeticError") (by rfl) T.zx_ArithmeticError (by decide +kernel) (by decide) (by decide)) l_nil rfl) rfl) rfl (by decide) (by decide)) l_nil rfl) rfl) rfl) (by decide))) rfl (.inl rfl)) (ss_cons (s_ret (v_bin (o_add c.cK) (v_lcH c (own := [("_law_at", 3)]) (i_rng1H (by rfl) T.z_range (l_cons v_int l_nil rfl) rfl) (blkOk_by (N := ["_law_e", "_law_found", "_law_above", "_law_at"]) (sc := defScope st__law_classes) (by decide +kernel)) (fun s H C cl fp o => (p_name (i := 3) c.nd rfl (by mem_news) (.inr rfl))) (fun s H C cl fp o => (t_one (b_val (v_ix c.cK (v_var (i := 1) rfl (by leaf_len) (by decide) (by decide)) (v_var (i := 3) rfl (by leaf_len) (by decide) (by decide)) rfl) (fun _ => rfl)))) (fun s H C cl fp o => (v_var (i := 3) rfl (by leaf_len) (by decide) (by decide))) rfl (by decide)) (v_lcH c (own := [("_law_at", 3)]) (i_rng1H (by rfl) T.z_range (l_cons v_int l_nil rfl) rfl) (blkOk_by (N := ["_law_e", "_law_found", "_law_above", "_law_at"]) (sc := defScope st__law_classes) (by decide +kernel)) (fun s H C cl fp o => (p_name (i := 3) c.nd rfl (by mem_news) (.inr rfl))) (fun s H C cl fp o => (t_one (b_val (v_ix c.cK (v_var (i := 2) rfl (by leaf_len) (by decide) (by decide)) (v_var (i := 3) rfl (by leaf_len) (by decide) (by decide)) rfl) (fun _ => rfl)))) (fun s H C cl fp o => (v_bin (o_add c.cK) v_int (v_var (i := 3) rfl (by leaf_len) (by decide) (by decide)))) rfl (by decide)))) ss_nil))))))))))⟩
theorem okh__law_classes_InvalidCount (T : Facts P w K mg base ad) : FnHA P w K mg base (GG true K ad) 1 (ad 43) (ad 1103) (fun a dd => runFn 1 4 (pkh__law_classes_InvalidCount.1 a dd)) := by
  obtain ⟨fd, F⟩ := T.f__law_classes
  exact fnh_rule F sc__law_classes (F.binds fun _ _ _ _ _ _ us hl => match us, hl with | [_], _ => rfl) rfl (pkh__law_classes_InvalidCount.2 P w K mg base ad T) rfl rfl (by decide)
theorem cod_InvalidCount : ∀ (a dd : Addr) (d : D) (S : List Ob), runFn 1 4 (pkh__law_classes_InvalidCount.1 a dd) [.raw (.ref a) dd ["given"] [d]] S = some (.ok (.lst [.int 3, .int 20, .int 23]), S) := by
  intro a dd d S
  simp [runFn, pkh__law_classes_InvalidCount, seqS, asgS, exS, setT, getv, slots, M.bind, M.pure, on2, isaH_at, isaC, isS, isB, dAdd, lim]
  rfl
def pkh__law_classes_InvalidText : Σ' ms : Addr → Addr → MS, ∀ (P : Program) (w : World) (K : PySem.W.Frag) (mg : Str → Option Value) (base : Heap) (ad : Nat → Addr), Facts P w K mg base ad → BodyH P w K mg base (GG true K ad) 0 (ad 43) (ad 1105) ["_law_e", "_law_found", "_law_above", "_law_at"] "_law_classes" st__law_classes ms :=
  ⟨_, fun P w K mg base ad T cdv A fr s H a dd o c => ss_cons (s_setH (i := 1) c rfl (by mem_news) (v_lst (l_cons (v_callB (c_isaH c (T.xh_InvalidText _)) (by rfl) T.z_isinstance (by decide +kernel) (l_cons (v_var (i := 0) rfl (by leaf_len) (by decide) (by decide)) (l_cons (v_glob (by rfl) (glob_cls (c := 100) T.kx_NotAPattern) (by decide)) l_nil rfl) rfl) rfl (by decide) (by decide)) (l_cons (v_callB (c_isaH c (T.xh_InvalidText _)) (by rfl) T.z_isinstance (by decide +kernel) (l_cons (v_var (i := 0) rfl (by leaf_len) (by decide) (by decide)) (l_cons (v_glob (by rfl) (glob_cls (c := 101) T.kx_NotARun) (by decide)) l_nil rfl) rfl) rfl (by decide) (by decide)) l_nil rfl) rfl) (by decide)) rfl (.inl rfl)) (ss_cons (s_setH (i := 1) c rfl (by mem_news) (v_bin (o_add c.cK) (v_var (i := 1) rfl (by leaf_len) (by decide) (by decide)) (v_lst (l_cons (v_callB (c_isaH c (T.xh_InvalidText _)) (by rfl) T.z_isinstance (by decide +kernel) (l_cons (v_var (i := 0) rfl (by leaf_len) (by decide) (by decide)) (l_cons (v_glob (by rfl) (glob_cls (c := 102) T.kx_InvalidResistance) (by decide)) l_nil rfl) rfl) rfl (by decide) (by decide)) (l_cons (v_callB (c_isaH c (T.xh_InvalidText _)) (by rfl) T.z_isinstance (by decide +kernel) (l_cons (v_var (i := 0) rfl (by leaf_len) (by decide) (by decide)) (l_cons (v_glob (by rfl) (glob_cls (c := 103) T.kx_InvalidCount) (by decide)) l_nil rfl) rfl) rfl (by decide) (by decide)) l_nil rfl) rfl) (by decide))) rfl (.inl rfl)) (ss_cons (s_setH (i := 1) c rfl (by mem_news) (v_bin (o_add c.cK) (v_var (i := 1) rfl (by leaf_len) (by decide) (by decide)) (v_lst (l_cons (v_callB (c_isaH c (T.xh_InvalidText _)) (by rfl) T.z_isinstance (by decide +kernel) (l_cons (v_var (i := 0) rfl (by leaf_len) (by decide) (by decide)) (l_cons (v_glob (by rfl) (glob_cls (c := 104) T.kx_InvalidNumber) (by decide)) l_nil rfl) rfl) rfl (by decide) (by decide)) (l_cons (v_callB (c_isaH c (T.xh_InvalidText _)) (by rfl) T.z_isinstance (by decide +kernel) (l_cons (v_var (i := 0) rfl (by leaf_len) (by decide) (by decide)) (l_cons (v_glob (by rfl) (glob_cls (c := 105) T.kx_InvalidText) (by decide)) l_nil rfl) rfl) rfl (by decide) (by decide)) (l_cons (v_callB (c_isaH c (T.xh_InvalidText _)) (by rfl) T.z_isinstance (by decide +kernel) (l_cons (v_var (i := 0) rfl (by leaf_len) (by decide) (by decide)) (l_cons (v_glob (by rfl) (glob_cls (c := 106) T.kx_InvalidName) (by decide)) l_nil rfl) rfl) rfl (by decide) (by decide)) l_nil rfl) rfl) rfl) (by decide))) rfl (.inl rfl)) (ss_cons (s_setH (i := 1) c rfl (by mem_news) (v_bin (o_add c.cK) (v_var (i := 1) rfl (by leaf_len) (by decide) (by decide)) (v_lst (l_cons (v_callB (c_isaH c (T.xh_InvalidText _)) (by rfl) T.z_isinstance (by decide +kernel) (l_cons (v_var (i := 0) rfl (by leaf_len) (by decide) (by decide)) (l_cons (v_glob (by rfl) (glob_cls (c := 107) T.kx_InvalidClaim) (by decide)) l_nil rfl) rfl) rfl (by decide) (by decide)) (l_cons (v_callB (c_isaH c (T.xh_InvalidText _)) (by rfl) T.z_isinstance (by decide +kernel) (l_cons (v_var (i := 0) rfl (by leaf_len) (by decide) (by decide)) (l_cons (v_glob (by rfl) (glob_cls (c := 108) T.kx_InvalidIndex) (by decide)) l_nil rfl) rfl) rfl (by decide) (by decide)) l_nil rfl) rfl) (by decide))) rfl (.inl rfl)) (ss_cons (s_setH (i := 1) c rfl (by mem_news) (v_bin (o_add c.cK) (v_var (i := 1) rfl (by leaf_len) (by decide) (by decide)) (v_lst (l_cons (v_callB (c_isaH c (T.xh_InvalidText _)) (by rfl) T.z_isinstance (by decide +kernel) (l_cons (v_var (i := 0) rfl (by leaf_len) (by decide) (by decide)) (l_cons (v_glob (by rfl) (glob_cls (c := 109) T.kx_InvalidPieces) (by decide)) l_nil rfl) rfl) rfl (by decide) (by decide)) (l_cons (v_callB (c_isaH c (T.xh_InvalidText _)) (by rfl) T.z_isinstance (by decide +kernel) (l_cons (v_var (i := 0) rfl (by leaf_len) (by decide) (by decide)) (l_cons (v_glob (by rfl) (glob_cls (c := 110) T.kx_InvalidKinds) (by decide)) l_nil rfl) rfl) rfl (by decide) (by decide)) (l_cons (v_callB (c_isaH c (T.xh_InvalidText _)) (by rfl) T.z_isinstance (by decide +kernel) (l_cons (v_var (i := 0) rfl (by leaf_len) (by decide) (by decide)) (l_cons (v_glob (by rfl) (glob_cls (c := 111) T.kx_InvalidStretches) (by decide)) l_nil rfl) rfl) rfl (by decide) (by decide)) l_nil rfl) rfl) rfl) (by decide))) rfl (.inl rfl)) (ss_cons (s_setH (i := 1) c rfl (by mem_news) (v_bin (o_add c.cK) (v_var (i := 1) rfl (by leaf_len) (by decide) (by decide)) (v_lst (l_cons (v_callB (c_isaH c (T.xh_InvalidText _)) (by rfl) T.z_isinstance (by decide +kernel) (l_cons (v_var (i := 0) rfl (by leaf_len) (by decide) (by decide)) (l_cons (v_glob (by rfl) (glob_cls (c := 112) T.kx_InvalidDeeds) (by decide)) l_nil rfl) rfl) rfl (by decide) (by decide)) (l_cons (v_callB (c_isaH c (T.xh_InvalidText _)) (by rfl) T.z_isinstance (by decide +kernel) (l_cons (v_var (i := 0) rfl (by leaf_len) (by decide) (by decide)) (l_cons (v_glob (by rfl) (glob_cls (c := 113) T.kx_UnknownName) (by decide)) l_nil rfl) rfl) rfl (by decide) (by decide)) (l_cons (v_callB (c_isaH c (T.xh_InvalidText _)) (by rfl) T.z_isinstance (by decide +kernel) (l_cons (v_var (i := 0) rfl (by leaf_len) (by decide) (by decide)) (l_cons (v_glob (by rfl) (glob_cls (c := 114) T.kx_InUse) (by decide)) l_nil rfl) rfl) rfl (by decide) (by decide)) l_nil rfl) rfl) rfl) (by decide))) rfl (.inl rfl)) (ss_cons (s_setH (i := 1) c rfl (by mem_news) (v_bin (o_add c.cK) (v_var (i := 1) rfl (by leaf_len) (by decide) (by decide)) (v_lst (l_cons (v_callB (c_isaH c (T.xh_InvalidText _)) (by rfl) T.z_isinstance (by decide +kernel) (l_cons (v_var (i := 0) rfl (by leaf_len) (by decide) (by decide)) (l_cons (v_glob (by rfl) (glob_cls (c := 115) T.kx_TooMany) (by decide)) l_nil rfl) rfl) rfl (by decide) (by decide)) (l_cons (v_callB (c_isaH c (T.xh_InvalidText _)) (by rfl) T.z_isinstance (by decide +kernel) (l_cons (v_var (i := 0) rfl (by leaf_len) (by decide) (by decide)) (l_cons (v_glob (by rfl) (glob_cls (c := 116) T.kx_Broken) (by decide)) l_nil rfl) rfl) rfl (by decide) (by decide)) l_nil rfl) rfl) (by decide))) rfl (.inl rfl)) (ss_cons (s_setH (i := 1) c rfl (by mem_news) (v_bin (o_add c.cK) (v_var (i := 1) rfl (by leaf_len) (by decide) (by decide)) (v_lst (l_cons (v_callB (c_isaH c (T.xh_InvalidText _)) (by rfl) T.z_isinstance (by decide +kernel) (l_cons (v_var (i := 0) rfl (by leaf_len) (by decide) (by decide)) (l_cons (v_glob (by rfl) (glob_cls (c := 117) T.kx_NoLimit) (by decide)) l_nil rfl) rfl) rfl (by decide) (by decide)) (l_cons (v_callB (c_isaH c (T.xh_InvalidText _)) (by rfl) T.z_isinstance (by decide +kernel) (l_cons (v_var (i := 0) rfl (by leaf_len) (by decide) (by decide)) (l_cons (v_glob (by rfl) (glob_cls (c := 118) T.kx_NothingToUndo) (by decide)) l_nil rfl) rfl) rfl (by decide) (by decide)) l_nil rfl) rfl) (by decide))) rfl (.inl rfl)) (ss_cons (s_setH (i := 2) c rfl (by mem_news) (v_lst (l_cons (v_callB (c_isaH c (T.xh_InvalidText _)) (by rfl) T.z_isinstance (by decide +kernel) (l_cons (v_var (i := 0) rfl (by leaf_len) (by decide) (by decide)) (l_cons (v_glob (by rfl) (glob_cls (c := 120) T.kx_WrongValue) (by decide)) l_nil rfl) rfl) rfl (by decide) (by decide)) (l_cons (v_callB (c_isaH c (T.xh_InvalidText _)) (by rfl) T.z_isinstance (by decide +kernel) (l_cons (v_var (i := 0) rfl (by leaf_len) (by decide) (by decide)) (l_cons (v_glob (by rfl) (glob_cls (c := 121) T.kx_WrongName) (by decide)) l_nil rfl) rfl) rfl (by decide) (by decide)) (l_cons (v_callB (c_isaH c (T.xh_InvalidText _)) (by rfl) T.z_isinstance (by decide +kernel) (l_cons (v_var (i := 0) rfl (by leaf_len) (by decide) (by decide)) (l_cons (v_glob (by rfl) (glob_cls (c := 122) T.kx_NoAnswer) (by decide)) l_nil rfl) rfl) rfl (by decide) (by decide)) l_nil rfl) rfl) rfl) (by decide)) rfl (.inl rfl)) (ss_cons (s_setH (i := 2) c rfl (by mem_news) (v_bin (o_add c.cK) (v_var (i := 2) rfl (by leaf_len) (by decide) (by decide)) (v_lst (l_cons (v_callB (c_isaH c (T.xh_InvalidText _)) (by rfl) T.z_isinstance (by decide +kernel) (l_cons (v_var (i := 0) rfl (by leaf_len) (by decide) (by decide)) (l_cons (v_tyX (n := "ValueError") (by rfl) T.zx_ValueError (by decide +kernel) (by decide) (by decide)) l_nil rfl) rfl) rfl (by decide) (by decide)) (l_cons (v_callB (c_isaH c (T.xh_InvalidText _)) (by rfl) T.z_isinstance (by decide +kernel) (l_cons (v_var (i := 0) rfl (by leaf_len) (by decide) (by decide)) (l_cons (v_tyX (n := "LookupError") (by rfl) T.zx_LookupError (by decide +kernel) (by decide) (by decide)) l_nil rfl) rfl) rfl (by decide) (by decide)) (l_cons (v_callB (c_isaH c (T.xh_InvalidText _)) (by rfl) T.z_isinstance (by decide +kernel) (l_cons (v_var (i := 0) rfl (by leaf_len) (by decide) (by decide)) (l_cons (v_tyX (n := "ArithmeticError") (by rfl) T.zx_ArithmeticError (by decide +kernel) (by decide) (by decide)) l_nil rfl) rfl) rfl (by decide) (by decide)) l_nil rfl) rfl) rfl) (by decide))) rfl (.inl rfl)) (ss_cons (s_ret (v_bin (o_add c.cK) (v_lcH c (own := [("_law_at", 3)]) (i_rng1H (by rfl) T.z_range (l_cons v_int l_nil rfl) rfl) (blkOk_by (N := ["_law_e", "_law_found", "_law_above", "_law_at"]) (sc := defScope st__law_classes) (by decide +kernel)) (fun s H C cl fp o => (p_name (i := 3) c.nd rfl (by mem_news) (.inr rfl))) (fun s H C cl fp o => (t_one (b_val (v_ix c.cK (v_var (i := 1) rfl (by leaf_len) (by decide) (by decide)) (v_var (i := 3) rfl (by leaf_len) (by decide) (by decide)) rfl) (fun _ => rfl)))) (fun s H C cl fp o => (v_var (i := 3) rfl (by leaf_len) (by decide) (by decide))) rfl (by decide)) (v_lcH c (own := [("_law_at", 3)]) (i_rng1H (by rfl) T.z_range (l_cons v_int l_nil rfl) rfl) (blkOk_by (N := ["_law_e", "_law_found", "_law_above", "_law_at"]) (sc := defScope st__law_classes) (by decide +kernel)) (fun s H C cl fp o => (p_name (i := 3) c.nd rfl (by mem_news) (.inr rfl))) (fun s H C cl fp o => (t_one (b_val (v_ix c.cK (v_var (i := 2) rfl (by leaf_len) (by decide) (by decide)) (v_var (i := 3) rfl (by leaf_len) (by decide) (by decide)) rfl) (fun _ => rfl)))) (fun s H C cl fp o => (v_bin (o_add c.cK) v_int (v_var (i := 3) rfl (by leaf_len) (by decide) (by decide)))) rfl (by decide)))) ss_nil))))))))))⟩
theorem okh__law_classes_InvalidText (T : Facts P w K mg base ad) : FnHA P w K mg base (GG true K ad) 1 (ad 43) (ad 1105) (fun a dd => runFn 1 4 (pkh__law_classes_InvalidText.1 a dd)) := by
  obtain ⟨fd, F⟩ := T.f__law_classes
  exact fnh_rule F sc__law_classes (F.binds fun _ _ _ _ _ _ us hl => match us, hl with | [_], _ => rfl) rfl (pkh__law_classes_InvalidText.2 P w K mg base ad T) rfl rfl (by decide)
theorem cod_InvalidText : ∀ (a dd : Addr) (d : D) (S : List Ob), runFn 1 4 (pkh__law_classes_InvalidText.1 a dd) [.raw (.ref a) dd ["given"] [d]] S = some (.ok (.lst [.int 5, .int 20, .int 23]), S) := by
  intro a dd d S
  simp [runFn, pkh__law_classes_InvalidText, seqS, asgS, exS, setT, getv, slots, M.bind, M.pure, on2, isaH_at, isaC, isS, isB, dAdd, lim]
  rfl
def pks__law_caught_NotAPattern : Σ' m : Addr → Addr → MS, ∀ (P : Program) (w : World) (K : PySem.W.Frag) (mg : Str → Option Value) (base : Heap) (ad : Nat → Addr), Facts P w K mg base ad → ∀ (k : Nat) (cdv : Value) (A : Around) (fr : List Env) (s : Shared) (H : Hp) (a : Addr) (oe : Obj) (dd : Addr) (pn : List (Addr × Obj)), CtxH (GG true K ad) ((XC P w K mg base ["_law_act", "_law_e", "_law_found"] "_law_caught" st__law_caught (ad 44) cdv A fr s H).nox.suite a ((a, oe) :: pn)) (k + 1) a dd (ad 1100) →
    PSsV (GG true K ad) ((XC P w K mg base ["_law_act", "_law_e", "_law_found"] "_law_caught" st__law_caught (ad 44) cdv A fr s H).nox.suite a ((a, oe) :: pn)) NoW (excSuite st__law_caught) (m a dd) :=
  ⟨_, fun P w K mg base ad T k cdv A fr s H a oe dd pn c => ss_cons (s_setH (i := 2) c rfl (by mem_news) (v_callH c ((okh__law_classes_NotAPattern T).mono (by omega)) (by rfl) T.g__law_classes (l_cons (v_var (i := 1) rfl (by leaf_len) (by decide) (by decide)) l_nil rfl) rfl (by decide)) rfl (.inl rfl)) (ss_cons (s_if (b_of (w_or (b_cmp o_lt (v_ix c.cK (v_var (i := 2) rfl (by leaf_len) (by decide) (by decide)) v_int rfl) v_int rfl) (w_or1 (b_cmp o_eqI (v_ix c.cK (v_var (i := 2) rfl (by leaf_len) (by decide) (by decide)) v_int rfl) v_int rfl)))) (ss_cons (s_ret (v_bin (o_add c.cK) (v_var (i := 2) rfl (by leaf_len) (by decide) (by decide)) (v_lst (l_cons (v_callB (c_reprH c rfl) (by rfl) T.z_repr (by decide +kernel) (l_cons (v_attrH c T.xf_NotAPattern T.xn_NotAPattern_given (v_var (i := 1) rfl (by leaf_len) (by decide) (by decide)) rfl) l_nil rfl) rfl (by decide) (by decide)) l_nil rfl) (by decide)))) ss_nil) (ss_nil)) (ss_cons (s_if (b_cmp o_eqI (v_ix c.cK (v_var (i := 2) rfl (by leaf_len) (by decide) (by decide)) v_int rfl) v_int rfl) (ss_cons (s_ret (v_bin (o_add c.cK) (v_var (i := 2) rfl (by leaf_len) (by decide) (by decide)) (v_lst (l_cons (v_callB (c_reprH c rfl) (by rfl) T.z_repr (by decide +kernel) (l_cons (v_attrH c T.xf_NotAPattern T.xn_NotAPattern_most (v_var (i := 1) rfl (by leaf_len) (by decide) (by decide)) rfl) l_nil rfl) rfl (by decide) (by decide)) l_nil rfl) (by decide)))) ss_nil) (ss_nil)) (ss_cons (s_ret (v_ite (b_cmp o_lt (v_ix c.cK (v_var (i := 2) rfl (by leaf_len) (by decide) (by decide)) v_int rfl) v_int rfl) (v_bin (o_add c.cK) (v_var (i := 2) rfl (by leaf_len) (by decide) (by decide)) (v_lst (l_cons (v_callB (c_reprH c rfl) (by rfl) T.z_repr (by decide +kernel) (l_cons (v_attrH c T.xf_NotAPattern T.xn_NotAPattern_index (v_var (i := 1) rfl (by leaf_len) (by decide) (by decide)) rfl) l_nil rfl) rfl (by decide) (by decide)) l_nil rfl) (by decide))) (v_var (i := 2) rfl (by leaf_len) (by decide) (by decide)))) ss_nil)))⟩
theorem tel_NotAPattern : ∀ (a dd : Addr) (d u : D) (S : List Ob), dRepr d = M.pure u → pks__law_caught_NotAPattern.1 a dd ((slots 3 []).set 1 (.val (.raw (.ref a) dd ["given"] [d]))) S = some (.ret (.lst [.int 0, .int 20, .int 23, u]), S) := by
  intro a dd d u S h
  simp [pks__law_caught_NotAPattern, seqS, asgS, exS, setT, getv, slots, M.bind, M.pure, noErr, cod_NotAPattern, on1, attrH_at, dIx, atI, dCmpI, dEqI, toB, h, dAdd, lim, retS, show ixN 3 0 = some 0 from rfl, nextS]
def pks__law_caught_InvalidResistance : Σ' m : Addr → Addr → MS, ∀ (P : Program) (w : World) (K : PySem.W.Frag) (mg : Str → Option Value) (base : Heap) (ad : Nat → Addr), Facts P w K mg base ad → ∀ (k : Nat) (cdv : Value) (A : Around) (fr : List Env) (s : Shared) (H : Hp) (a : Addr) (oe : Obj) (dd : Addr) (pn : List (Addr × Obj)), CtxH (GG true K ad) ((XC P w K mg base ["_law_act", "_law_e", "_law_found"] "_law_caught" st__law_caught (ad 44) cdv A fr s H).nox.suite a ((a, oe) :: pn)) (k + 1) a dd (ad 1102) →
    PSsV (GG true K ad) ((XC P w K mg base ["_law_act", "_law_e", "_law_found"] "_law_caught" st__law_caught (ad 44) cdv A fr s H).nox.suite a ((a, oe) :: pn)) NoW (excSuite st__law_caught) (m a dd) :=
  ⟨_, fun P w K mg base ad T k cdv A fr s H a oe dd pn c => ss_cons (s_setH (i := 2) c rfl (by mem_news) (v_callH c ((okh__law_classes_InvalidResistance T).mono (by omega)) (by rfl) T.g__law_classes (l_cons (v_var (i := 1) rfl (by leaf_len) (by decide) (by decide)) l_nil rfl) rfl (by decide)) rfl (.inl rfl)) (ss_cons (s_if (b_of (w_or (b_cmp o_lt (v_ix c.cK (v_var (i := 2) rfl (by leaf_len) (by decide) (by decide)) v_int rfl) v_int rfl) (w_or1 (b_cmp o_eqI (v_ix c.cK (v_var (i := 2) rfl (by leaf_len) (by decide) (by decide)) v_int rfl) v_int rfl)))) (ss_cons (s_ret (v_bin (o_add c.cK) (v_var (i := 2) rfl (by leaf_len) (by decide) (by decide)) (v_lst (l_cons (v_callB (c_reprH c rfl) (by rfl) T.z_repr (by decide +kernel) (l_cons (v_attrH c T.xf_InvalidResistance T.xn_InvalidResistance_given (v_var (i := 1) rfl (by leaf_len) (by decide) (by decide)) rfl) l_nil rfl) rfl (by decide) (by decide)) l_nil rfl) (by decide)))) ss_nil) (ss_nil)) (ss_cons (s_if (b_cmp o_eqI (v_ix c.cK (v_var (i := 2) rfl (by leaf_len) (by decide) (by decide)) v_int rfl) v_int rfl) (ss_cons (s_ret (v_bin (o_add c.cK) (v_var (i := 2) rfl (by leaf_len) (by decide) (by decide)) (v_lst (l_cons (v_callB (c_reprH c rfl) (by rfl) T.z_repr (by decide +kernel) (l_cons (v_attrH c T.xf_InvalidResistance T.xn_InvalidResistance_most (v_var (i := 1) rfl (by leaf_len) (by decide) (by decide)) rfl) l_nil rfl) rfl (by decide) (by decide)) l_nil rfl) (by decide)))) ss_nil) (ss_nil)) (ss_cons (s_ret (v_ite (b_cmp o_lt (v_ix c.cK (v_var (i := 2) rfl (by leaf_len) (by decide) (by decide)) v_int rfl) v_int rfl) (v_bin (o_add c.cK) (v_var (i := 2) rfl (by leaf_len) (by decide) (by decide)) (v_lst (l_cons (v_callB (c_reprH c rfl) (by rfl) T.z_repr (by decide +kernel) (l_cons (v_attrH c T.xf_InvalidResistance T.xn_InvalidResistance_index (v_var (i := 1) rfl (by leaf_len) (by decide) (by decide)) rfl) l_nil rfl) rfl (by decide) (by decide)) l_nil rfl) (by decide))) (v_var (i := 2) rfl (by leaf_len) (by decide) (by decide)))) ss_nil)))⟩
theorem tel_InvalidResistance : ∀ (a dd : Addr) (d u : D) (S : List Ob), dRepr d = M.pure u → pks__law_caught_InvalidResistance.1 a dd ((slots 3 []).set 1 (.val (.raw (.ref a) dd ["given"] [d]))) S = some (.ret (.lst [.int 2, .int 20, .int 23, u]), S) := by
  intro a dd d u S h
  simp [pks__law_caught_InvalidResistance, seqS, asgS, exS, setT, getv, slots, M.bind, M.pure, noErr, cod_InvalidResistance, on1, attrH_at, dIx, atI, dCmpI, dEqI, toB, h, dAdd, lim, retS, show ixN 3 0 = some 0 from rfl, nextS]
def pks__law_caught_InvalidPieces : Σ' m : Addr → Addr → MS, ∀ (P : Program) (w : World) (K : PySem.W.Frag) (mg : Str → Option Value) (base : Heap) (ad : Nat → Addr), Facts P w K mg base ad → ∀ (k : Nat) (cdv : Value) (A : Around) (fr : List Env) (s : Shared) (H : Hp) (a : Addr) (oe : Obj) (dd : Addr) (pn : List (Addr × Obj)), CtxH (GG true K ad) ((XC P w K mg base ["_law_act", "_law_e", "_law_found"] "_law_caught" st__law_caught (ad 44) cdv A fr s H).nox.suite a ((a, oe) :: pn)) (k + 1) a dd (ad 1109) →
    PSsV (GG true K ad) ((XC P w K mg base ["_law_act", "_law_e", "_law_found"] "_law_caught" st__law_caught (ad 44) cdv A fr s H).nox.suite a ((a, oe) :: pn)) NoW (excSuite st__law_caught) (m a dd) :=
  ⟨_, fun P w K mg base ad T k cdv A fr s H a oe dd pn c => ss_cons (s_setH (i := 2) c rfl (by mem_news) (v_callH c ((okh__law_classes_InvalidPieces T).mono (by omega)) (by rfl) T.g__law_classes (l_cons (v_var (i := 1) rfl (by leaf_len) (by decide) (by decide)) l_nil rfl) rfl (by decide)) rfl (.inl rfl)) (ss_cons (s_if (b_of (w_or (b_cmp o_lt (v_ix c.cK (v_var (i := 2) rfl (by leaf_len) (by decide) (by decide)) v_int rfl) v_int rfl) (w_or1 (b_cmp o_eqI (v_ix c.cK (v_var (i := 2) rfl (by leaf_len) (by decide) (by decide)) v_int rfl) v_int rfl)))) (ss_cons (s_ret (v_bin (o_add c.cK) (v_var (i := 2) rfl (by leaf_len) (by decide) (by decide)) (v_lst (l_cons (v_callB (c_reprH c rfl) (by rfl) T.z_repr (by decide +kernel) (l_cons (v_attrH c T.xf_InvalidPieces T.xn_InvalidPieces_given (v_var (i := 1) rfl (by leaf_len) (by decide) (by decide)) rfl) l_nil rfl) rfl (by decide) (by decide)) l_nil rfl) (by decide)))) ss_nil) (ss_nil)) (ss_cons (s_if (b_cmp o_eqI (v_ix c.cK (v_var (i := 2) rfl (by leaf_len) (by decide) (by decide)) v_int rfl) v_int rfl) (ss_cons (s_ret (v_bin (o_add c.cK) (v_var (i := 2) rfl (by leaf_len) (by decide) (by decide)) (v_lst (l_cons (v_callB (c_reprH c rfl) (by rfl) T.z_repr (by decide +kernel) (l_cons (v_attrH c T.xf_InvalidPieces T.xn_InvalidPieces_most (v_var (i := 1) rfl (by leaf_len) (by decide) (by decide)) rfl) l_nil rfl) rfl (by decide) (by decide)) l_nil rfl) (by decide)))) ss_nil) (ss_nil)) (ss_cons (s_ret (v_ite (b_cmp o_lt (v_ix c.cK (v_var (i := 2) rfl (by leaf_len) (by decide) (by decide)) v_int rfl) v_int rfl) (v_bin (o_add c.cK) (v_var (i := 2) rfl (by leaf_len) (by decide) (by decide)) (v_lst (l_cons (v_callB (c_reprH c rfl) (by rfl) T.z_repr (by decide +kernel) (l_cons (v_attrH c T.xf_InvalidPieces T.xn_InvalidPieces_index (v_var (i := 1) rfl (by leaf_len) (by decide) (by decide)) rfl) l_nil rfl) rfl (by decide) (by decide)) l_nil rfl) (by decide))) (v_var (i := 2) rfl (by leaf_len) (by decide) (by decide)))) ss_nil)))⟩
theorem tel_InvalidPieces : ∀ (a dd : Addr) (d u : D) (S : List Ob), dRepr d = M.pure u → pks__law_caught_InvalidPieces.1 a dd ((slots 3 []).set 1 (.val (.raw (.ref a) dd ["index"] [d]))) S = some (.ret (.lst [.int 9, .int 20, .int 23, u]), S) := by
  intro a dd d u S h
  simp [pks__law_caught_InvalidPieces, seqS, asgS, exS, setT, getv, slots, M.bind, M.pure, noErr, cod_InvalidPieces, on1, attrH_at, dIx, atI, dCmpI, dEqI, toB, h, dAdd, lim, retS, show ixN 3 0 = some 0 from rfl, nextS]
def pks__law_caught_InvalidCount : Σ' m : Addr → Addr → MS, ∀ (P : Program) (w : World) (K : PySem.W.Frag) (mg : Str → Option Value) (base : Heap) (ad : Nat → Addr), Facts P w K mg base ad → ∀ (k : Nat) (cdv : Value) (A : Around) (fr : List Env) (s : Shared) (H : Hp) (a : Addr) (oe : Obj) (dd : Addr) (pn : List (Addr × Obj)), CtxH (GG true K ad) ((XC P w K mg base ["_law_act", "_law_e", "_law_found"] "_law_caught" st__law_caught (ad 44) cdv A fr s H).nox.suite a ((a, oe) :: pn)) (k + 1) a dd (ad 1103) →
    PSsV (GG true K ad) ((XC P w K mg base ["_law_act", "_law_e", "_law_found"] "_law_caught" st__law_caught (ad 44) cdv A fr s H).nox.suite a ((a, oe) :: pn)) NoW (excSuite st__law_caught) (m a dd) :=
  ⟨_, fun P w K mg base ad T k cdv A fr s H a oe dd pn c => ss_cons (s_setH (i := 2) c rfl (by mem_news) (v_callH c ((okh__law_classes_InvalidCount T).mono (by omega)) (by rfl) T.g__law_classes (l_cons (v_var (i := 1) rfl (by leaf_len) (by decide) (by decide)) l_nil rfl) rfl (by decide)) rfl (.inl rfl)) (ss_cons (s_if (b_of (w_or (b_cmp o_lt (v_ix c.cK (v_var (i := 2) rfl (by leaf_len) (by decide) (by decide)) v_int rfl) v_int rfl) (w_or1 (b_cmp o_eqI (v_ix c.cK (v_var (i := 2) rfl (by leaf_len) (by decide) (by decide)) v_int rfl) v_int rfl)))) (ss_cons (s_ret (v_bin (o_add c.cK) (v_var (i := 2) rfl (by leaf_len) (by decide) (by decide)) (v_lst (l_cons (v_callB (c_reprH c rfl) (by rfl) T.z_repr (by decide +kernel) (l_cons (v_attrH c T.xf_InvalidCount T.xn_InvalidCount_given (v_var (i := 1) rfl (by leaf_len) (by decide) (by decide)) rfl) l_nil rfl) rfl (by decide) (by decide)) l_nil rfl) (by decide)))) ss_nil) (ss_nil)) (ss_cons (s_if (b_cmp o_eqI (v_ix c.cK (v_var (i := 2) rfl (by leaf_len) (by decide) (by decide)) v_int rfl) v_int rfl) (ss_cons (s_ret (v_bin (o_add c.cK) (v_var (i := 2) rfl (by leaf_len) (by decide) (by decide)) (v_lst (l_cons (v_callB (c_reprH c rfl) (by rfl) T.z_repr (by decide +kernel) (l_cons (v_attrH c T.xf_InvalidCount T.xn_InvalidCount_most (v_var (i := 1) rfl (by leaf_len) (by decide) (by decide)) rfl) l_nil rfl) rfl (by decide) (by decide)) l_nil rfl) (by decide)))) ss_nil) (ss_nil)) (ss_cons (s_ret (v_ite (b_cmp o_lt (v_ix c.cK (v_var (i := 2) rfl (by leaf_len) (by decide) (by decide)) v_int rfl) v_int rfl) (v_bin (o_add c.cK) (v_var (i := 2) rfl (by leaf_len) (by decide) (by decide)) (v_lst (l_cons (v_callB (c_reprH c rfl) (by rfl) T.z_repr (by decide +kernel) (l_cons (v_attrH c T.xf_InvalidCount T.xn_InvalidCount_index (v_var (i := 1) rfl (by leaf_len) (by decide) (by decide)) rfl) l_nil rfl) rfl (by decide) (by decide)) l_nil rfl) (by decide))) (v_var (i := 2) rfl (by leaf_len) (by decide) (by decide)))) ss_nil)))⟩
theorem tel_InvalidCount : ∀ (a dd : Addr) (d u : D) (S : List Ob), dRepr d = M.pure u → pks__law_caught_InvalidCount.1 a dd ((slots 3 []).set 1 (.val (.raw (.ref a) dd ["given"] [d]))) S = some (.ret (.lst [.int 3, .int 20, .int 23, u]), S) := by
  intro a dd d u S h
  simp [pks__law_caught_InvalidCount, seqS, asgS, exS, setT, getv, slots, M.bind, M.pure, noErr, cod_InvalidCount, on1, attrH_at, dIx, atI, dCmpI, dEqI, toB, h, dAdd, lim, retS, show ixN 3 0 = some 0 from rfl, nextS]
def pks__law_caught_InvalidText : Σ' m : Addr → Addr → MS, ∀ (P : Program) (w : World) (K : PySem.W.Frag) (mg : Str → Option Value) (base : Heap) (ad : Nat → Addr), Facts P w K mg base ad → ∀ (k : Nat) (cdv : Value) (A : Around) (fr : List Env) (s : Shared) (H : Hp) (a : Addr) (oe : Obj) (dd : Addr) (pn : List (Addr × Obj)), CtxH (GG true K ad) ((XC P w K mg base ["_law_act", "_law_e", "_law_found"] "_law_caught" st__law_caught (ad 44) cdv A fr s H).nox.suite a ((a, oe) :: pn)) (k + 1) a dd (ad 1105) →
    PSsV (GG true K ad) ((XC P w K mg base ["_law_act", "_law_e", "_law_found"] "_law_caught" st__law_caught (ad 44) cdv A fr s H).nox.suite a ((a, oe) :: pn)) NoW (excSuite st__law_caught) (m a dd) :=
  ⟨_, fun P w K mg base ad T k cdv A fr s H a oe dd pn c => ss_cons (s_setH (i := 2) c rfl (by mem_news) (v_callH c ((okh__law_classes_InvalidText T).mono (by omega)) (by rfl) T.g__law_classes (l_cons (v_var (i := 1) rfl (by leaf_len) (by decide) (by decide)) l_nil rfl) rfl (by decide)) rfl (.inl rfl)) (ss_cons (s_if (b_of (w_or (b_cmp o_lt (v_ix c.cK (v_var (i := 2) rfl (by leaf_len) (by decide) (by decide)) v_int rfl) v_int rfl) (w_or1 (b_cmp o_eqI (v_ix c.cK (v_var (i := 2) rfl (by leaf_len) (by decide) (by decide)) v_int rfl) v_int rfl)))) (ss_cons (s_ret (v_bin (o_add c.cK) (v_var (i := 2) rfl (by leaf_len) (by decide) (by decide)) (v_lst (l_cons (v_callB (c_reprH c rfl) (by rfl) T.z_repr (by decide +kernel) (l_cons (v_attrH c T.xf_InvalidText T.xn_InvalidText_given (v_var (i := 1) rfl (by leaf_len) (by decide) (by decide)) rfl) l_nil rfl) rfl (by decide) (by decide)) l_nil rfl) (by decide)))) ss_nil) (ss_nil)) (ss_cons (s_if (b_cmp o_eqI (v_ix c.cK (v_var (i := 2) rfl (by leaf_len) (by decide) (by decide)) v_int rfl) v_int rfl) (ss_cons (s_ret (v_bin (o_add c.cK) (v_var (i := 2) rfl (by leaf_len) (by decide) (by decide)) (v_lst (l_cons (v_callB (c_reprH c rfl) (by rfl) T.z_repr (by decide +kernel) (l_cons (v_attrH c T.xf_InvalidText T.xn_InvalidText_most (v_var (i := 1) rfl (by leaf_len) (by decide) (by decide)) rfl) l_nil rfl) rfl (by decide) (by decide)) l_nil rfl) (by decide)))) ss_nil) (ss_nil)) (ss_cons (s_ret (v_ite (b_cmp o_lt (v_ix c.cK (v_var (i := 2) rfl (by leaf_len) (by decide) (by decide)) v_int rfl) v_int rfl) (v_bin (o_add c.cK) (v_var (i := 2) rfl (by leaf_len) (by decide) (by decide)) (v_lst (l_cons (v_callB (c_reprH c rfl) (by rfl) T.z_repr (by decide +kernel) (l_cons (v_attrH c T.xf_InvalidText T.xn_InvalidText_index (v_var (i := 1) rfl (by leaf_len) (by decide) (by decide)) rfl) l_nil rfl) rfl (by decide) (by decide)) l_nil rfl) (by decide))) (v_var (i := 2) rfl (by leaf_len) (by decide) (by decide)))) ss_nil)))⟩
theorem tel_InvalidText : ∀ (a dd : Addr) (d u : D) (S : List Ob), dRepr d = M.pure u → pks__law_caught_InvalidText.1 a dd ((slots 3 []).set 1 (.val (.raw (.ref a) dd ["given"] [d]))) S = some (.ret (.lst [.int 5, .int 20, .int 23, u]), S) := by
  intro a dd d u S h
  simp [pks__law_caught_InvalidText, seqS, asgS, exS, setT, getv, slots, M.bind, M.pure, noErr, cod_InvalidText, on1, attrH_at, dIx, atI, dCmpI, dEqI, toB, h, dAdd, lim, retS, show ixN 3 0 = some 0 from rfl, nextS]
def msX : Nat → Option (Addr → Addr → MS) := tab [(0, pks__law_caught_NotAPattern.1), (2, pks__law_caught_InvalidResistance.1), (9, pks__law_caught_InvalidPieces.1), (3, pks__law_caught_InvalidCount.1), (5, pks__law_caught_InvalidText.1)]
def tcX : Nat → D → M D := fun c d => match c with | 0 => tellM [0, 20, 23] d | 2 => tellM [2, 20, 23] d | 9 => tellM [9, 20, 23] d | 3 => tellM [3, 20, 23] d | 5 => tellM [5, 20, 23] d | _ => M.stuck
theorem tcX_at : ∀ (c : Nat) (d : D) (S : List Ob) (o : Except Exn D × List Ob), tcX c d S = some o → ∃ m u S', msX c = some m ∧ o = (.ok u, S') ∧ ∀ a dd, m a dd ((slots 3 []).set 1 (.val (.raw (.ref a) dd [xfld c] [d]))) S = some (.ret u, S') := by
  intro c d S o h
  unfold tcX at h
  split at h
  · obtain ⟨u, h1, rfl⟩ := tellM_at h
    exact ⟨_, _, _, rfl, rfl, fun a dd => tel_NotAPattern a dd d u S h1⟩
  · obtain ⟨u, h1, rfl⟩ := tellM_at h
    exact ⟨_, _, _, rfl, rfl, fun a dd => tel_InvalidResistance a dd d u S h1⟩
  · obtain ⟨u, h1, rfl⟩ := tellM_at h
    exact ⟨_, _, _, rfl, rfl, fun a dd => tel_InvalidPieces a dd d u S h1⟩
  · obtain ⟨u, h1, rfl⟩ := tellM_at h
    exact ⟨_, _, _, rfl, rfl, fun a dd => tel_InvalidCount a dd d u S h1⟩
  · obtain ⟨u, h1, rfl⟩ := tellM_at h
    exact ⟨_, _, _, rfl, rfl, fun a dd => tel_InvalidText a dd d u S h1⟩
  · cases h
theorem T_caught (T : Facts P w K mg base ad) (k : Nat) : CaughtT P w K mg base (GG true K ad) (k + 1) (ad 44) "_law_caught" "given" dRepr tcX := by
  obtain ⟨fd, F⟩ := T.f__law_caught
  refine ⟨fd, st__law_caught, ["_law_act", "_law_e", "_law_found"], "_law_act", "_law_e", "WrongValue", "WrongName", "NoAnswer", .ref (ad 1120), .ref (ad 1121), .ref (ad 1122), 1, _, _, msX, F, F.binds fun _ _ _ _ _ _ us hl => (match us, hl with | [_], _ => rfl), sc__law_caught, ⟨_, _, _, _, _, _, _, _, _, _, _, _, _, _, _, rfl⟩, rfl, by leaf_len, by decide, by decide, rfl, by decide, by decide +kernel, fun cdv A fr s H => ⟨⟨by rfl, by decide, .inl T.kx_WrongValue⟩, ⟨by rfl, by decide, .inl T.kx_WrongName⟩, ⟨by rfl, by decide, .inl T.kx_NoAnswer⟩, by rfl⟩, T.z_repr, fun cdv A fr s H pn xe c => c_repr c.cK c.rm, tcX_at, ?_⟩
  intro c m hc
  exact (show ∀ (n : Nat) (g : Addr → Addr → MS), tab _ n = some g → PySem.W.exmAny K (.ref (ad (1100 + n))) [.ref (ad 1120), .ref (ad 1121), .ref (ad 1122)] = some true ∧ ∀ (cdv : Value) (A : Around) (fr : List Env) (s : Shared) (H : Hp) (a : Addr) (oe : Obj) (dd : Addr) (pn : List (Addr × Obj)), Rm true (k + 1 + 1) (A.deeper (envOfC "_law_caught" (defScope st__law_caught) s.heap.objs.size (ad 44) cdv)) → L2N.Zn (.ref (ad (1100 + n))) (some dd) oe → (∃ vs, oe.data = .fields vs) → PSsV (GG true K ad) ((XC P w K mg base ["_law_act", "_law_e", "_law_found"] "_law_caught" st__law_caught (ad 44) cdv A fr s H).nox.suite a ((a, oe) :: pn)) NoW (excSuite st__law_caught) (g a dd) from (tab_cons ⟨T.xm_NotAPattern, fun cdv A fr s H a oe dd pn hr hz hv => pks__law_caught_NotAPattern.2 P w K mg base ad T _ cdv A fr s H a oe dd pn (ctxSu rfl sc__law_caught hr hz hv)⟩ (tab_cons ⟨T.xm_InvalidResistance, fun cdv A fr s H a oe dd pn hr hz hv => pks__law_caught_InvalidResistance.2 P w K mg base ad T _ cdv A fr s H a oe dd pn (ctxSu rfl sc__law_caught hr hz hv)⟩ (tab_cons ⟨T.xm_InvalidPieces, fun cdv A fr s H a oe dd pn hr hz hv => pks__law_caught_InvalidPieces.2 P w K mg base ad T _ cdv A fr s H a oe dd pn (ctxSu rfl sc__law_caught hr hz hv)⟩ (tab_cons ⟨T.xm_InvalidCount, fun cdv A fr s H a oe dd pn hr hz hv => pks__law_caught_InvalidCount.2 P w K mg base ad T _ cdv A fr s H a oe dd pn (ctxSu rfl sc__law_caught hr hz hv)⟩ (tab_cons ⟨T.xm_InvalidText, fun cdv A fr s H a oe dd pn hr hz hv => pks__law_caught_InvalidText.2 P w K mg base ad T _ cdv A fr s H a oe dd pn (ctxSu rfl sc__law_caught hr hz hv)⟩ tab_nil)))))) c m hc
def pk__law_sip : Σ' ms : MS, ∀ (P : Program) (w : World) (K : PySem.W.Frag) (mg : Str → Option Value) (base : Heap) (ad : Nat → Addr) (b : Bool), Facts P w K mg base ad → Body P w K mg base (GG b K ad) 0 (ad 24) ["_law_cup_here", "_law_many", "_law_part"] "_law_sip" st__law_sip ms :=
  ⟨_, fun P w K mg base ad b T cdv A fr s H E c => ss_cons (s_asg (v_bin (o_mod) (v_callTy (c_int) (by rfl) T.z_int (by decide +kernel) (l_cons (v_bin (o_add c.cK) (v_bin (o_mul c.cK) (v_ix c.cK (v_var (i := 0) rfl (by leaf_len) (by decide) (by decide)) v_int rfl) v_int) v_int) l_nil rfl) rfl (by decide) (by decide)) v_int) (g_item (W := WF E) (v_var (i := 0) rfl (by leaf_len) (by decide) (by decide)) v_int rfl) rfl rfl rfl) (ss_cons (s_if (b_cmp (o_gt) (v_ix c.cK (v_var (i := 0) rfl (by leaf_len) (by decide) (by decide)) v_int rfl) v_int rfl) (ss_cons (s_asg (v_callB (c_divmod) (by rfl) T.z_divmod (by decide +kernel) (l_cons (v_ix c.cK (v_var (i := 0) rfl (by leaf_len) (by decide) (by decide)) v_int rfl) (l_cons (v_var (i := 1) rfl (by leaf_len) (by decide) (by decide)) l_nil rfl) rfl) rfl (by decide) (by decide)) (g_tup c.cK c.calm (gs_cons (g_item (W := WF E) (v_var (i := 0) rfl (by leaf_len) (by decide) (by decide)) v_int rfl) (gs_cons (g_name (i := 2) c.nd rfl (by mem_news) (.inl rfl)) gs_nil rfl) rfl) rfl rfl) rfl rfl rfl) (ss_cons (s_ret (v_var (i := 2) rfl (by leaf_len) (by decide) (by decide))) ss_nil)) (ss_nil)) (ss_cons (s_ret (v_bin (o_mod) (v_callTy (c_int) (by rfl) T.z_int (by decide +kernel) (l_cons (v_bin (o_fdiv) (v_ix c.cK (v_var (i := 0) rfl (by leaf_len) (by decide) (by decide)) v_int rfl) v_int) l_nil rfl) rfl (by decide) (by decide)) (v_var (i := 1) rfl (by leaf_len) (by decide) (by decide)))) ss_nil))⟩
def sem__law_sip : List D → M D := runFn 2 3 pk__law_sip.1
theorem ok__law_sip (T : Facts P w K mg base ad) : FnA P w K mg base (GG b K ad) 2 (ad 24) sem__law_sip := by
  obtain ⟨fd, F⟩ := T.f__law_sip
  exact fna_rule F sc__law_sip (F.binds fun _ _ _ _ _ _ us hl => match us, hl with | [_, _], _ => rfl) rfl (pk__law_sip.2 P w K mg base ad b T) rfl rfl (by decide)
def pk__law_pick : Σ' ms : MS, ∀ (P : Program) (w : World) (K : PySem.W.Frag) (mg : Str → Option Value) (base : Heap) (ad : Nat → Addr) (b : Bool), Facts P w K mg base ad → Body P w K mg base (GG b K ad) 2 (ad 25) ["_law_cup_here", "_law_things"] "_law_pick" st__law_pick ms :=
  ⟨_, fun P w K mg base ad b T cdv A fr s H E c => ss_cons (s_ret (v_ix c.cK (v_var (i := 1) rfl (by leaf_len) (by decide) (by decide)) (v_calls (FnA.call c ((ok__law_sip T).mono (by decide))) (by rfl) T.g__law_sip (l_cons (v_var (i := 0) rfl (by leaf_len) (by decide) (by decide)) (l_cons (v_callB (c_len c.cK) (by rfl) T.z_len (by decide +kernel) (l_cons (v_var (i := 1) rfl (by leaf_len) (by decide) (by decide)) l_nil rfl) rfl (by decide) (by decide)) l_nil rfl) rfl) rfl (by decide)) rfl)) ss_nil⟩
def sem__law_pick : List D → M D := runFn 2 2 pk__law_pick.1
theorem ok__law_pick (T : Facts P w K mg base ad) : FnA P w K mg base (GG b K ad) 4 (ad 25) sem__law_pick := by
  obtain ⟨fd, F⟩ := T.f__law_pick
  exact fna_rule F sc__law_pick (F.binds fun _ _ _ _ _ _ us hl => match us, hl with | [_, _], _ => rfl) rfl (pk__law_pick.2 P w K mg base ad b T) rfl rfl (by decide)
def pk__law_nothing : Σ' ms : MS, ∀ (P : Program) (w : World) (K : PySem.W.Frag) (mg : Str → Option Value) (base : Heap) (ad : Nat → Addr) (b : Bool), Facts P w K mg base ad → Body P w K mg base (GG b K ad) 4 (ad 26) ["_law_cup_here", "_law_some"] "_law_nothing" st__law_nothing ms :=
  ⟨_, fun P w K mg base ad b T cdv A fr s H E c => ss_cons (s_set (i := 1) c rfl (by mem_news) (v_lst (l_cons v_none (l_cons v_bool (l_cons v_bool (l_cons v_str (l_cons v_str (l_cons (v_neg v_int) (l_cons (v_bin (o_add c.cK) (v_bin (o_pow) v_int v_int) v_int) (l_cons (v_tup (l_cons v_int l_nil rfl) (by decide)) (l_cons (v_tup (l_cons v_int (l_cons v_int (l_cons v_int l_nil rfl) rfl) rfl) (by decide)) (l_cons (v_lst (l_cons v_int (l_cons v_int l_nil rfl) rfl) (by decide)) (l_cons (v_tup (l_cons v_int (l_cons v_int l_nil rfl) rfl) (by decide)) (l_cons (v_tup (l_cons v_int (l_cons v_int l_nil rfl) rfl) (by decide)) (l_cons (v_tup (l_cons v_int (l_cons (v_neg v_int) l_nil rfl) rfl) (by decide)) (l_cons (v_tup (l_cons (v_neg v_int) (l_cons v_int l_nil rfl) rfl) (by decide)) l_nil rfl) rfl) rfl) rfl) rfl) rfl) rfl) rfl) rfl) rfl) rfl) rfl) rfl) rfl) (by decide)) rfl (.inl rfl)) (ss_cons (s_set (i := 1) c rfl (by mem_news) (v_bin (o_add c.cK) (v_var (i := 1) rfl (by leaf_len) (by decide) (by decide)) (v_lst (l_cons (v_tup (l_cons (v_bin (o_add c.cK) (v_bin (o_pow) v_int v_int) v_int) (l_cons v_int l_nil rfl) rfl) (by decide)) (l_cons (v_tup (l_cons v_int (l_cons (v_bin (o_add c.cK) (v_bin (o_pow) v_int v_int) v_int) l_nil rfl) rfl) (by decide)) (l_cons (v_tup (l_cons v_bool (l_cons v_int l_nil rfl) rfl) (by decide)) (l_cons (v_tup (l_cons v_int (l_cons v_bool l_nil rfl) rfl) (by decide)) (l_cons (v_tup (l_cons v_none (l_cons v_int l_nil rfl) rfl) (by decide)) (l_cons (v_tup (l_cons (v_tup (l_cons v_int (l_cons v_int l_nil rfl) rfl) (by decide)) (l_cons v_int l_nil rfl) rfl) (by decide)) (l_cons v_dict0 (l_cons (v_tup l_nil (by decide)) (l_cons (v_tup (l_cons v_int (l_cons v_str l_nil rfl) rfl) (by decide)) l_nil rfl) rfl) rfl) rfl) rfl) rfl) rfl) rfl) rfl) (by decide))) rfl (.inl rfl)) (ss_cons (s_ret (v_calls (FnA.call c ((ok__law_pick T).mono (by decide))) (by rfl) T.g__law_pick (l_cons (v_var (i := 0) rfl (by leaf_len) (by decide) (by decide)) (l_cons (v_var (i := 1) rfl (by leaf_len) (by decide) (by decide)) l_nil rfl) rfl) rfl (by decide))) ss_nil))⟩
def sem__law_nothing : List D → M D := runFn 1 2 pk__law_nothing.1
theorem ok__law_nothing (T : Facts P w K mg base ad) : FnA P w K mg base (GG b K ad) 6 (ad 26) sem__law_nothing := by
  obtain ⟨fd, F⟩ := T.f__law_nothing
  exact fna_rule F sc__law_nothing (F.binds fun _ _ _ _ _ _ us hl => match us, hl with | [_], _ => rfl) rfl (pk__law_nothing.2 P w K mg base ad b T) rfl rfl (by decide)
def pk_integer_in : Σ' ms : MS, ∀ (P : Program) (w : World) (K : PySem.W.Frag) (mg : Str → Option Value) (base : Heap) (ad : Nat → Addr) (b : Bool), Facts P w K mg base ad → Body P w K mg base (GG b K ad) 0 (ad 27) ["word", "digit"] "integer_in" st_integer_in ms :=
  ⟨_, fun P w K mg base ad b T cdv A fr s H E c => ss_cons (s_if (b_of (w_or (b_not (b_chain (o_le) (o_le) v_int (v_callB (c_len c.cK) (by rfl) T.z_len (by decide +kernel) (l_cons (v_var (i := 0) rfl (by leaf_len) (by decide) (by decide)) l_nil rfl) rfl (by decide) (by decide)) (v_glob (by rfl) (T.c_MOST_DIGITS _) (by decide)) rfl)) (w_or1 (b_val (v_callB (c_any c.calm) (by rfl) T.z_any (by decide +kernel) (l_cons (v_lc c (own := [("digit", 1)]) (i_str (v_var (i := 0) rfl (by leaf_len) (by decide) (by decide))) (blkOk_by (N := ["word", "digit"]) (sc := defScope st_integer_in) (by decide +kernel)) (fun s H C cl fp => blkP c fun c => (p_name (i := 1) c.nd rfl (by mem_news) (.inr rfl))) (fun s H C cl fp => blkT c fun c => t_nil) (fun s H C cl fp => blkV c fun c => (v_cmp (o_notin c.cK c.rm) (v_var (i := 1) rfl (by leaf_len) (by decide) (by decide)) (v_glob (by rfl) (T.c_DIGITS _) (by decide)) rfl)) rfl (by decide)) l_nil rfl) rfl (by decide) (by decide)) (fun _ => rfl))))) (ss_cons (s_ret v_none) ss_nil) (ss_nil)) (ss_cons (s_ret (v_ite (b_of (w_and (b_cmp (o_eq c.cK c.rm) (v_ix c.cK (v_var (i := 0) rfl (by leaf_len) (by decide) (by decide)) v_int rfl) v_str rfl) (w_and1 (b_cmp (o_ne c.cK c.rm) (v_var (i := 0) rfl (by leaf_len) (by decide) (by decide)) v_str rfl)))) v_none (v_callTy (c_int) (by rfl) T.z_int (by decide +kernel) (l_cons (v_var (i := 0) rfl (by leaf_len) (by decide) (by decide)) l_nil rfl) rfl (by decide) (by decide)))) ss_nil)⟩
def sem_integer_in : List D → M D := runFn 1 2 pk_integer_in.1
theorem ok_integer_in (T : Facts P w K mg base ad) : FnA P w K mg base (GG b K ad) 2 (ad 27) sem_integer_in := by
  obtain ⟨fd, F⟩ := T.f_integer_in
  exact fna_rule F sc_integer_in (F.binds fun _ _ _ _ _ _ us hl => match us, hl with | [_], _ => rfl) rfl (pk_integer_in.2 P w K mg base ad b T) rfl rfl (by decide)
def pk_piece_in : Σ' ms : MS, ∀ (P : Program) (w : World) (K : PySem.W.Frag) (mg : Str → Option Value) (base : Heap) (ad : Nat → Addr) (b : Bool), Facts P w K mg base ad → Body P w K mg base (GG b K ad) 4 (ad 28) ["text", "words", "ohms"] "piece_in" st_piece_in ms :=
  ⟨_, fun P w K mg base ad b T cdv A fr s H E c => ss_cons (s_set (i := 1) c rfl (by mem_news) (v_split (v_var (i := 0) rfl (by leaf_len) (by decide) (by decide)) v_str rfl rfl rfl) rfl (.inl rfl)) (ss_cons (s_if (b_of (w_or (b_cmp (o_ne c.cK c.rm) (v_callB (c_len c.cK) (by rfl) T.z_len (by decide +kernel) (l_cons (v_var (i := 1) rfl (by leaf_len) (by decide) (by decide)) l_nil rfl) rfl (by decide) (by decide)) v_int rfl) (w_or1 (b_cmp (o_notin c.cK c.rm) (v_ix c.cK (v_var (i := 1) rfl (by leaf_len) (by decide) (by decide)) v_int rfl) (v_glob (by rfl) (T.c_WORDS _) (by decide)) rfl)))) (ss_cons (s_ret v_none) ss_nil) (ss_nil)) (ss_cons (s_set (i := 2) c rfl (by mem_news) (v_calls (FnA.call c ((ok_integer_in T).mono (by decide))) (by rfl) T.g_integer_in (l_cons (v_ix c.cK (v_var (i := 1) rfl (by leaf_len) (by decide) (by decide)) v_int rfl) l_nil rfl) rfl (by decide)) rfl (.inl rfl)) (ss_cons (s_ret (v_ite (b_val (v_calls (FnA.call c ((ok_is_between T).mono (by decide))) (by rfl) T.g_is_between (l_cons (v_var (i := 2) rfl (by leaf_len) (by decide) (by decide)) (l_cons v_int (l_cons (v_glob (by rfl) (T.c_MOST_OHMS _) (by decide)) l_nil rfl) rfl) rfl) rfl (by decide)) (fun _ => rfl)) (v_tup (l_cons (v_ix c.cK (v_var (i := 1) rfl (by leaf_len) (by decide) (by decide)) v_int rfl) (l_cons (v_var (i := 2) rfl (by leaf_len) (by decide) (by decide)) l_nil rfl) rfl) (by decide)) v_none)) ss_nil)))⟩
def sem_piece_in : List D → M D := runFn 1 3 pk_piece_in.1
theorem ok_piece_in (T : Facts P w K mg base ad) : FnA P w K mg base (GG b K ad) 6 (ad 28) sem_piece_in := by
  obtain ⟨fd, F⟩ := T.f_piece_in
  exact fna_rule F sc_piece_in (F.binds fun _ _ _ _ _ _ us hl => match us, hl with | [_], _ => rfl) rfl (pk_piece_in.2 P w K mg base ad b T) rfl rfl (by decide)
def pk_RowX_initX : Σ' ms : MS, ∀ (P : Program) (w : World) (K : PySem.W.Frag) (mg : Str → Option Value) (base : Heap) (ad : Nat → Addr) (b : Bool), Facts P w K mg base ad → Body P w K mg base (GG b K ad) 0 (ad 29) ["self", "told"] "Row.__init__" st_RowX_initX ms :=
  ⟨_, fun P w K mg base ad b T cdv A fr s H E c => ss_cons (s_setF (i := 0) (T_fld_told T ⟨rfl, rfl, rfl, rfl, rfl⟩) rfl (by leaf_len) (by decide) (by decide) (v_var (i := 1) rfl (by leaf_len) (by decide) (by decide)) rfl) (ss_nil)⟩
def sem_RowX_initX : List D → M D := mkFn 0 2 2 pk_RowX_initX.1
theorem mk_Row (T : Facts P w K mg base ad) : ClA P w K mg base (GG b K ad) 2 0 sem_RowX_initX := by
  obtain ⟨fd, F⟩ := T.f_RowX_initX
  exact cla_rule F sc_RowX_initX (F.binds fun _ _ _ _ _ _ us hl => match us, hl with | [_, _], _ => rfl) rfl (pk_RowX_initX.2 P w K mg base ad b T) T.m_Row rfl rfl (by decide)
def pk_pattern_in : Σ' ms : MS, ∀ (P : Program) (w : World) (K : PySem.W.Frag) (mg : Str → Option Value) (base : Heap) (ad : Nat → Addr) (b : Bool), Facts P w K mg base ad → Body P w K mg base (GG b K ad) 10 (ad 30) ["text", "pieces", "part"] "pattern_in" st_pattern_in ms :=
  ⟨_, fun P w K mg base ad b T cdv A fr s H E c => ss_cons (s_lc (i := 1) c rfl rfl rfl (own := [("part", 2)]) (i_seq c (v_split (v_var (i := 0) rfl (by leaf_len) (by decide) (by decide)) v_str rfl rfl rfl)) (blkOk_by (N := ["text", "pieces", "part"]) (sc := defScope st_pattern_in) (by decide +kernel)) (fun s H C cl fp => blkP c fun c => (p_name (i := 2) c.nd rfl (by mem_news) (.inr rfl))) (fun s H C cl fp => blkT c fun c => t_nil) (fun s H C cl fp => blkV c fun c => (v_calls (FnA.call c ((ok_piece_in T).mono (by decide))) (by rfl) T.g_piece_in (l_cons (v_var (i := 2) rfl (by leaf_len) (by decide) (by decide)) l_nil rfl) rfl (by decide))) rfl (by decide)) (ss_cons (s_if (b_of (w_or (b_cmp (o_in c.cK c.rm) v_none (v_var (i := 1) rfl (by leaf_len) (by decide) (by decide)) rfl) (w_or1 (b_cmp (o_gt) (v_callB (c_len c.cK) (by rfl) T.z_len (by decide +kernel) (l_cons (v_var (i := 1) rfl (by leaf_len) (by decide) (by decide)) l_nil rfl) rfl (by decide) (by decide)) (v_glob (by rfl) (T.c_MOST_JOINED _) (by decide)) rfl)))) (ss_cons (s_ret v_none) ss_nil) (ss_nil)) (ss_cons (s_ret (v_calls (ClA.call c ((mk_Pattern T).mono (by decide))) (by rfl) T.k_Pattern (l_cons (v_calls (ClA.call c ((mk_Row T).mono (by decide))) (by rfl) T.k_Row (l_cons (v_callTy (c_tuple c.cK) (by rfl) T.z_tuple (by decide +kernel) (l_cons (v_var (i := 1) rfl (by leaf_len) (by decide) (by decide)) l_nil rfl) rfl (by decide) (by decide)) l_nil rfl) rfl (by decide)) l_nil rfl) rfl (by decide))) ss_nil))⟩
def sem_pattern_in : List D → M D := runFn 1 3 pk_pattern_in.1
theorem ok_pattern_in (T : Facts P w K mg base ad) : FnA P w K mg base (GG b K ad) 12 (ad 30) sem_pattern_in := by
  obtain ⟨fd, F⟩ := T.f_pattern_in
  exact fna_rule F sc_pattern_in (F.binds fun _ _ _ _ _ _ us hl => match us, hl with | [_], _ => rfl) rfl (pk_pattern_in.2 P w K mg base ad b T) rfl rfl (by decide)
def pk_Pattern_read : Σ' ms : MS, ∀ (P : Program) (w : World) (K : PySem.W.Frag) (mg : Str → Option Value) (base : Heap) (ad : Nat → Addr) (b : Bool), Facts P w K mg base ad → Body P w K mg base (GG b K ad) 12 (ad 31) ["text", "found"] "Pattern.read" st_Pattern_read ms :=
  ⟨_, fun P w K mg base ad b T cdv A fr s H E c => ss_cons (s_set (i := 1) c rfl (by mem_news) (v_ite (b_val (v_callB (c_isa c.cK (T.isa _ _ rfl)) (by rfl) T.z_isinstance (by decide +kernel) (l_cons (v_var (i := 0) rfl (by leaf_len) (by decide) (by decide)) (l_cons (v_ty (t := .str) (by rfl) T.z_str (by decide +kernel) (by decide) (by decide)) l_nil rfl) rfl) rfl (by decide) (by decide)) (fun _ => rfl)) (v_calls (FnA.call c ((ok_pattern_in T).mono (by decide))) (by rfl) T.g_pattern_in (l_cons (v_var (i := 0) rfl (by leaf_len) (by decide) (by decide)) l_nil rfl) rfl (by decide)) v_none) rfl (.inl rfl)) (ss_cons (s_if (b_cmp (o_is) (v_var (i := 1) rfl (by leaf_len) (by decide) (by decide)) v_none rfl) (ss_cons (s_raise (cx := 5) c (by decide) (L2N.takes_of rfl rfl rfl rfl) (T.er_InvalidText _) (by rfl) (by decide) (v_var (i := 0) rfl (by leaf_len) (by decide) (by decide)) rfl) ss_never) (ss_nil)) (ss_cons (s_ret (v_var (i := 1) rfl (by leaf_len) (by decide) (by decide))) ss_nil))⟩
def sem_Pattern_read : List D → M D := runFn 1 2 pk_Pattern_read.1
theorem ok_Pattern_read (T : Facts P w K mg base ad) : FnA P w K mg base (GG b K ad) 14 (ad 31) sem_Pattern_read := by
  obtain ⟨fd, F⟩ := T.f_Pattern_read
  exact fna_rule F sc_Pattern_read (F.binds fun _ _ _ _ _ _ us hl => match us, hl with | [_], _ => rfl) rfl (pk_Pattern_read.2 P w K mg base ad b T) rfl rfl (by decide)
def pk__law_words : Σ' ms : MS, ∀ (P : Program) (w : World) (K : PySem.W.Frag) (mg : Str → Option Value) (base : Heap) (ad : Nat → Addr) (b : Bool), Facts P w K mg base ad → Body P w K mg base (GG b K ad) 0 (ad 32) ["_law_row_here", "_law_word", "_law_ohms"] "_law_words" st__law_words ms :=
  ⟨_, fun P w K mg base ad b T cdv A fr s H E c => ss_cons (s_ret (v_join c.cK v_str (v_lc c (own := [("_law_word", 1), ("_law_ohms", 2)]) (i_seq c (v_var (i := 0) rfl (by leaf_len) (by decide) (by decide))) (blkOk_by (N := ["_law_row_here", "_law_word", "_law_ohms"]) (sc := defScope st__law_words) (by decide +kernel)) (fun s H C cl fp => blkP c fun c => (p_tup c.cK c.calm (ps_consP (p_name (i := 1) c.nd rfl (by mem_news) (.inr rfl)) (ps_consP (p_name (i := 2) c.nd rfl (by mem_news) (.inr rfl)) ps_nilP rfl) rfl) rfl rfl)) (fun s H C cl fp => blkT c fun c => t_nil) (fun s H C cl fp => blkV c fun c => (v_bin (o_add c.cK) (v_bin (o_add c.cK) (v_var (i := 1) rfl (by leaf_len) (by decide) (by decide)) v_str) (v_callTy (c_str) (by rfl) T.z_str (by decide +kernel) (l_cons (v_var (i := 2) rfl (by leaf_len) (by decide) (by decide)) l_nil rfl) rfl (by decide) (by decide)))) rfl (by decide)) rfl rfl rfl)) ss_nil⟩
def sem__law_words : List D → M D := runFn 1 3 pk__law_words.1
theorem ok__law_words (T : Facts P w K mg base ad) : FnA P w K mg base (GG b K ad) 2 (ad 32) sem__law_words := by
  obtain ⟨fd, F⟩ := T.f__law_words
  exact fna_rule F sc__law_words (F.binds fun _ _ _ _ _ _ us hl => match us, hl with | [_], _ => rfl) rfl (pk__law_words.2 P w K mg base ad b T) rfl rfl (by decide)
def pk__law_read : Σ' ms : MS, ∀ (P : Program) (w : World) (K : PySem.W.Frag) (mg : Str → Option Value) (base : Heap) (ad : Nat → Addr) (b : Bool), Facts P w K mg base ad → Body P w K mg base (GG b K ad) 14 (ad 33) ["_law_row_here"] "_law_read" st__law_read ms :=
  ⟨_, fun P w K mg base ad b T cdv A fr s H E c => ss_cons (s_ret (v_stat ⟨T.s_Pattern_read⟩ (FnA.call c ((ok_Pattern_read T).mono (by decide))) (by rfl) T.k_Pattern (l_cons (v_calls (FnA.call c ((ok__law_words T).mono (by decide))) (by rfl) T.g__law_words (l_cons (v_var (i := 0) rfl (by leaf_len) (by decide) (by decide)) l_nil rfl) rfl (by decide)) l_nil rfl) rfl (by decide) (by decide) rfl)) ss_nil⟩
def sem__law_read : List D → M D := runFn 1 1 pk__law_read.1
theorem ok__law_read (T : Facts P w K mg base ad) : FnA P w K mg base (GG b K ad) 16 (ad 33) sem__law_read := by
  obtain ⟨fd, F⟩ := T.f__law_read
  exact fna_rule F sc__law_read (F.binds fun _ _ _ _ _ _ us hl => match us, hl with | [_], _ => rfl) rfl (pk__law_read.2 P w K mg base ad b T) rfl rfl (by decide)
def pk__law_row : Σ' ms : MS, ∀ (P : Program) (w : World) (K : PySem.W.Frag) (mg : Str → Option Value) (base : Heap) (ad : Nat → Addr) (b : Bool), Facts P w K mg base ad → Body P w K mg base (GG b K ad) 4 (ad 34) ["_law_cup_here", "_law_most", "_law_found", "_law_turn"] "_law_row" st__law_row ms :=
  ⟨_, fun P w K mg base ad b T cdv A fr s H E c => ss_cons (s_own (i := 2) c rfl (Or.inl rfl) (o_lst l_nil (by decide)) rfl (.inl rfl) (by decide)) (ss_cons (s_for c (i_rng1 (by rfl) T.z_range (l_cons (v_bin (o_add c.cK) v_int (v_calls (FnA.call c ((ok__law_sip T).mono (by decide))) (by rfl) T.g__law_sip (l_cons (v_var (i := 0) rfl (by leaf_len) (by decide) (by decide)) (l_cons (v_var (i := 1) rfl (by leaf_len) (by decide) (by decide)) l_nil rfl) rfl) rfl (by decide))) l_nil rfl) rfl) (g_name (i := 3) c.nd rfl (by mem_news) (.inl rfl)) (ss_cons (s_app (i := 2) rfl (by leaf_len) (by decide) (by decide) (v_tup (l_cons (v_calls (FnA.call c ((ok__law_pick T).mono (by decide))) (by rfl) T.g__law_pick (l_cons (v_var (i := 0) rfl (by leaf_len) (by decide) (by decide)) (l_cons (v_lst (l_cons v_str (l_cons v_str l_nil rfl) rfl) (by decide)) l_nil rfl) rfl) rfl (by decide)) (l_cons (v_bin (o_add c.cK) v_int (v_calls (FnA.call c ((ok__law_sip T).mono (by decide))) (by rfl) T.g__law_sip (l_cons (v_var (i := 0) rfl (by leaf_len) (by decide) (by decide)) (l_cons v_int l_nil rfl) rfl) rfl (by decide))) l_nil rfl) rfl) (by decide)) rfl rfl) (ss_nil)) rfl) (ss_frz (i := 2) (ss_cons (s_ret (v_var (i := 2) rfl (by leaf_len) (by decide) (by decide))) ss_nil)))⟩
def sem__law_row : List D → M D := runFn 2 4 pk__law_row.1
theorem ok__law_row (T : Facts P w K mg base ad) : FnA P w K mg base (GG b K ad) 6 (ad 34) sem__law_row := by
  obtain ⟨fd, F⟩ := T.f__law_row
  exact fna_rule F sc__law_row (F.binds fun _ _ _ _ _ _ us hl => match us, hl with | [_, _], _ => rfl) rfl (pk__law_row.2 P w K mg base ad b T) rfl rfl (by decide)
def pk_Pattern_pieces : Σ' ms : MS, ∀ (P : Program) (w : World) (K : PySem.W.Frag) (mg : Str → Option Value) (base : Heap) (ad : Nat → Addr) (b : Bool), Facts P w K mg base ad → Body P w K mg base (GG b K ad) 0 (ad 35) ["self"] "Pattern.pieces" st_Pattern_pieces ms :=
  ⟨_, fun P w K mg base ad b T cdv A fr s H E c => ss_cons (s_ret (v_attr c (T_attr_row_1 T ⟨rfl, rfl, rfl, rfl, rfl⟩ (by decide)) (v_var (i := 0) rfl (by leaf_len) (by decide) (by decide)) rfl)) ss_nil⟩
def sem_Pattern_pieces : List D → M D := runFn 1 1 pk_Pattern_pieces.1
theorem ok_Pattern_pieces (T : Facts P w K mg base ad) : FnA P w K mg base (GG b K ad) 2 (ad 35) sem_Pattern_pieces := by
  obtain ⟨fd, F⟩ := T.f_Pattern_pieces
  exact fna_rule F sc_Pattern_pieces (F.binds fun _ _ _ _ _ _ us hl => match us, hl with | [_], _ => rfl) rfl (pk_Pattern_pieces.2 P w K mg base ad b T) rfl rfl (by decide)
theorem T_attr_pieces_1 (T : Facts P w K mg base ad) {X : Cx} (h : Same X P w K mg base) {k : Nat} (hk : 2 ≤ k) : AttrT X (GG b K ad) k "pieces" (tab [(1, .prop sem_Pattern_pieces)]) := by
  obtain ⟨rfl, rfl, rfl, rfl, rfl⟩ := h
  exact AttrT.of (tab_cons (let ⟨q, hq⟩ := T.p_Pattern_Pattern_pieces; ⟨q, _, T.cl_Pattern, hq, (ok_Pattern_pieces T).mono (Nat.le_trans (by decide) hk)⟩) tab_nil)
def pk_Run_load : Σ' ms : MS, ∀ (P : Program) (w : World) (K : PySem.W.Frag) (mg : Str → Option Value) (base : Heap) (ad : Nat → Addr) (b : Bool), Facts P w K mg base ad → Body P w K mg base (GG b K ad) 0 (ad 36) ["self"] "Run.load" st_Run_load ms :=
  ⟨_, fun P w K mg base ad b T cdv A fr s H E c => ss_cons (s_ret (v_attr c (T_attr_first_5 T ⟨rfl, rfl, rfl, rfl, rfl⟩ (by decide)) (v_var (i := 0) rfl (by leaf_len) (by decide) (by decide)) rfl)) ss_nil⟩
def sem_Run_load : List D → M D := runFn 1 1 pk_Run_load.1
theorem ok_Run_load (T : Facts P w K mg base ad) : FnA P w K mg base (GG b K ad) 2 (ad 36) sem_Run_load := by
  obtain ⟨fd, F⟩ := T.f_Run_load
  exact fna_rule F sc_Run_load (F.binds fun _ _ _ _ _ _ us hl => match us, hl with | [_], _ => rfl) rfl (pk_Run_load.2 P w K mg base ad b T) rfl rfl (by decide)
theorem T_attr_load_5 (T : Facts P w K mg base ad) {X : Cx} (h : Same X P w K mg base) {k : Nat} (hk : 2 ≤ k) : AttrT X (GG b K ad) k "load" (tab [(5, .prop sem_Run_load)]) := by
  obtain ⟨rfl, rfl, rfl, rfl, rfl⟩ := h
  exact AttrT.of (tab_cons (let ⟨q, hq⟩ := T.p_Ladder_Run_load; ⟨q, _, T.cl_Ladder, hq, (ok_Run_load T).mono (Nat.le_trans (by decide) hk)⟩) tab_nil)
def pk_PatternX_callX : Σ' ms : MS, ∀ (P : Program) (w : World) (K : PySem.W.Frag) (mg : Str → Option Value) (base : Heap) (ad : Nat → Addr) (b : Bool), Facts P w K mg base ad → Body P w K mg base (GG b K ad) 10 (ad 37) ["self", "load"] "Pattern.__call__" st_PatternX_callX ms :=
  ⟨_, fun P w K mg base ad b T cdv A fr s H E c => ss_cons (s_expr (v_calls (FnA.call c ((ok_check_resistance T).mono (by decide))) (by rfl) T.g_check_resistance (l_cons (v_var (i := 1) rfl (by leaf_len) (by decide) (by decide)) l_nil rfl) rfl (by decide)) rfl) (ss_cons (s_ret (v_calls (FnA.call c ((ok_shown T).mono (by decide))) (by rfl) T.g_shown (l_cons (v_attr c (T_attr_chain_1 T ⟨rfl, rfl, rfl, rfl, rfl⟩ (by decide)) (v_var (i := 0) rfl (by leaf_len) (by decide) (by decide)) rfl) (l_cons (v_calls (FnA.call c ((ok_pair_of T).mono (by decide))) (by rfl) T.g_pair_of (l_cons (v_var (i := 1) rfl (by leaf_len) (by decide) (by decide)) l_nil rfl) rfl (by decide)) l_nil rfl) rfl) rfl (by decide))) ss_nil)⟩
def sem_PatternX_callX : List D → M D := runFn 2 2 pk_PatternX_callX.1
theorem ok_PatternX_callX (T : Facts P w K mg base ad) : FnA P w K mg base (GG b K ad) 12 (ad 37) sem_PatternX_callX := by
  obtain ⟨fd, F⟩ := T.f_PatternX_callX
  exact fna_rule F sc_PatternX_callX (F.binds fun _ _ _ _ _ _ us hl => match us, hl with | [_, _], _ => rfl) rfl (pk_PatternX_callX.2 P w K mg base ad b T) rfl rfl (by decide)
theorem okk_PatternX_callX_1_load (T : Facts P w K mg base ad) : FnK P w K mg base (GG b K ad) 12 (ad 37) 1 ["load"] (fun ds => sem_PatternX_callX (perm [0, 1] ds)) := by
  obtain ⟨fd, F⟩ := T.f_PatternX_callX
  exact fnk_rule (ix := [0, 1]) F sc_PatternX_callX (fun _ _ _ _ _ _ us ws h1 h2 => match us, ws, h1, h2 with | [_], [_], _, _ => rfl) rfl (pk_PatternX_callX.2 P w K mg base ad b T) rfl rfl (by decide)
theorem T_call_1 (T : Facts P w K mg base ad) {X : Cx} (h : Same X P w K mg base) {k : Nat} (hk : 12 ≤ k) : CallT X (GG b K ad) k (tab [(1, sem_PatternX_callX)]) := by
  obtain ⟨rfl, rfl, rfl, rfl, rfl⟩ := h
  exact ⟨(tab_cons ⟨_, T.o_Pattern_PatternX_callX, (ok_PatternX_callX T).mono (Nat.le_trans (by decide) hk)⟩ tab_nil)⟩
theorem T_callk_1_load0 (T : Facts P w K mg base ad) {X : Cx} (h : Same X P w K mg base) {k : Nat} (hk : 12 ≤ k) : CallKT X (GG b K ad) k ["load"] (tab [(1, fun ds => sem_PatternX_callX (perm [0, 1] ds))]) := by
  obtain ⟨rfl, rfl, rfl, rfl, rfl⟩ := h
  exact ⟨(tab_cons ⟨_, T.o_Pattern_PatternX_callX, (okk_PatternX_callX_1_load T).mono (Nat.le_trans (by decide) hk)⟩ tab_nil)⟩
def pk_Ladder_next_of : Σ' ms : MS, ∀ (P : Program) (w : World) (K : PySem.W.Frag) (mg : Str → Option Value) (base : Heap) (ad : Nat → Addr) (b : Bool), Facts P w K mg base ad → Body P w K mg base (GG b K ad) 2 (ad 38) ["self", "pair"] "Ladder.next_of" st_Ladder_next_of ms :=
  ⟨_, fun P w K mg base ad b T cdv A fr s H E c => ss_cons (s_ret (v_calls (FnA.call c ((ok_led T).mono (by decide))) (by rfl) T.g_led (l_cons (v_attr c (T_attr_chain_1 T ⟨rfl, rfl, rfl, rfl, rfl⟩ (by decide)) (v_attr c (T_attr_pattern_5 T ⟨rfl, rfl, rfl, rfl, rfl⟩ (by decide)) (v_var (i := 0) rfl (by leaf_len) (by decide) (by decide)) rfl) rfl) (l_cons (v_var (i := 1) rfl (by leaf_len) (by decide) (by decide)) l_nil rfl) rfl) rfl (by decide))) ss_nil⟩
def sem_Ladder_next_of : List D → M D := runFn 2 2 pk_Ladder_next_of.1
theorem ok_Ladder_next_of (T : Facts P w K mg base ad) : FnA P w K mg base (GG b K ad) 4 (ad 38) sem_Ladder_next_of := by
  obtain ⟨fd, F⟩ := T.f_Ladder_next_of
  exact fna_rule F sc_Ladder_next_of (F.binds fun _ _ _ _ _ _ us hl => match us, hl with | [_, _], _ => rfl) rfl (pk_Ladder_next_of.2 P w K mg base ad b T) rfl rfl (by decide)
theorem T_meth_next_of_5 (T : Facts P w K mg base ad) {X : Cx} (h : Same X P w K mg base) {k : Nat} (hk : 4 ≤ k) : MethT X (GG b K ad) k "next_of" (tab [(5, sem_Ladder_next_of)]) := by
  obtain ⟨rfl, rfl, rfl, rfl, rfl⟩ := h
  exact ⟨(tab_cons ⟨_, T.cl_Ladder, T.t_Ladder_Ladder_next_of, (ok_Ladder_next_of T).mono (Nat.le_trans (by decide) hk), (show ("next_of" : Str) ∉ flds 5 by decide +kernel)⟩ tab_nil)⟩
def pk_Run_opening : Σ' ms : MG, ∀ (P : Program) (w : World) (K : PySem.W.Frag) (mg : Str → Option Value) (base : Heap) (ad : Nat → Addr), Facts P w K mg base ad → GBodyE P w K mg base (GG false K ad) 6 (ad 39) ["self", "count", "pair", "turn"] "Run.opening" st_Run_opening ms :=
  ⟨_, fun P w K mg base ad T cdv A fr s H E pn c => sg_cons (sg_plain (s_expr (v_calls (FnA.call c ((ok_check_count T).mono (by decide))) (by rfl) T.g_check_count (l_cons (v_var (i := 1) rfl (by leaf_len) (by decide) (by decide)) l_nil rfl) rfl (by decide)) rfl)) (sg_cons (sg_plain (s_set (i := 2) c rfl (by mem_news) (v_attr c (T_attr_first_5 T ⟨rfl, rfl, rfl, rfl, rfl⟩ (by decide)) (v_var (i := 0) rfl (by leaf_len) (by decide) (by decide)) rfl) rfl (.inl rfl))) (sg_cons (sg_for c (i_rng1 (by rfl) T.z_range (l_cons (v_var (i := 1) rfl (by leaf_len) (by decide) (by decide)) l_nil rfl) rfl) (g_name (i := 3) c.nd rfl (by mem_news) (.inl rfl)) (sg_cons (sg_yield (v_calls (FnA.call c ((ok_lowest T).mono (by decide))) (by rfl) T.g_lowest (l_cons (v_ix c.cK (v_var (i := 2) rfl (by leaf_len) (by decide) (by decide)) v_int rfl) (l_cons (v_ix c.cK (v_var (i := 2) rfl (by leaf_len) (by decide) (by decide)) v_int rfl) l_nil rfl) rfl) rfl (by decide)) rfl rfl) (sg_cons (sg_plain (s_set (i := 2) c rfl (by mem_news) (v_meth c (T_meth_next_of_5 T ⟨rfl, rfl, rfl, rfl, rfl⟩ (by decide)) (v_var (i := 0) rfl (by leaf_len) (by decide) (by decide)) (l_cons (v_var (i := 2) rfl (by leaf_len) (by decide) (by decide)) l_nil rfl) rfl rfl (by decide) rfl) rfl (.inl rfl))) (sg_nil))) rfl) (sg_nil)))⟩
def sem_Run_opening : List D → M (List D) := genFn 2 4 pk_Run_opening.1
theorem okn_Run_opening_2_ (T : Facts P w K mg base ad) : GnE P w K mg base (GG true K ad) 8 (ad 39) 2 [] (fun ds => sem_Run_opening (perm [0, 1] ds)) := by
  obtain ⟨fd, F⟩ := T.f_Run_opening
  exact gne_rule (G := GG true K ad) (ix := [0, 1]) F sc_Run_opening (fun _ _ _ _ _ _ us ws h1 h2 => match us, ws, h1, h2 with | [_, _], [], _, _ => rfl) rfl (pk_Run_opening.2 P w K mg base ad T) rfl rfl (by decide)
theorem okn_Run_opening_1_count (T : Facts P w K mg base ad) : GnE P w K mg base (GG true K ad) 8 (ad 39) 1 ["count"] (fun ds => sem_Run_opening (perm [0, 1] ds)) := by
  obtain ⟨fd, F⟩ := T.f_Run_opening
  exact gne_rule (G := GG true K ad) (ix := [0, 1]) F sc_Run_opening (fun _ _ _ _ _ _ us ws h1 h2 => match us, ws, h1, h2 with | [_], [_], _, _ => rfl) rfl (pk_Run_opening.2 P w K mg base ad T) rfl rfl (by decide)
theorem T_gmeth_opening_5_1 (T : Facts P w K mg base ad) {X : Cx} (h : Same X P w K mg base) : GMethE X (GG true K ad) 8 "opening" 1 [] (tab [(5, fun ds => sem_Run_opening (perm [0, 1] ds))]) := by
  obtain ⟨rfl, rfl, rfl, rfl, rfl⟩ := h
  exact ⟨(tab_cons ⟨_, T.cl_Ladder, T.t_Ladder_Run_opening, okn_Run_opening_2_ T, (show ("opening" : Str) ∉ flds 5 by decide +kernel)⟩ tab_nil)⟩
theorem T_gmeth_opening_5_count0 (T : Facts P w K mg base ad) {X : Cx} (h : Same X P w K mg base) : GMethE X (GG true K ad) 8 "opening" 0 ["count"] (tab [(5, fun ds => sem_Run_opening (perm [0, 1] ds))]) := by
  obtain ⟨rfl, rfl, rfl, rfl, rfl⟩ := h
  exact ⟨(tab_cons ⟨_, T.cl_Ladder, T.t_Ladder_Run_opening, okn_Run_opening_1_count T, (show ("opening" : Str) ∉ flds 5 by decide +kernel)⟩ tab_nil)⟩
def pk__law_right : Σ' ms : MS, ∀ (P : Program) (w : World) (K : PySem.W.Frag) (mg : Str → Option Value) (base : Heap) (ad : Nat → Addr), Facts P w K mg base ad → BodyC P w K mg base (GG true K ad) 16 (ad 40) (ad 8001) ["_law_cup_here", "_law_turn", "_law_mine", "_law_odd", "_law_end", "_law_bad", "_law_told", "_law_way", "_law_many"] "_law_right" st__law_right ms :=
  ⟨_, fun P w K mg base ad T A fr s H E c => ss_cons (s_for c (i_rng1 (by rfl) T.z_range (l_cons v_int l_nil rfl) rfl) (g_name (i := 1) c.nd rfl (by mem_news) (.inl rfl)) (ss_cons (s_asg (v_tup (l_cons (v_calls (FnA.call c ((ok__law_read T).mono (by decide))) (by rfl) T.g__law_read (l_cons (v_calls (FnA.call c ((ok__law_row T).mono (by decide))) (by rfl) T.g__law_row (l_cons (v_var (i := 0) rfl (by leaf_len) (by decide) (by decide)) (l_cons v_int l_nil rfl) rfl) rfl (by decide)) l_nil rfl) rfl (by decide)) (l_cons (v_calls (FnA.call c ((ok__law_nothing T).mono (by decide))) (by rfl) T.g__law_nothing (l_cons (v_var (i := 0) rfl (by leaf_len) (by decide) (by decide)) l_nil rfl) rfl (by decide)) (l_cons (v_calls (FnA.call c ((ok__law_pick T).mono (by decide))) (by rfl) T.g__law_pick (l_cons (v_var (i := 0) rfl (by leaf_len) (by decide) (by decide)) (l_cons (v_lst (l_cons v_int (l_cons (v_tup (l_cons v_int (l_cons v_int l_nil rfl) rfl) (by decide)) (l_cons (v_tup (l_cons v_int (l_cons v_int l_nil rfl) rfl) (by decide)) (l_cons (v_bin (o_pow) v_int v_int) l_nil rfl) rfl) rfl) rfl) (by decide)) l_nil rfl) rfl) rfl (by decide)) l_nil rfl) rfl) rfl) (by decide)) (g_tup c.cK c.calm (gs_cons (g_name (i := 2) c.nd rfl (by mem_news) (.inl rfl)) (gs_cons (g_name (i := 3) c.nd rfl (by mem_news) (.inl rfl)) (gs_cons (g_name (i := 4) c.nd rfl (by mem_news) (.inl rfl)) gs_nil rfl) rfl) rfl) rfl rfl) rfl rfl rfl) (ss_cons (s_set (i := 5) c rfl (by mem_news) (v_calls (FnA.call c ((ok__law_pick T).mono (by decide))) (by rfl) T.g__law_pick (l_cons (v_var (i := 0) rfl (by leaf_len) (by decide) (by decide)) (l_cons (v_lst (l_cons v_none (l_cons v_int (l_cons v_str (l_cons (v_tup (l_cons v_str (l_cons v_int l_nil rfl) rfl) (by decide)) (l_cons (v_tup (l_cons (v_tup (l_cons v_str (l_cons v_int l_nil rfl) rfl) (by decide)) l_nil rfl) (by decide)) (l_cons (v_lst l_nil (by decide)) (l_cons v_dict0 (l_cons v_bool (l_cons (v_attr c (T_attr_pieces_1 T ⟨rfl, rfl, rfl, rfl, rfl⟩ (by decide)) (v_var (i := 2) rfl (by leaf_len) (by decide) (by decide)) rfl) l_nil rfl) rfl) rfl) rfl) rfl) rfl) rfl) rfl) rfl) (by decide)) l_nil rfl) rfl) rfl (by decide)) rfl (.inl rfl)) (ss_cons (s_own (i := 6) c rfl (Or.inl rfl) (o_lst (l_cons (v_lamcall (j := 1) c (T_caught T _) (by rfl) T.g__law_caught (by decide) T.tb_1 rfl (by first | rfl | decide +kernel) (LamX.lamS_by (sc := defScope st__law_right) (by decide +kernel)) rfl (fun _ _ _ _ _ => rfl) (fun A outer s H E f c' c => (v_calls (ClA.call c ((mk_Ladder T).mono (by decide))) (by rfl) T.k_Ladder (l_cons (v_var (i := 5) rfl (by leaf_len) (by decide) (by decide)) (l_cons (v_var (i := 3) rfl (by leaf_len) (by decide) (by decide)) l_nil rfl) rfl) rfl (by decide)))) l_nil rfl) (by decide)) rfl (.inl rfl) (by decide)) (ss_cons (s_app (i := 6) rfl (by leaf_len) (by decide) (by decide) (v_lamcall (j := 1) c (T_caught T _) (by rfl) T.g__law_caught (by decide) T.tb_1 rfl (by first | rfl | decide +kernel) (LamX.lamS_by (sc := defScope st__law_right) (by decide +kernel)) rfl (fun _ _ _ _ _ => rfl) (fun A outer s H E f c' c => (v_kw0 (ClK.call c ((mkk_CLadder_LadderX_initX_1_load_pattern T).mono (by decide))) (by rfl) T.k_Ladder (k_cons (v_var (i := 3) rfl (by leaf_len) (by decide) (by decide)) (k_cons (v_var (i := 5) rfl (by leaf_len) (by decide) (by decide)) k_nil)) rfl (by decide) rfl rfl))) rfl rfl) (ss_frz (i := 6) (ss_cons (s_if (b_cmp (o_ne c.cK c.rm) (v_var (i := 6) rfl (by leaf_len) (by decide) (by decide)) (v_bin (o_mul c.cK) (v_lst (l_cons (v_lst (l_cons v_int (l_cons v_int (l_cons v_int (l_cons (v_callB (c_repr c.cK c.rm) (by rfl) T.z_repr (by decide +kernel) (l_cons (v_var (i := 5) rfl (by leaf_len) (by decide) (by decide)) l_nil rfl) rfl (by decide) (by decide)) l_nil rfl) rfl) rfl) rfl) (by decide)) l_nil rfl) (by decide)) v_int) rfl) (ss_cons (s_ret v_bool) ss_nil) (ss_nil)) (ss_cons (s_if (b_of (w_or (b_cmp (o_ne c.cK c.rm) (v_callO c (T_call_1 T ⟨rfl, rfl, rfl, rfl, rfl⟩ (by decide)) (v_var (i := 2) rfl (by leaf_len) (by decide) (by decide)) (l_cons v_int l_nil rfl) rfl rfl) (v_callO c (T_call_1 T ⟨rfl, rfl, rfl, rfl, rfl⟩ (by decide)) (v_var (i := 2) rfl (by leaf_len) (by decide) (by decide)) (l_cons (v_tup (l_cons v_int (l_cons v_int l_nil rfl) rfl) (by decide)) l_nil rfl) rfl rfl) rfl) (w_or1 (b_cmp (o_ne c.cK c.rm) (v_attr c (T_attr_load_5 T ⟨rfl, rfl, rfl, rfl, rfl⟩ (by decide)) (v_calls (ClA.call c ((mk_Ladder T).mono (by decide))) (by rfl) T.k_Ladder (l_cons (v_var (i := 2) rfl (by leaf_len) (by decide) (by decide)) (l_cons v_int l_nil rfl) rfl) rfl (by decide)) rfl) (v_tup (l_cons v_int (l_cons v_int l_nil rfl) rfl) (by decide)) rfl)))) (ss_cons (s_ret v_bool) ss_nil) (ss_nil)) (ss_cons (s_own (i := 6) c rfl (Or.inl rfl) (o_lst (l_cons (v_lamcall (j := 1) c (T_caught T _) (by rfl) T.g__law_caught (by decide) T.tb_1 rfl (by first | rfl | decide +kernel) (LamX.lamS_by (sc := defScope st__law_right) (by decide +kernel)) rfl (fun _ _ _ _ _ => rfl) (fun A outer s H E f c' c => (v_calls (ClA.call c ((mk_Ladder T).mono (by decide))) (by rfl) T.k_Ladder (l_cons (v_var (i := 2) rfl (by leaf_len) (by decide) (by decide)) (l_cons (v_var (i := 3) rfl (by leaf_len) (by decide) (by decide)) l_nil rfl) rfl) rfl (by decide)))) l_nil rfl) (by decide)) rfl (.inl rfl) (by decide)) (ss_cons (s_app (i := 6) rfl (by leaf_len) (by decide) (by decide) (v_lamcall (j := 1) c (T_caught T _) (by rfl) T.g__law_caught (by decide) T.tb_1 rfl (by first | rfl | decide +kernel) (LamX.lamS_by (sc := defScope st__law_right) (by decide +kernel)) rfl (fun _ _ _ _ _ => rfl) (fun A outer s H E f c' c => (v_kw0 (ClK.call c ((mkk_CLadder_LadderX_initX_1_load_pattern T).mono (by decide))) (by rfl) T.k_Ladder (k_cons (v_var (i := 3) rfl (by leaf_len) (by decide) (by decide)) (k_cons (v_var (i := 2) rfl (by leaf_len) (by decide) (by decide)) k_nil)) rfl (by decide) rfl rfl))) rfl rfl) (ss_cons (s_app (i := 6) rfl (by leaf_len) (by decide) (by decide) (v_lamcall (j := 1) c (T_caught T _) (by rfl) T.g__law_caught (by decide) T.tb_1 rfl (by first | rfl | decide +kernel) (LamX.lamS_by (sc := defScope st__law_right) (by decide +kernel)) rfl (fun _ _ _ _ _ => rfl) (fun A outer s H E f c' c => (v_callO c (T_call_1 T ⟨rfl, rfl, rfl, rfl, rfl⟩ (by decide)) (v_var (i := 2) rfl (by leaf_len) (by decide) (by decide)) (l_cons (v_var (i := 3) rfl (by leaf_len) (by decide) (by decide)) l_nil rfl) rfl rfl))) rfl rfl) (ss_cons (s_app (i := 6) rfl (by leaf_len) (by decide) (by decide) (v_lamcall (j := 1) c (T_caught T _) (by rfl) T.g__law_caught (by decide) T.tb_1 rfl (by first | rfl | decide +kernel) (LamX.lamS_by (sc := defScope st__law_right) (by decide +kernel)) rfl (fun _ _ _ _ _ => rfl) (fun A outer s H E f c' c => (v_callOK c (T_callk_1_load0 T ⟨rfl, rfl, rfl, rfl, rfl⟩ (by decide)) (v_var (i := 2) rfl (by leaf_len) (by decide) (by decide)) (k_cons (v_var (i := 3) rfl (by leaf_len) (by decide) (by decide)) k_nil) rfl rfl rfl rfl))) rfl rfl) (ss_frz (i := 6) (ss_cons (s_if (b_cmp (o_ne c.cK c.rm) (v_var (i := 6) rfl (by leaf_len) (by decide) (by decide)) (v_bin (o_mul c.cK) (v_lst (l_cons (v_lst (l_cons v_int (l_cons v_int (l_cons v_int (l_cons (v_callB (c_repr c.cK c.rm) (by rfl) T.z_repr (by decide +kernel) (l_cons (v_var (i := 3) rfl (by leaf_len) (by decide) (by decide)) l_nil rfl) rfl (by decide) (by decide)) l_nil rfl) rfl) rfl) rfl) (by decide)) l_nil rfl) (by decide)) v_int) rfl) (ss_cons (s_ret v_bool) ss_nil) (ss_nil)) (ss_cons (s_set (i := 7) c rfl (by mem_news) (v_calls (ClA.call c ((mk_Ladder T).mono (by decide))) (by rfl) T.k_Ladder (l_cons (v_var (i := 2) rfl (by leaf_len) (by decide) (by decide)) (l_cons (v_var (i := 4) rfl (by leaf_len) (by decide) (by decide)) l_nil rfl) rfl) rfl (by decide)) rfl (.inl rfl)) (ss_cons (s_if (b_of (w_or (b_cmp (o_ne c.cK c.rm) (v_callO c (T_call_1 T ⟨rfl, rfl, rfl, rfl, rfl⟩ (by decide)) (v_var (i := 2) rfl (by leaf_len) (by decide) (by decide)) (l_cons v_int l_nil rfl) rfl rfl) (v_callO c (T_call_1 T ⟨rfl, rfl, rfl, rfl, rfl⟩ (by decide)) (v_var (i := 2) rfl (by leaf_len) (by decide) (by decide)) (l_cons (v_tup (l_cons v_int (l_cons v_int l_nil rfl) rfl) (by decide)) l_nil rfl) rfl rfl) rfl) (w_or (b_cmp (o_ne c.cK c.rm) (v_callO c (T_call_1 T ⟨rfl, rfl, rfl, rfl, rfl⟩ (by decide)) (v_var (i := 2) rfl (by leaf_len) (by decide) (by decide)) (l_cons v_int l_nil rfl) rfl rfl) (v_callO c (T_call_1 T ⟨rfl, rfl, rfl, rfl, rfl⟩ (by decide)) (v_var (i := 2) rfl (by leaf_len) (by decide) (by decide)) (l_cons (v_tup (l_cons v_int (l_cons v_int l_nil rfl) rfl) (by decide)) l_nil rfl) rfl rfl) rfl) (w_or1 (b_cmp (o_ne c.cK c.rm) (v_lst (l_cons (v_callO c (T_call_5 T ⟨rfl, rfl, rfl, rfl, rfl⟩ (by decide)) (v_var (i := 7) rfl (by leaf_len) (by decide) (by decide)) (l_cons v_int l_nil rfl) rfl rfl) (l_cons (v_callO c (T_call_5 T ⟨rfl, rfl, rfl, rfl, rfl⟩ (by decide)) (v_var (i := 7) rfl (by leaf_len) (by decide) (by decide)) (l_cons v_int l_nil rfl) rfl rfl) l_nil rfl) rfl) (by decide)) (v_listE c (ge_meth (T_gmeth_opening_5_1 T ⟨rfl, rfl, rfl, rfl, rfl⟩) (nost_cons (i := 0) T.ns_NotAPattern (nost_cons (i := 2) T.ns_InvalidResistance (nost_cons (i := 3) T.ns_InvalidCount (nost_cons (i := 5) T.ns_InvalidText (nost_cons (i := 9) T.ns_InvalidPieces nost_nil))))) (c.rm.room.mono (by decide)) (v_var (i := 7) rfl (by leaf_len) (by decide) (by decide)) (l_cons v_int l_nil rfl) rfl rfl (by decide) rfl) (c.rm.room.mono (by decide)) (by rfl) T.z_list (by decide +kernel) rfl (by decide) (by decide)) rfl))))) (ss_cons (s_ret v_bool) ss_nil) (ss_nil)) (ss_cons (s_set (i := 8) c rfl (by mem_news) (v_calls (FnA.call c ((ok__law_pick T).mono (by decide))) (by rfl) T.g__law_pick (l_cons (v_var (i := 0) rfl (by leaf_len) (by decide) (by decide)) (l_cons (v_lst (l_cons (v_neg v_int) (l_cons v_int (l_cons v_none (l_cons v_bool (l_cons v_bool (l_cons v_str (l_cons (v_tup (l_cons v_int l_nil rfl) (by decide)) (l_cons (v_lst l_nil (by decide)) (l_cons v_dict0 (l_cons (v_bin (o_pow) v_int v_int) (l_cons (v_neg (v_bin (o_pow) v_int v_int)) (l_cons (v_tup (l_cons v_int (l_cons v_int l_nil rfl) rfl) (by decide)) l_nil rfl) rfl) rfl) rfl) rfl) rfl) rfl) rfl) rfl) rfl) rfl) rfl) (by decide)) l_nil rfl) rfl) rfl (by decide)) rfl (.inl rfl)) (ss_cons (s_own (i := 6) c rfl (Or.inl rfl) (o_lst (l_cons (v_lamcall (j := 1) c (T_caught T _) (by rfl) T.g__law_caught (by decide) T.tb_1 rfl (by first | rfl | decide +kernel) (LamX.lamS_by (sc := defScope st__law_right) (by decide +kernel)) rfl (fun _ _ _ _ _ => rfl) (fun A outer s H E f c' c => (v_callO c (T_call_5 T ⟨rfl, rfl, rfl, rfl, rfl⟩ (by decide)) (v_var (i := 7) rfl (by leaf_len) (by decide) (by decide)) (l_cons (v_var (i := 8) rfl (by leaf_len) (by decide) (by decide)) l_nil rfl) rfl rfl))) l_nil rfl) (by decide)) rfl (.inl rfl) (by decide)) (ss_cons (s_app (i := 6) rfl (by leaf_len) (by decide) (by decide) (v_lamcall (j := 1) c (T_caught T _) (by rfl) T.g__law_caught (by decide) T.tb_1 rfl (by first | rfl | decide +kernel) (LamX.lamS_by (sc := defScope st__law_right) (by decide +kernel)) rfl (fun _ _ _ _ _ => rfl) (fun A outer s H E f c' c => (v_callOK c (T_callk_5_count0 T ⟨rfl, rfl, rfl, rfl, rfl⟩ (by decide)) (v_var (i := 7) rfl (by leaf_len) (by decide) (by decide)) (k_cons (v_var (i := 8) rfl (by leaf_len) (by decide) (by decide)) k_nil) rfl rfl rfl rfl))) rfl rfl) (ss_cons (s_app (i := 6) rfl (by leaf_len) (by decide) (by decide) (v_lamcall (j := 1) c (T_caught T _) (by rfl) T.g__law_caught (by decide) T.tb_1 rfl (by first | rfl | decide +kernel) (LamX.lamS_by (sc := defScope st__law_right) (by decide +kernel)) rfl (fun _ _ _ _ _ => rfl) (fun A outer s H E f c' c => (v_listE c (ge_meth (T_gmeth_opening_5_1 T ⟨rfl, rfl, rfl, rfl, rfl⟩) (nost_cons (i := 0) T.ns_NotAPattern (nost_cons (i := 2) T.ns_InvalidResistance (nost_cons (i := 3) T.ns_InvalidCount (nost_cons (i := 5) T.ns_InvalidText (nost_cons (i := 9) T.ns_InvalidPieces nost_nil))))) (c.rm.room.mono (by decide)) (v_var (i := 7) rfl (by leaf_len) (by decide) (by decide)) (l_cons (v_var (i := 8) rfl (by leaf_len) (by decide) (by decide)) l_nil rfl) rfl rfl (by decide) rfl) (c.rm.room.mono (by decide)) (by rfl) T.z_list (by decide +kernel) rfl (by decide) (by decide)))) rfl rfl) (ss_cons (s_app (i := 6) rfl (by leaf_len) (by decide) (by decide) (v_lamcall (j := 1) c (T_caught T _) (by rfl) T.g__law_caught (by decide) T.tb_1 rfl (by first | rfl | decide +kernel) (LamX.lamS_by (sc := defScope st__law_right) (by decide +kernel)) rfl (fun _ _ _ _ _ => rfl) (fun A outer s H E f c' c => (v_listE c (ge_methK0 (T_gmeth_opening_5_count0 T ⟨rfl, rfl, rfl, rfl, rfl⟩) (nost_cons (i := 0) T.ns_NotAPattern (nost_cons (i := 2) T.ns_InvalidResistance (nost_cons (i := 3) T.ns_InvalidCount (nost_cons (i := 5) T.ns_InvalidText (nost_cons (i := 9) T.ns_InvalidPieces nost_nil))))) (c.rm.room.mono (by decide)) (v_var (i := 7) rfl (by leaf_len) (by decide) (by decide)) (k_cons (v_var (i := 8) rfl (by leaf_len) (by decide) (by decide)) k_nil) rfl rfl (by decide) rfl rfl rfl) (c.rm.room.mono (by decide)) (by rfl) T.z_list (by decide +kernel) rfl (by decide) (by decide)))) rfl rfl) (ss_frz (i := 6) (ss_cons (s_if (b_cmp (o_ne c.cK c.rm) (v_var (i := 6) rfl (by leaf_len) (by decide) (by decide)) (v_bin (o_mul c.cK) (v_lst (l_cons (v_lst (l_cons v_int (l_cons v_int (l_cons v_int (l_cons (v_callB (c_repr c.cK c.rm) (by rfl) T.z_repr (by decide +kernel) (l_cons (v_var (i := 8) rfl (by leaf_len) (by decide) (by decide)) l_nil rfl) rfl (by decide) (by decide)) l_nil rfl) rfl) rfl) rfl) (by decide)) l_nil rfl) (by decide)) v_int) rfl) (ss_cons (s_ret v_bool) ss_nil) (ss_nil)) (ss_nil))))))))))))))))))))))) rfl) (ss_cons (s_ret v_bool) ss_nil)⟩
def sem__law_right : List D → M D := runFn 1 9 pk__law_right.1
theorem ok__law_right (T : Facts P w K mg base ad) : FnA P w K mg base (GG true K ad) 18 (ad 40) sem__law_right := by
  obtain ⟨fd, F⟩ := T.f__law_right
  exact fna_ruleC F sc__law_right (F.fn.binds fun _ _ _ _ _ _ us hl => match us, hl with | [_], _ => rfl) rfl (pk__law_right.2 P w K mg base ad T) rfl rfl (by decide)
def pk__law_cup : Σ' ms : MS, ∀ (P : Program) (w : World) (K : PySem.W.Frag) (mg : Str → Option Value) (base : Heap) (ad : Nat → Addr) (b : Bool), Facts P w K mg base ad → Body P w K mg base (GG b K ad) 0 (ad 41) ["_law_script", "_law_spot", "_law_cell", "_law_one"] "_law_cup" st__law_cup ms :=
  ⟨_, fun P w K mg base ad b T cdv A fr s H E c => ss_cons (s_set (i := 2) c rfl (by mem_news) (v_ite (b_cmp (o_lt) (v_var (i := 1) rfl (by leaf_len) (by decide) (by decide)) (v_callB (c_len c.cK) (by rfl) T.z_len (by decide +kernel) (l_cons (v_var (i := 0) rfl (by leaf_len) (by decide) (by decide)) l_nil rfl) rfl (by decide) (by decide)) rfl) (v_ix c.cK (v_var (i := 0) rfl (by leaf_len) (by decide) (by decide)) (v_var (i := 1) rfl (by leaf_len) (by decide) (by decide)) rfl) (v_bin (o_add c.cK) (v_bin (o_mul c.cK) v_int (v_var (i := 1) rfl (by leaf_len) (by decide) (by decide))) v_int)) rfl (.inl rfl)) (ss_cons (s_for c (i_seq c (v_ite (b_cmp (o_ge) (v_var (i := 1) rfl (by leaf_len) (by decide) (by decide)) (v_callB (c_len c.cK) (by rfl) T.z_len (by decide +kernel) (l_cons (v_var (i := 0) rfl (by leaf_len) (by decide) (by decide)) l_nil rfl) rfl (by decide) (by decide)) rfl) (v_slice c.cK (v_var (i := 0) rfl (by leaf_len) (by decide) (by decide)) q_none (q_some v_int)) (v_lst l_nil (by decide)))) (g_name (i := 3) c.nd rfl (by mem_news) (.inl rfl)) (ss_cons (s_set (i := 2) c rfl (by mem_news) (v_bin (o_mod) (v_callTy (c_int) (by rfl) T.z_int (by decide +kernel) (l_cons (v_bin (o_add c.cK) (v_bin (o_mul c.cK) (v_var (i := 2) rfl (by leaf_len) (by decide) (by decide)) v_int) (v_var (i := 3) rfl (by leaf_len) (by decide) (by decide))) l_nil rfl) rfl (by decide) (by decide)) v_int) rfl (.inl rfl)) (ss_nil)) rfl) (ss_cons (s_ret (v_shr (o_lst (l_cons (v_bin (o_mod) (v_callTy (c_int) (by rfl) T.z_int (by decide +kernel) (l_cons (v_bin (o_add c.cK) (v_bin (o_add c.cK) (v_bin (o_mul c.cK) (v_var (i := 2) rfl (by leaf_len) (by decide) (by decide)) v_int) (v_bin (o_mul c.cK) v_int (v_var (i := 1) rfl (by leaf_len) (by decide) (by decide)))) v_int) l_nil rfl) rfl (by decide) (by decide)) v_int) (l_cons (v_ite (b_of (w_or (b_cmp (o_lt) (v_var (i := 2) rfl (by leaf_len) (by decide) (by decide)) v_int rfl) (w_or1 (b_cmp (o_ge) (v_var (i := 2) rfl (by leaf_len) (by decide) (by decide)) (v_bin (o_pow) v_int v_int) rfl)))) (v_callB (c_abs) (by rfl) T.z_abs (by decide +kernel) (l_cons (v_var (i := 2) rfl (by leaf_len) (by decide) (by decide)) l_nil rfl) rfl (by decide) (by decide)) v_int) l_nil rfl) rfl) (by decide)))) ss_nil))⟩
def sem__law_cup : List D → M D := runFn 2 4 pk__law_cup.1
theorem ok__law_cup (T : Facts P w K mg base ad) : FnA P w K mg base (GG b K ad) 2 (ad 41) sem__law_cup := by
  obtain ⟨fd, F⟩ := T.f__law_cup
  exact fna_rule F sc__law_cup (F.binds fun _ _ _ _ _ _ us hl => match us, hl with | [_, _], _ => rfl) rfl (pk__law_cup.2 P w K mg base ad b T) rfl rfl (by decide)
def pk_law : Σ' ms : MS, ∀ (P : Program) (w : World) (K : PySem.W.Frag) (mg : Str → Option Value) (base : Heap) (ad : Nat → Addr), Facts P w K mg base ad → BodyC P w K mg base (GG true K ad) 18 (ad 42) (ad 8000) ["_law_script", "_law_way", "_law_spot"] "law" st_law ms :=
  ⟨_, fun P w K mg base ad T A fr s H E c => ss_cons (s_set (i := 1) c rfl (by mem_news) (v_calls (ClA.call c ((mk_Ladder T).mono (by decide))) (by rfl) T.k_Ladder (l_cons (v_calls (ClA.call c ((mk_Pattern T).mono (by decide))) (by rfl) T.k_Pattern (l_cons (v_tup (l_cons v_str (l_cons v_int l_nil rfl) rfl) (by decide)) l_nil rfl) rfl (by decide)) (l_cons v_int l_nil rfl) rfl) rfl (by decide)) rfl (.inl rfl)) (ss_cons (s_if (b_of (w_or (b_cmp (o_ne c.cK c.rm) (v_callO c (T_call_5 T ⟨rfl, rfl, rfl, rfl, rfl⟩ (by decide)) (v_var (i := 1) rfl (by leaf_len) (by decide) (by decide)) (l_cons v_int l_nil rfl) rfl rfl) (v_tup (l_cons v_int (l_cons v_int l_nil rfl) rfl) (by decide)) rfl) (w_or1 (b_cmp (o_ne c.cK c.rm) (v_lamcall (j := 0) c (T_caught T _) (by rfl) T.g__law_caught (by decide) T.tb_0 rfl (by first | rfl | decide +kernel) (LamX.lamS_by (sc := defScope st_law) (by decide +kernel)) rfl (fun _ _ _ _ _ => rfl) (fun A outer s H E f c' c => (v_callO c (T_call_5 T ⟨rfl, rfl, rfl, rfl, rfl⟩ (by decide)) (v_var (i := 1) rfl (by leaf_len) (by decide) (by decide)) (l_cons v_int l_nil rfl) rfl rfl))) (v_lst (l_cons v_int (l_cons v_int (l_cons v_int (l_cons v_str l_nil rfl) rfl) rfl) rfl) (by decide)) rfl)))) (ss_cons (s_ret v_bool) ss_nil) (ss_nil)) (ss_cons (s_ret (v_callB (c_all c.calm) (by rfl) T.z_all (by decide +kernel) (l_cons (v_lc c (own := [("_law_spot", 2)]) (i_rng1 (by rfl) T.z_range (l_cons (v_callB (c_max c.calm) (by rfl) T.z_max (by decide +kernel) (l_cons v_int (l_cons (v_callB (c_min c.calm) (by rfl) T.z_min (by decide +kernel) (l_cons (v_callB (c_len c.cK) (by rfl) T.z_len (by decide +kernel) (l_cons (v_var (i := 0) rfl (by leaf_len) (by decide) (by decide)) l_nil rfl) rfl (by decide) (by decide)) (l_cons v_int l_nil rfl) rfl) rfl (by decide) (by decide)) l_nil rfl) rfl) rfl (by decide) (by decide)) l_nil rfl) rfl) (blkOk_by (N := ["_law_script", "_law_way", "_law_spot"]) (sc := defScope st_law) (by decide +kernel)) (fun s H C cl fp => blkP c fun c => (p_name (i := 2) c.nd rfl (by mem_news) (.inr rfl))) (fun s H C cl fp => blkT c fun c => t_nil) (fun s H C cl fp => blkV c fun c => (v_calls (FnA.call c ((ok__law_right T).mono (by decide))) (by rfl) T.g__law_right (l_cons (v_calls (FnA.call c ((ok__law_cup T).mono (by decide))) (by rfl) T.g__law_cup (l_cons (v_var (i := 0) rfl (by leaf_len) (by decide) (by decide)) (l_cons (v_var (i := 2) rfl (by leaf_len) (by decide) (by decide)) l_nil rfl) rfl) rfl (by decide)) l_nil rfl) rfl (by decide))) rfl (by decide)) l_nil rfl) rfl (by decide) (by decide))) ss_nil))⟩
def sem_law : List D → M D := runFn 1 3 pk_law.1
theorem ok_law (T : Facts P w K mg base ad) : FnA P w K mg base (GG true K ad) 20 (ad 42) sem_law := by
  obtain ⟨fd, F⟩ := T.f_law
  exact fna_ruleC F sc_law (F.fn.binds fun _ _ _ _ _ _ us hl => match us, hl with | [_], _ => rfl) rfl (pk_law.2 P w K mg base ad T) rfl rfl (by decide)
end K14
set_option maxRecDepth 100000
set_option maxHeartbeats 1000000
set_option exponentiation.threshold 4000
namespace K14
open PySem Ev
theorem runS_expr {α : Type} {g : List SV → M α} {sd : List SV} {S : List Ob} {N : List SV → List Ob → Prop} {R : D → List Ob → Prop} {B C : List SV → List Ob → Prop} : RunS (exS g fun _ => nextS) sd S N R B C ↔ Ev.Run (g sd) S fun _ S' => N sd S' := by
  rw [runS_ex]
  exact Iff.rfl
theorem gcd_step (x y : Int) (hx : 0 ≤ x) (hy : 0 < y) : Int.gcd y (x % y) = Int.gcd x y := by
  show Nat.gcd y.natAbs (x % y).natAbs = Nat.gcd x.natAbs y.natAbs
  rw [Int.natAbs_emod_of_nonneg hx, Nat.gcd_comm y.natAbs, ← Nat.gcd_rec, Nat.gcd_comm]
def Left (x y : Int) (n : Nat) : Prop := ∃ m : Nat, x * y < 2 ^ m ∧ (if x < y then m + 2 else m + 1) ≤ n
theorem left_step {x y : Int} {n : Nat} (hx : 0 ≤ x) (hy : 0 < y) (h : Left x y n) : ∃ n', n' < n ∧ Left y (x % y) n' := by
  obtain ⟨m, h1, h2⟩ := h
  have r0 := Int.emod_nonneg x (show y ≠ 0 by omega)
  have r1 := Int.emod_lt_of_pos x hy
  by_cases l : x < y
  · rw [if_pos l] at h2
    refine ⟨m + 1, by omega, m, ?_, ?_⟩
    · rw [Int.emod_eq_of_lt hx l, Int.mul_comm]
      exact h1
    · rw [if_neg (by omega)]
      exact Nat.le_refl _
  · rw [if_neg l] at h2
    have m0 : m ≠ 0 := by
      rintro rfl
      have z : 0 < x * y := Int.mul_pos (by omega) hy
      simp at h1
      omega
    obtain ⟨m', rfl⟩ : ∃ m', m = m' + 1 := ⟨m - 1, by omega⟩
    refine ⟨m' + 1, by omega, m', ?_, ?_⟩
    · have r2 : x % y ≤ x - y := by
        have q : 1 ≤ x / y := Int.le_ediv_of_mul_le hy (by omega)
        have e := Int.emod_add_mul_ediv x y
        have e2 : y * 1 ≤ y * (x / y) := Int.mul_le_mul_of_nonneg_left q (by omega)
        omega
      have r3 : 2 * (x % y) < x := by omega
      have r4 : y * (2 * (x % y)) < y * x := Int.mul_lt_mul_of_pos_left r3 hy
      have e5 : y * (2 * (x % y)) = 2 * (y * (x % y)) := by grind
      have e6 : y * x = x * y := Int.mul_comm _ _
      have e7 : (2 : Int) ^ (m' + 1) = 2 * 2 ^ m' := by rw [Int.pow_succ, Int.mul_comm]
      omega
    · rw [if_neg (by omega)]
      exact Nat.le_refl _
theorem left_start {x y : Int} (hx : 0 ≤ x) (hy : 0 ≤ y) (bx : x < 2 ^ 1000) (by_ : y < 2 ^ 1000) : ∃ n, n < bigW ∧ Left x y n := by
  refine ⟨2002, by decide, 2000, ?_, by split <;> omega⟩
  have a : x * y ≤ x * 2 ^ 1000 := Int.mul_le_mul_of_nonneg_left (by omega) hx
  have b : x * 2 ^ 1000 < 2 ^ 1000 * 2 ^ 1000 := Int.mul_lt_mul_of_pos_right bx (by decide)
  have c : (2 : Int) ^ 1000 * 2 ^ 1000 = 2 ^ 2000 := by decide
  omega
theorem common_ok (a b : Int) (ha : 0 ≤ a) (hb : 0 ≤ b) (sa : a < 2 ^ 1000) (sb : b < 2 ^ 1000) : sem_common [.int a, .int b] = M.pure (.int (Int.gcd a b)) := by
  refine pure_of fun S => ?_
  obtain ⟨n, hn, hl⟩ := left_start ha hb sa sb
  unfold sem_common
  rw [run_fn]
  refine ⟨rfl, ?_⟩
  unfold pk_common
  rw [runS_seq]
  refine iter_rule (J := fun n sd S' => S' = S ∧ ∃ x y : Int, sd = [.val (.int x), .val (.int y)] ∧ 0 ≤ x ∧ 0 ≤ y ∧ Int.gcd x y = Int.gcd a b ∧ Left x y n) ?_ bigW n _ _ hn ⟨rfl, a, b, rfl, ha, hb, rfl, hl⟩
  rintro n sd S' ⟨rfl, x, y, rfl, hx, hy, hg, hn⟩
  simp only [run_pure, run_bind, run_ite, run_noErr, run_stuck, runS_next, runS_stuck, runS_seq, runS_ret, runS_par, runS_own, runS_for, runS_if, runS_tgt, runS_expr, setT, tupT, consT, getv, on1, on2, toB_bl, add_int, sub_int, cmp_int, int_int, List.getElem?_cons_zero, List.getElem?_cons_succ, List.set_cons_zero, List.set_cons_succ, List.length_cons, List.length_nil, if_true, reduceIte, Nat.reduceAdd, Nat.reduceEqDiff]
  by_cases h : 0 < y
  · simp only [h, decide_true, if_true]
    try simp only [run_pure, run_bind, run_ite, run_noErr, run_stuck, runS_next, runS_stuck, runS_seq, runS_ret, runS_par, runS_own, runS_for, runS_if, runS_tgt, runS_expr, setT, tupT, consT, getv, on1, on2, toB_bl, add_int, sub_int, cmp_int, int_int, List.getElem?_cons_zero, List.getElem?_cons_succ, List.set_cons_zero, List.set_cons_succ, List.length_cons, List.length_nil, if_true, reduceIte, Nat.reduceAdd, Nat.reduceEqDiff]
    simp only [mod_int h]
    try simp only [run_pure, run_bind, run_ite, run_noErr, run_stuck, runS_next, runS_stuck, runS_seq, runS_ret, runS_par, runS_own, runS_for, runS_if, runS_tgt, runS_expr, setT, tupT, consT, getv, on1, on2, toB_bl, add_int, sub_int, cmp_int, int_int, List.getElem?_cons_zero, List.getElem?_cons_succ, List.set_cons_zero, List.set_cons_succ, List.length_cons, List.length_nil, if_true, reduceIte, Nat.reduceAdd, Nat.reduceEqDiff]
    obtain ⟨n', l', h'⟩ := left_step hx h hn
    exact ⟨n', l', trivial, y, x % y, rfl, hy, Int.emod_nonneg x (by omega), (gcd_step x y hx h).trans hg, h'⟩
  · have y0 : y = 0 := by omega
    subst y0
    simp only [h, decide_false]
    try simp only [run_pure, run_bind, run_ite, run_noErr, run_stuck, runS_next, runS_stuck, runS_seq, runS_ret, runS_par, runS_own, runS_for, runS_if, runS_tgt, runS_expr, setT, tupT, consT, getv, on1, on2, toB_bl, add_int, sub_int, cmp_int, int_int, List.getElem?_cons_zero, List.getElem?_cons_succ, List.set_cons_zero, List.set_cons_succ, List.length_cons, List.length_nil, if_true, reduceIte, Nat.reduceAdd, Nat.reduceEqDiff]
    simp only [Int.gcd_zero] at hg
    refine ⟨?_, trivial⟩
    rw [← hg]
    congr 1
    omega
def lowT (t : Int) (b : Int) : Int := t / (Int.gcd t b : Int)
def lowB (t : Int) (b : Int) : Int := b / (Int.gcd t b : Int)
theorem divOk_gcd {t b : Int} (ht : 0 ≤ t) (hb : 0 ≤ b) (h : 0 < t + b) (st : t < 2 ^ 1000) (sb : b < 2 ^ 1000) : divOk (Int.gcd t b : Int) = true := by
  have g0 : 0 < Int.gcd t b := by
    rw [Int.gcd_pos_iff]
    omega
  have g1 : Int.gcd t b < 2 ^ 1000 := by
    by_cases e : t = 0
    · subst e
      rw [Int.gcd_zero_left]
      omega
    · have := Nat.le_of_dvd (by omega) (Int.gcd_dvd_natAbs_left t b)
      omega
  unfold divOk
  rw [Bool.and_eq_true]
  refine ⟨decide_eq_true (by omega), decide_eq_true ?_⟩
  rw [Int.natAbs_natCast]
  have := (Nat.log2_lt (by omega)).mpr g1
  omega
theorem lowest_ok (t b : Int) (ht : 0 ≤ t) (hb : 0 ≤ b) (h : 0 < t + b) (st : t < 2 ^ 1000) (sb : b < 2 ^ 1000) : sem_lowest [.int t, .int b] = M.pure (.tup [.int (lowT t b), .int (lowB t b)]) := by
  refine pure_of fun S => ?_
  have d := divOk_gcd ht hb h st sb
  unfold sem_lowest
  rw [run_fn]
  refine ⟨rfl, ?_⟩
  show RunS pk_lowest.1 [.val (.int t), .val (.int b), .no] S _ _ _ _
  unfold pk_lowest
  simp only [run_pure, run_bind, run_ite, run_noErr, run_stuck, runS_next, runS_stuck, runS_seq, runS_ret, runS_par, runS_own, runS_for, runS_if, runS_tgt, runS_expr, setT, tupT, consT, getv, on1, on2, toB_bl, add_int, sub_int, cmp_int, int_int, List.getElem?_cons_zero, List.getElem?_cons_succ, List.set_cons_zero, List.set_cons_succ, List.length_cons, List.length_nil, if_true, reduceIte, Nat.reduceAdd, Nat.reduceEqDiff]
  simp only [common_ok t b ht hb st sb]
  simp only [run_pure, run_bind, run_ite, run_noErr, run_stuck, runS_next, runS_stuck, runS_seq, runS_ret, runS_par, runS_own, runS_for, runS_if, runS_tgt, runS_expr, setT, tupT, consT, getv, on1, on2, toB_bl, add_int, sub_int, cmp_int, int_int, List.getElem?_cons_zero, List.getElem?_cons_succ, List.set_cons_zero, List.set_cons_succ, List.length_cons, List.length_nil, if_true, reduceIte, Nat.reduceAdd, Nat.reduceEqDiff]
  simp only [fdiv_int d]
  try simp only [run_pure, run_bind, run_ite, run_noErr, run_stuck, runS_next, runS_stuck, runS_seq, runS_ret, runS_par, runS_own, runS_for, runS_if, runS_tgt, runS_expr, setT, tupT, consT, getv, on1, on2, toB_bl, add_int, sub_int, cmp_int, int_int, List.getElem?_cons_zero, List.getElem?_cons_succ, List.set_cons_zero, List.set_cons_succ, List.length_cons, List.length_nil, if_true, reduceIte, Nat.reduceAdd, Nat.reduceEqDiff]
  exact ⟨rfl, trivial⟩
def Sm (k : Nat) (x : Int) : Prop := 0 ≤ x ∧ x < 2 ^ k
theorem Sm.mono {j k : Nat} {x : Int} (h : Sm j x) (l : j ≤ k) : Sm k x := ⟨h.1, Int.lt_of_lt_of_le h.2 (by exact_mod_cast Nat.pow_le_pow_right (by decide) l)⟩
theorem Sm.mul {j k : Nat} {x y : Int} (h : Sm j x) (l : Sm k y) : Sm (j + k) (x * y) := by
  refine ⟨Int.mul_nonneg h.1 l.1, ?_⟩
  have a : x * y ≤ x * 2 ^ k := Int.mul_le_mul_of_nonneg_left (by have := l.2; omega) h.1
  have p : (0 : Int) < 2 ^ k := Int.pow_pos (by decide)
  have b : x * 2 ^ k < 2 ^ j * 2 ^ k := Int.mul_lt_mul_of_pos_right h.2 p
  rw [Int.pow_add]
  omega
theorem Sm.add {k : Nat} {x y : Int} (h : Sm k x) (l : Sm k y) : Sm (k + 1) (x + y) := by
  have a := h.1
  have b := h.2
  have c := l.1
  have d := l.2
  refine ⟨by omega, ?_⟩
  rw [Int.pow_succ]
  omega
theorem Sm.nat {k : Nat} {x : Int} (h : Sm k x) : x.natAbs < 2 ^ k := by
  have a := h.1
  have b := h.2
  have e : ((x.natAbs : Nat) : Int) = x := by omega
  have c : ((x.natAbs : Nat) : Int) < ((2 ^ k : Nat) : Int) := by
    rw [e]
    simpa using b
  exact_mod_cast c
theorem mulS {j k : Nat} {x y : Int} (h : Sm j x) (l : Sm k y) (c : j + k ≤ 134217728) : dMul (.int x) (.int y) = M.pure (.int (x * y)) := mul_int (mulOk_by h.nat l.nat c)
structure Mx where
  a : Int
  b : Int
  c : Int
  d : Int
def Mx.D (m : Mx) : Ev.D := .tup [.int m.a, .int m.b, .int m.c, .int m.d]
def Mx.mul (m n : Mx) : Mx := ⟨m.a * n.a + m.b * n.c, m.a * n.b + m.b * n.d, m.c * n.a + m.d * n.c, m.c * n.b + m.d * n.d⟩
structure Mx.S (k : Nat) (m : Mx) : Prop where
  a : Sm k m.a
  b : Sm k m.b
  c : Sm k m.c
  d : Sm k m.d
theorem joined_ok {k : Nat} (m n : Mx) (hm : m.S k) (hn : n.S k) (hk : k ≤ 10000) : sem_joined [m.D, n.D] = M.pure (m.mul n).D := by
  refine pure_of fun S => ?_
  have l : k + k ≤ 134217728 := by omega
  unfold sem_joined
  rw [run_fn]
  refine ⟨rfl, ?_⟩
  show RunS pk_joined.1 [.val m.D, .val n.D, .no, .no, .no, .no, .no, .no, .no, .no] S _ _ _ _
  unfold pk_joined Mx.D
  simp only [run_pure, run_bind, run_ite, run_noErr, run_stuck, runS_next, runS_stuck, runS_seq, runS_ret, runS_par, runS_own, runS_for, runS_if, runS_tgt, runS_expr, setT, tupT, consT, getv, on1, on2, toB_bl, add_int, sub_int, cmp_int, int_int, List.getElem?_cons_zero, List.getElem?_cons_succ, List.set_cons_zero, List.set_cons_succ, List.length_cons, List.length_nil, if_true, reduceIte, Nat.reduceAdd, Nat.reduceEqDiff]
  simp only [mulS hm.a hn.a l, mulS hm.b hn.c l, mulS hm.a hn.b l, mulS hm.b hn.d l, mulS hm.c hn.a l, mulS hm.d hn.c l, mulS hm.c hn.b l, mulS hm.d hn.d l]
  simp only [run_pure, run_bind, run_ite, run_noErr, run_stuck, runS_next, runS_stuck, runS_seq, runS_ret, runS_par, runS_own, runS_for, runS_if, runS_tgt, runS_expr, setT, tupT, consT, getv, on1, on2, toB_bl, add_int, sub_int, cmp_int, int_int, List.getElem?_cons_zero, List.getElem?_cons_succ, List.set_cons_zero, List.set_cons_succ, List.length_cons, List.length_nil, if_true, reduceIte, Nat.reduceAdd, Nat.reduceEqDiff]
  exact ⟨rfl, trivial⟩
structure Pc where
  rail : Bool
  o : Int
def Pc.ok (p : Pc) : Prop := 1 ≤ p.o ∧ p.o ≤ 12
def Pc.w (p : Pc) : Str := if p.rail then "rail" else "rung"
def Pc.D (p : Pc) : Ev.D := .tup [.str p.w, .int p.o]
def Pc.m (p : Pc) : Mx := if p.rail then ⟨1, p.o, 0, 1⟩ else ⟨p.o, 0, 1, p.o⟩
def rowD (r : List Pc) : Ev.D := .tup (r.map Pc.D)
theorem Pc.sm {p : Pc} (h : p.ok) : Sm 4 p.o := ⟨by have := h.1; omega, by have := h.2; show p.o < 16; omega⟩
theorem Pc.ms {p : Pc} (h : p.ok) : p.m.S 4 := by
  have s := Pc.sm h
  have z : Sm 4 0 := ⟨by decide, by decide⟩
  have u : Sm 4 1 := ⟨by decide, by decide⟩
  unfold Pc.m
  split
  · exact ⟨u, s, z, u⟩
  · exact ⟨s, z, u, s⟩
theorem Mx.S.mul {j k : Nat} {m n : Mx} (h : m.S j) (l : n.S k) : (m.mul n).S (j + k + 1) :=
  ⟨(h.a.mul l.a).add (h.b.mul l.c), (h.a.mul l.b).add (h.b.mul l.d), (h.c.mul l.a).add (h.d.mul l.c), (h.c.mul l.b).add (h.d.mul l.d)⟩
theorem Mx.S.mono {j k : Nat} {m : Mx} (h : m.S j) (l : j ≤ k) : m.S k := ⟨h.a.mono l, h.b.mono l, h.c.mono l, h.d.mono l⟩
def chainM : Mx → Int → List Pc → Mx × Int
  | m, t, [] => (m, t)
  | m, t, p :: r => chainM (m.mul p.m) (if p.rail then t else t * p.o) r
def one : Mx := ⟨1, 0, 0, 1⟩
theorem eq_str (x y : Str) : dEq false (.str x) (.str y) = M.pure (.bl (decide (x = y))) := rfl
theorem rail_eq : decide (("rail" : Str) = "rail") = true := by decide
theorem rung_ne : decide (("rung" : Str) = "rail") = false := by decide
theorem chain_ok (r : List Pc) (hr : ∀ p ∈ r, p.ok) (hl : r.length ≤ 8) : sem_chain_of [rowD r] = M.pure (.tup [(chainM one 1 r).1.D, .int (chainM one 1 r).2]) := by
  refine pure_of fun S => ?_
  unfold sem_chain_of
  rw [run_fn]
  refine ⟨rfl, ?_⟩
  show RunS pk_chain_of.1 [.val (rowD r), .no, .no, .no, .no] S _ _ _ _
  unfold pk_chain_of rowD
  simp only [run_pure, run_bind, run_ite, run_noErr, run_stuck, runS_next, runS_stuck, runS_seq, runS_ret, runS_par, runS_own, runS_for, runS_if, runS_tgt, runS_expr, setT, tupT, consT, getv, on1, on2, toB_bl, add_int, sub_int, cmp_int, int_int, List.getElem?_cons_zero, List.getElem?_cons_succ, List.set_cons_zero, List.set_cons_succ, List.length_cons, List.length_nil, if_true, reduceIte, Nat.reduceAdd, Nat.reduceEqDiff]
  unfold seqOf
  simp only [run_pure, run_bind, run_ite, run_noErr, run_stuck, runS_next, runS_stuck, runS_seq, runS_ret, runS_par, runS_own, runS_for, runS_if, runS_tgt, runS_expr, setT, tupT, consT, getv, on1, on2, toB_bl, add_int, sub_int, cmp_int, int_int, List.getElem?_cons_zero, List.getElem?_cons_succ, List.set_cons_zero, List.set_cons_succ, List.length_cons, List.length_nil, if_true, reduceIte, Nat.reduceAdd, Nat.reduceEqDiff]
  refine loop_rule (J := fun ds sd S' => S' = S ∧ ∃ (r' : List Pc) (m : Mx) (t : Int) (k : Nat) (u v : SV), ds = r'.map Pc.D ∧ sd = [.val (.tup (r.map Pc.D)), .val m.D, .val (.int t), u, v] ∧ chainM m t r' = chainM one 1 r ∧ m.S k ∧ Sm k t ∧ k + 5 * r'.length ≤ 100 ∧ ∀ p ∈ r', p.ok) ?_ ?_ _ _ _ ?_
  · rintro d ds sd S' ⟨rfl, r', m, t, k, u, v, e, rfl, ch, hm, ht, hk, ho⟩
    rcases r' with _ | ⟨p, r'⟩
    · cases e
    rw [List.map_cons] at e
    cases e
    have hp := ho p List.mem_cons_self
    have hk : k + 5 * (r'.length + 1) ≤ 100 := by simpa using hk
    refine ⟨_, _, rfl, ?_⟩
    have jm := joined_ok m p.m (hm.mono (by omega : k ≤ k + 4)) ((Pc.ms hp).mono (by omega : 4 ≤ k + 4)) (by omega)
    have hm2 : (m.mul p.m).S (k + 5) := hm.mul (Pc.ms hp)
    have hr2 : ∀ q ∈ r', q.ok := fun q hq => ho q (List.mem_cons_of_mem _ hq)
    rcases p with ⟨_ | _, o⟩
    · simp only [run_pure, run_bind, run_ite, run_noErr, run_stuck, runS_next, runS_stuck, runS_seq, runS_ret, runS_par, runS_own, runS_for, runS_if, runS_tgt, runS_expr, setT, tupT, consT, getv, on1, on2, toB_bl, add_int, sub_int, cmp_int, int_int, List.getElem?_cons_zero, List.getElem?_cons_succ, List.set_cons_zero, List.set_cons_succ, List.length_cons, List.length_nil, if_true, reduceIte, Nat.reduceAdd, Nat.reduceEqDiff]
      simp only [eq_str, Pc.w, Bool.false_eq_true, if_false, rung_ne]
      simp only [run_pure, run_bind, run_ite, run_noErr, run_stuck, runS_next, runS_stuck, runS_seq, runS_ret, runS_par, runS_own, runS_for, runS_if, runS_tgt, runS_expr, setT, tupT, consT, getv, on1, on2, toB_bl, add_int, sub_int, cmp_int, int_int, List.getElem?_cons_zero, List.getElem?_cons_succ, List.set_cons_zero, List.set_cons_succ, List.length_cons, List.length_nil, if_true, reduceIte, Nat.reduceAdd, Nat.reduceEqDiff]
      rw [if_neg Bool.false_ne_true]
      have jm : sem_joined [m.D, .tup [.int o, .int 0, .int 1, .int o]] = M.pure (m.mul (Pc.m ⟨false, o⟩)).D := jm
      have so : Sm 4 o := Pc.sm hp
      rw [jm]
      simp only [run_pure, run_bind, run_ite, run_noErr, run_stuck, runS_next, runS_stuck, runS_seq, runS_ret, runS_par, runS_own, runS_for, runS_if, runS_tgt, runS_expr, setT, tupT, consT, getv, on1, on2, toB_bl, add_int, sub_int, cmp_int, int_int, List.getElem?_cons_zero, List.getElem?_cons_succ, List.set_cons_zero, List.set_cons_succ, List.length_cons, List.length_nil, if_true, reduceIte, Nat.reduceAdd, Nat.reduceEqDiff]
      rw [mulS ht so (by omega)]
      simp only [run_pure, run_bind, run_ite, run_noErr, run_stuck, runS_next, runS_stuck, runS_seq, runS_ret, runS_par, runS_own, runS_for, runS_if, runS_tgt, runS_expr, setT, tupT, consT, getv, on1, on2, toB_bl, add_int, sub_int, cmp_int, int_int, List.getElem?_cons_zero, List.getElem?_cons_succ, List.set_cons_zero, List.set_cons_succ, List.length_cons, List.length_nil, if_true, reduceIte, Nat.reduceAdd, Nat.reduceEqDiff]
      exact ⟨trivial, r', _, _, k + 5, _, _, rfl, rfl, ch, hm2, (ht.mul so).mono (by omega), by omega, hr2⟩
    · simp only [run_pure, run_bind, run_ite, run_noErr, run_stuck, runS_next, runS_stuck, runS_seq, runS_ret, runS_par, runS_own, runS_for, runS_if, runS_tgt, runS_expr, setT, tupT, consT, getv, on1, on2, toB_bl, add_int, sub_int, cmp_int, int_int, List.getElem?_cons_zero, List.getElem?_cons_succ, List.set_cons_zero, List.set_cons_succ, List.length_cons, List.length_nil, if_true, reduceIte, Nat.reduceAdd, Nat.reduceEqDiff]
      simp only [eq_str, Pc.w, if_true, rail_eq]
      simp only [run_pure, run_bind, run_ite, run_noErr, run_stuck, runS_next, runS_stuck, runS_seq, runS_ret, runS_par, runS_own, runS_for, runS_if, runS_tgt, runS_expr, setT, tupT, consT, getv, on1, on2, toB_bl, add_int, sub_int, cmp_int, int_int, List.getElem?_cons_zero, List.getElem?_cons_succ, List.set_cons_zero, List.set_cons_succ, List.length_cons, List.length_nil, if_true, reduceIte, Nat.reduceAdd, Nat.reduceEqDiff]
      rw [if_pos (decide_eq_true trivial)]
      have jm : sem_joined [m.D, .tup [.int 1, .int o, .int 0, .int 1]] = M.pure (m.mul (Pc.m ⟨true, o⟩)).D := jm
      rw [jm]
      simp only [run_pure, run_bind, run_ite, run_noErr, run_stuck, runS_next, runS_stuck, runS_seq, runS_ret, runS_par, runS_own, runS_for, runS_if, runS_tgt, runS_expr, setT, tupT, consT, getv, on1, on2, toB_bl, add_int, sub_int, cmp_int, int_int, List.getElem?_cons_zero, List.getElem?_cons_succ, List.set_cons_zero, List.set_cons_succ, List.length_cons, List.length_nil, if_true, reduceIte, Nat.reduceAdd, Nat.reduceEqDiff]
      exact ⟨trivial, r', _, _, k + 5, _, _, rfl, rfl, ch, hm2, ht.mono (by omega), by omega, hr2⟩
  · rintro sd S' ⟨rfl, r', m, t, k, u, v, e, rfl, ch, hm, ht, hk, ho⟩
    rcases r' with _ | ⟨p, r'⟩
    · simp only [run_pure, run_bind, run_ite, run_noErr, run_stuck, runS_next, runS_stuck, runS_seq, runS_ret, runS_par, runS_own, runS_for, runS_if, runS_tgt, runS_expr, setT, tupT, consT, getv, on1, on2, toB_bl, add_int, sub_int, cmp_int, int_int, List.getElem?_cons_zero, List.getElem?_cons_succ, List.set_cons_zero, List.set_cons_succ, List.length_cons, List.length_nil, if_true, reduceIte, Nat.reduceAdd, Nat.reduceEqDiff]
      have ch : (m, t) = chainM one 1 r := ch
      rw [← ch]
      exact ⟨rfl, trivial⟩
    · cases e
  · exact ⟨rfl, r, one, 1, 1, _, _, rfl, rfl, rfl, ⟨⟨by decide, by decide⟩, ⟨by decide, by decide⟩, ⟨by decide, by decide⟩, ⟨by decide, by decide⟩⟩, ⟨by decide, by decide⟩, by omega, hr⟩
theorem led_ok {k : Nat} (m : Mx) (t b : Int) (hm : m.S k) (ht : Sm k t) (hb : Sm k b) (hk : k ≤ 10000) : sem_led [m.D, .tup [.int t, .int b]] = M.pure (.tup [.int (m.a * t + m.b * b), .int (m.c * t + m.d * b)]) := by
  refine pure_of fun S => ?_
  have l : k + k ≤ 134217728 := by omega
  unfold sem_led
  rw [run_fn]
  refine ⟨rfl, ?_⟩
  show RunS pk_led.1 [.val m.D, .val (.tup [.int t, .int b]), .no, .no, .no, .no] S _ _ _ _
  unfold pk_led Mx.D
  have i0 : dIx (.tup [.int t, .int b]) (.int 0) = M.pure (.int t) := ix_tup rfl
  have i1 : dIx (.tup [.int t, .int b]) (.int 1) = M.pure (.int b) := ix_tup rfl
  simp only [run_pure, run_bind, run_ite, run_noErr, run_stuck, runS_next, runS_stuck, runS_seq, runS_ret, runS_par, runS_own, runS_for, runS_if, runS_tgt, runS_expr, setT, tupT, consT, getv, on1, on2, toB_bl, add_int, sub_int, cmp_int, int_int, List.getElem?_cons_zero, List.getElem?_cons_succ, List.set_cons_zero, List.set_cons_succ, List.length_cons, List.length_nil, if_true, reduceIte, Nat.reduceAdd, Nat.reduceEqDiff]
  simp only [i0, i1]
  simp only [run_pure, run_bind, run_ite, run_noErr, run_stuck, runS_next, runS_stuck, runS_seq, runS_ret, runS_par, runS_own, runS_for, runS_if, runS_tgt, runS_expr, setT, tupT, consT, getv, on1, on2, toB_bl, add_int, sub_int, cmp_int, int_int, List.getElem?_cons_zero, List.getElem?_cons_succ, List.set_cons_zero, List.set_cons_succ, List.length_cons, List.length_nil, if_true, reduceIte, Nat.reduceAdd, Nat.reduceEqDiff]
  simp only [mulS hm.a ht l, mulS hm.b hb l, mulS hm.c ht l, mulS hm.d hb l]
  simp only [run_pure, run_bind, run_ite, run_noErr, run_stuck, runS_next, runS_stuck, runS_seq, runS_ret, runS_par, runS_own, runS_for, runS_if, runS_tgt, runS_expr, setT, tupT, consT, getv, on1, on2, toB_bl, add_int, sub_int, cmp_int, int_int, List.getElem?_cons_zero, List.getElem?_cons_succ, List.set_cons_zero, List.set_cons_succ, List.length_cons, List.length_nil, if_true, reduceIte, Nat.reduceAdd, Nat.reduceEqDiff]
  exact ⟨trivial, trivial⟩
def Mx.top (m : Mx) (t b : Int) : Int := m.a * t + m.b * b
def Mx.bot (m : Mx) (t b : Int) : Int := m.c * t + m.d * b
theorem shown_ok {k : Nat} (m : Mx) (t b : Int) (hm : m.S k) (ht : Sm k t) (hb : Sm k b) (hk : k ≤ 400) (h0 : 0 < m.top t b + m.bot t b) : sem_shown [m.D, .tup [.int t, .int b]] = M.pure (.tup [.int (lowT (m.top t b) (m.bot t b)), .int (lowB (m.top t b) (m.bot t b))]) := by
  refine pure_of fun S => ?_
  have s1 : Sm 1000 (m.top t b) := ((hm.a.mul ht).add (hm.b.mul hb)).mono (by omega)
  have s2 : Sm 1000 (m.bot t b) := ((hm.c.mul ht).add (hm.d.mul hb)).mono (by omega)
  have lo := lowest_ok (m.top t b) (m.bot t b) s1.1 s2.1 h0 s1.2 s2.2
  unfold sem_shown
  rw [run_fn]
  refine ⟨rfl, ?_⟩
  show RunS pk_shown.1 [.val m.D, .val (.tup [.int t, .int b]), .no, .no] S _ _ _ _
  unfold pk_shown
  simp only [run_pure, run_bind, run_ite, run_noErr, run_stuck, runS_next, runS_stuck, runS_seq, runS_ret, runS_par, runS_own, runS_for, runS_if, runS_tgt, runS_expr, setT, tupT, consT, getv, on1, on2, toB_bl, add_int, sub_int, cmp_int, int_int, List.getElem?_cons_zero, List.getElem?_cons_succ, List.set_cons_zero, List.set_cons_succ, List.length_cons, List.length_nil, if_true, reduceIte, Nat.reduceAdd, Nat.reduceEqDiff]
  simp only [led_ok m t b hm ht hb (by omega)]
  simp only [run_pure, run_bind, run_ite, run_noErr, run_stuck, runS_next, runS_stuck, runS_seq, runS_ret, runS_par, runS_own, runS_for, runS_if, runS_tgt, runS_expr, setT, tupT, consT, getv, on1, on2, toB_bl, add_int, sub_int, cmp_int, int_int, List.getElem?_cons_zero, List.getElem?_cons_succ, List.set_cons_zero, List.set_cons_succ, List.length_cons, List.length_nil, if_true, reduceIte, Nat.reduceAdd, Nat.reduceEqDiff]
  have lo : sem_lowest [.int (m.a * t + m.b * b), .int (m.c * t + m.d * b)] = _ := lo
  simp only [lo]
  simp only [run_pure, run_bind, run_ite, run_noErr, run_stuck, runS_next, runS_stuck, runS_seq, runS_ret, runS_par, runS_own, runS_for, runS_if, runS_tgt, runS_expr, setT, tupT, consT, getv, on1, on2, toB_bl, add_int, sub_int, cmp_int, int_int, List.getElem?_cons_zero, List.getElem?_cons_succ, List.set_cons_zero, List.set_cons_succ, List.length_cons, List.length_nil, if_true, reduceIte, Nat.reduceAdd, Nat.reduceEqDiff]
  exact ⟨trivial, trivial⟩
theorem isa_int_int (kn : Nat → Bool) (sb : Nat → Nat → Option Bool) (i : Int) : dIsa kn sb (.int i) (.ty .int) = M.pure (.bl true) := rfl
theorem isa_int_bool (kn : Nat → Bool) (sb : Nat → Nat → Option Bool) (i : Int) : dIsa kn sb (.int i) (.ty .bool) = M.pure (.bl false) := rfl
theorem isa_int_tup (kn : Nat → Bool) (sb : Nat → Nat → Option Bool) (i : Int) : dIsa kn sb (.int i) (.ty .tuple) = M.pure (.bl false) := rfl
theorem isa_tup_tup (kn : Nat → Bool) (sb : Nat → Nat → Option Bool) (ds : List D) : dIsa kn sb (.tup ds) (.ty .tuple) = M.pure (.bl true) := rfl
theorem isa_str_str (kn : Nat → Bool) (sb : Nat → Nat → Option Bool) (x : Str) : dIsa kn sb (.str x) (.ty .str) = M.pure (.bl true) := rfl
theorem is_integer_ok (i : Int) : sem_is_integer [.int i] = M.pure (.bl true) := by
  refine pure_of fun S => ?_
  unfold sem_is_integer
  rw [run_fn]
  refine ⟨rfl, ?_⟩
  show RunS pk_is_integer.1 [.val (.int i)] S _ _ _ _
  unfold pk_is_integer
  simp only [run_pure, run_bind, run_ite, run_noErr, run_stuck, runS_next, runS_stuck, runS_seq, runS_ret, runS_par, runS_own, runS_for, runS_if, runS_tgt, runS_expr, setT, tupT, consT, getv, on1, on2, toB_bl, add_int, sub_int, cmp_int, int_int, List.getElem?_cons_zero, List.getElem?_cons_succ, List.set_cons_zero, List.set_cons_succ, List.length_cons, List.length_nil, if_true, reduceIte, Nat.reduceAdd, Nat.reduceEqDiff]
  simp only [isa_int_int, isa_int_bool]
  simp only [run_pure, run_bind, run_ite, run_noErr, run_stuck, runS_next, runS_stuck, runS_seq, runS_ret, runS_par, runS_own, runS_for, runS_if, runS_tgt, runS_expr, setT, tupT, consT, getv, on1, on2, toB_bl, add_int, sub_int, cmp_int, int_int, List.getElem?_cons_zero, List.getElem?_cons_succ, List.set_cons_zero, List.set_cons_succ, List.length_cons, List.length_nil, if_true, reduceIte, Nat.reduceAdd, Nat.reduceEqDiff]
  simp
theorem len_tup (ds : List D) : dLen (.tup ds) = M.pure (.int ds.length) := rfl
theorem eq_int (i j : Int) : dEq false (.int i) (.int j) = M.pure (.bl (decide (i = j))) := rfl
theorem ne_int (i j : Int) : dEq true (.int i) (.int j) = M.pure (.bl (!decide (i = j))) := rfl
def LoadT (t b : Int) : Prop := 0 ≤ t ∧ t ≤ 10 ^ 12 ∧ 0 ≤ b ∧ b ≤ 10 ^ 12 ∧ (b = 0 → t = 1)
theorem is_fraction_tup (t b : Int) (h : LoadT t b) : sem_is_fraction [.tup [.int t, .int b]] = M.pure (.bl (decide (1 ≤ b))) := by
  refine pure_of fun S => ?_
  have i0 : dIx (.tup [.int t, .int b]) (.int 0) = M.pure (.int t) := ix_tup rfl
  have i1 : dIx (.tup [.int t, .int b]) (.int 1) = M.pure (.int b) := ix_tup rfl
  unfold sem_is_fraction
  rw [run_fn]
  refine ⟨rfl, ?_⟩
  show RunS pk_is_fraction.1 [.val (.tup [.int t, .int b])] S _ _ _ _
  unfold pk_is_fraction
  simp only [run_pure, run_bind, run_ite, run_noErr, run_stuck, runS_next, runS_stuck, runS_seq, runS_ret, runS_par, runS_own, runS_for, runS_if, runS_tgt, runS_expr, setT, tupT, consT, getv, on1, on2, toB_bl, add_int, sub_int, cmp_int, int_int, List.getElem?_cons_zero, List.getElem?_cons_succ, List.set_cons_zero, List.set_cons_succ, List.length_cons, List.length_nil, if_true, reduceIte, Nat.reduceAdd, Nat.reduceEqDiff]
  have e2 : ([D.int t, D.int b].length : Int) = 2 := rfl
  simp only [run_pure, run_bind, run_ite, run_noErr, run_stuck, runS_next, runS_stuck, runS_seq, runS_ret, runS_par, runS_own, runS_for, runS_if, runS_tgt, runS_expr, setT, tupT, consT, getv, on1, on2, toB_bl, add_int, sub_int, cmp_int, int_int, List.getElem?_cons_zero, List.getElem?_cons_succ, List.set_cons_zero, List.set_cons_succ, List.length_cons, List.length_nil, if_true, reduceIte, Nat.reduceAdd, Nat.reduceEqDiff, Bool.not_true, Bool.not_false, Bool.false_eq_true, if_false, decide_true, decide_false, Bool.true_eq_false, and_true, true_and, isa_tup_tup, len_tup, eq_int, is_integer_ok, i0, i1, e2]
  have h0 : decide ((0 : Int) ≤ t) = true := decide_eq_true h.1
  simp only [h0, if_true]
  trivial
theorem eq_open : dEq false (.tup [.int 1, .int 0]) (.tup [.int 1, .int 0]) = M.pure (.bl true) := by
  with_unfolding_all rfl
theorem is_number_tup (t b : Int) (h : LoadT t b) : sem_is_number [.tup [.int t, .int b]] = M.pure (.bl true) := by
  refine pure_of fun S => ?_
  have i0 : dIx (.tup [.int t, .int b]) (.int 0) = M.pure (.int t) := ix_tup rfl
  have i1 : dIx (.tup [.int t, .int b]) (.int 1) = M.pure (.int b) := ix_tup rfl
  unfold sem_is_number
  rw [run_fn]
  refine ⟨rfl, ?_⟩
  show RunS pk_is_number.1 [.val (.tup [.int t, .int b])] S _ _ _ _
  unfold pk_is_number
  have e2 : ([D.int t, D.int b].length : Int) = 2 := rfl
  by_cases hb : 1 ≤ b
  · have hd : decide (1 ≤ b) = true := decide_eq_true hb
    simp only [run_pure, run_bind, run_ite, run_noErr, run_stuck, runS_next, runS_stuck, runS_seq, runS_ret, runS_par, runS_own, runS_for, runS_if, runS_tgt, runS_expr, setT, tupT, consT, getv, on1, on2, toB_bl, add_int, sub_int, cmp_int, int_int, List.getElem?_cons_zero, List.getElem?_cons_succ, List.set_cons_zero, List.set_cons_succ, List.length_cons, List.length_nil, if_true, reduceIte, Nat.reduceAdd, Nat.reduceEqDiff, Bool.not_true, Bool.not_false, Bool.false_eq_true, if_false, decide_true, decide_false, Bool.true_eq_false, and_true, true_and, is_fraction_tup t b h, hd]
  · have hd : decide (1 ≤ b) = false := decide_eq_false hb
    have b0 : b = 0 := by have := h.2.2.1; omega
    have t1 : t = 1 := h.2.2.2.2 b0
    subst b0 t1
    simp only [run_pure, run_bind, run_ite, run_noErr, run_stuck, runS_next, runS_stuck, runS_seq, runS_ret, runS_par, runS_own, runS_for, runS_if, runS_tgt, runS_expr, setT, tupT, consT, getv, on1, on2, toB_bl, add_int, sub_int, cmp_int, int_int, List.getElem?_cons_zero, List.getElem?_cons_succ, List.set_cons_zero, List.set_cons_succ, List.length_cons, List.length_nil, if_true, reduceIte, Nat.reduceAdd, Nat.reduceEqDiff, Bool.not_true, Bool.not_false, Bool.false_eq_true, if_false, decide_true, decide_false, Bool.true_eq_false, and_true, true_and, is_fraction_tup 1 0 h, hd, isa_tup_tup, len_tup, ne_int, is_integer_ok, i0, i1, e2, eq_open]
    trivial
theorem is_resistance_tup (t b : Int) (h : LoadT t b) : sem_is_resistance [.tup [.int t, .int b]] = M.pure (.bl true) := by
  refine pure_of fun S => ?_
  have i0 : dIx (.tup [.int t, .int b]) (.int 0) = M.pure (.int t) := ix_tup rfl
  have i1 : dIx (.tup [.int t, .int b]) (.int 1) = M.pure (.int b) := ix_tup rfl
  unfold sem_is_resistance
  rw [run_fn]
  refine ⟨rfl, ?_⟩
  show RunS pk_is_resistance.1 [.val (.tup [.int t, .int b])] S _ _ _ _
  unfold pk_is_resistance
  have h1 : decide (t ≤ 1000000000000) = true := decide_eq_true h.2.1
  have h2 : decide (b ≤ 1000000000000) = true := decide_eq_true h.2.2.2.1
  simp only [run_pure, run_bind, run_ite, run_noErr, run_stuck, runS_next, runS_stuck, runS_seq, runS_ret, runS_par, runS_own, runS_for, runS_if, runS_tgt, runS_expr, setT, tupT, consT, getv, on1, on2, toB_bl, add_int, sub_int, cmp_int, int_int, List.getElem?_cons_zero, List.getElem?_cons_succ, List.set_cons_zero, List.set_cons_succ, List.length_cons, List.length_nil, if_true, reduceIte, Nat.reduceAdd, Nat.reduceEqDiff, Bool.not_true, Bool.not_false, Bool.false_eq_true, if_false, decide_true, decide_false, Bool.true_eq_false, and_true, true_and, is_number_tup t b h, isa_tup_tup, i0, i1, h1, h2]
theorem check_tup (t b : Int) (h : LoadT t b) : sem_check_resistance [.tup [.int t, .int b]] = M.pure .non := by
  refine pure_of fun S => ?_
  unfold sem_check_resistance
  rw [run_fn]
  refine ⟨rfl, ?_⟩
  show RunS pk_check_resistance.1 [.val (.tup [.int t, .int b])] S _ _ _ _
  unfold pk_check_resistance
  simp only [run_pure, run_bind, run_ite, run_noErr, run_stuck, runS_next, runS_stuck, runS_seq, runS_ret, runS_par, runS_own, runS_for, runS_if, runS_tgt, runS_expr, setT, tupT, consT, getv, on1, on2, toB_bl, add_int, sub_int, cmp_int, int_int, List.getElem?_cons_zero, List.getElem?_cons_succ, List.set_cons_zero, List.set_cons_succ, List.length_cons, List.length_nil, if_true, reduceIte, Nat.reduceAdd, Nat.reduceEqDiff, Bool.not_true, Bool.not_false, Bool.false_eq_true, if_false, decide_true, decide_false, Bool.true_eq_false, and_true, true_and, is_resistance_tup t b h]
theorem is_fraction_int (n : Int) (h : 0 ≤ n) : sem_is_fraction [.int n] = M.pure (.bl true) := by
  refine pure_of fun S => ?_
  unfold sem_is_fraction
  rw [run_fn]
  refine ⟨rfl, ?_⟩
  show RunS pk_is_fraction.1 [.val (.int n)] S _ _ _ _
  unfold pk_is_fraction
  have h1 : decide (0 ≤ n) = true := decide_eq_true h
  simp only [run_pure, run_bind, run_ite, run_noErr, run_stuck, runS_next, runS_stuck, runS_seq, runS_ret, runS_par, runS_own, runS_for, runS_if, runS_tgt, runS_expr, setT, tupT, consT, getv, on1, on2, toB_bl, add_int, sub_int, cmp_int, int_int, List.getElem?_cons_zero, List.getElem?_cons_succ, List.set_cons_zero, List.set_cons_succ, List.length_cons, List.length_nil, if_true, reduceIte, Nat.reduceAdd, Nat.reduceEqDiff, Bool.not_true, Bool.not_false, Bool.false_eq_true, if_false, decide_true, decide_false, Bool.true_eq_false, and_true, true_and, isa_int_tup, is_integer_ok, h1]
theorem is_resistance_int (n : Int) (h : 0 ≤ n) (h2 : n ≤ 10 ^ 12) : sem_is_resistance [.int n] = M.pure (.bl true) := by
  refine pure_of fun S => ?_
  have num : sem_is_number [.int n] = M.pure (.bl true) := by
    refine pure_of fun S => ?_
    unfold sem_is_number
    rw [run_fn]
    refine ⟨rfl, ?_⟩
    show RunS pk_is_number.1 [.val (.int n)] S _ _ _ _
    unfold pk_is_number
    simp only [run_pure, run_bind, run_ite, run_noErr, run_stuck, runS_next, runS_stuck, runS_seq, runS_ret, runS_par, runS_own, runS_for, runS_if, runS_tgt, runS_expr, setT, tupT, consT, getv, on1, on2, toB_bl, add_int, sub_int, cmp_int, int_int, List.getElem?_cons_zero, List.getElem?_cons_succ, List.set_cons_zero, List.set_cons_succ, List.length_cons, List.length_nil, if_true, reduceIte, Nat.reduceAdd, Nat.reduceEqDiff, Bool.not_true, Bool.not_false, Bool.false_eq_true, if_false, decide_true, decide_false, Bool.true_eq_false, and_true, true_and, is_fraction_int n h]
  unfold sem_is_resistance
  rw [run_fn]
  refine ⟨rfl, ?_⟩
  show RunS pk_is_resistance.1 [.val (.int n)] S _ _ _ _
  unfold pk_is_resistance
  have h1 : decide (n ≤ 1000000000000) = true := decide_eq_true h2
  simp only [run_pure, run_bind, run_ite, run_noErr, run_stuck, runS_next, runS_stuck, runS_seq, runS_ret, runS_par, runS_own, runS_for, runS_if, runS_tgt, runS_expr, setT, tupT, consT, getv, on1, on2, toB_bl, add_int, sub_int, cmp_int, int_int, List.getElem?_cons_zero, List.getElem?_cons_succ, List.set_cons_zero, List.set_cons_succ, List.length_cons, List.length_nil, if_true, reduceIte, Nat.reduceAdd, Nat.reduceEqDiff, Bool.not_true, Bool.not_false, Bool.false_eq_true, if_false, decide_true, decide_false, Bool.true_eq_false, and_true, true_and, num, isa_int_tup, h1]
theorem check_int (n : Int) (h : 0 ≤ n) (h2 : n ≤ 10 ^ 12) : sem_check_resistance [.int n] = M.pure .non := by
  refine pure_of fun S => ?_
  unfold sem_check_resistance
  rw [run_fn]
  refine ⟨rfl, ?_⟩
  show RunS pk_check_resistance.1 [.val (.int n)] S _ _ _ _
  unfold pk_check_resistance
  simp only [run_pure, run_bind, run_ite, run_noErr, run_stuck, runS_next, runS_stuck, runS_seq, runS_ret, runS_par, runS_own, runS_for, runS_if, runS_tgt, runS_expr, setT, tupT, consT, getv, on1, on2, toB_bl, add_int, sub_int, cmp_int, int_int, List.getElem?_cons_zero, List.getElem?_cons_succ, List.set_cons_zero, List.set_cons_succ, List.length_cons, List.length_nil, if_true, reduceIte, Nat.reduceAdd, Nat.reduceEqDiff, Bool.not_true, Bool.not_false, Bool.false_eq_true, if_false, decide_true, decide_false, Bool.true_eq_false, and_true, true_and, is_resistance_int n h h2]
theorem pair_of_int (n : Int) : sem_pair_of [.int n] = M.pure (.tup [.int n, .int 1]) := by
  refine pure_of fun S => ?_
  unfold sem_pair_of
  rw [run_fn]
  refine ⟨rfl, ?_⟩
  show RunS pk_pair_of.1 [.val (.int n)] S _ _ _ _
  unfold pk_pair_of
  simp only [run_pure, run_bind, run_ite, run_noErr, run_stuck, runS_next, runS_stuck, runS_seq, runS_ret, runS_par, runS_own, runS_for, runS_if, runS_tgt, runS_expr, setT, tupT, consT, getv, on1, on2, toB_bl, add_int, sub_int, cmp_int, int_int, List.getElem?_cons_zero, List.getElem?_cons_succ, List.set_cons_zero, List.set_cons_succ, List.length_cons, List.length_nil, if_true, reduceIte, Nat.reduceAdd, Nat.reduceEqDiff, Bool.not_true, Bool.not_false, Bool.false_eq_true, if_false, decide_true, decide_false, Bool.true_eq_false, and_true, true_and, isa_int_tup]
theorem pair_of_tup (t b : Int) (ht : 0 ≤ t) (hb : 0 ≤ b) (h : 0 < t + b) (st : t < 2 ^ 1000) (sb : b < 2 ^ 1000) : sem_pair_of [.tup [.int t, .int b]] = M.pure (.tup [.int (lowT t b), .int (lowB t b)]) := by
  refine pure_of fun S => ?_
  have i0 : dIx (.tup [.int t, .int b]) (.int 0) = M.pure (.int t) := ix_tup rfl
  have i1 : dIx (.tup [.int t, .int b]) (.int 1) = M.pure (.int b) := ix_tup rfl
  unfold sem_pair_of
  rw [run_fn]
  refine ⟨rfl, ?_⟩
  show RunS pk_pair_of.1 [.val (.tup [.int t, .int b])] S _ _ _ _
  unfold pk_pair_of
  simp only [run_pure, run_bind, run_ite, run_noErr, run_stuck, runS_next, runS_stuck, runS_seq, runS_ret, runS_par, runS_own, runS_for, runS_if, runS_tgt, runS_expr, setT, tupT, consT, getv, on1, on2, toB_bl, add_int, sub_int, cmp_int, int_int, List.getElem?_cons_zero, List.getElem?_cons_succ, List.set_cons_zero, List.set_cons_succ, List.length_cons, List.length_nil, if_true, reduceIte, Nat.reduceAdd, Nat.reduceEqDiff, Bool.not_true, Bool.not_false, Bool.false_eq_true, if_false, decide_true, decide_false, Bool.true_eq_false, and_true, true_and, isa_tup_tup, i0, i1, lowest_ok t b ht hb h st sb]
section
variable {S : List Ob} {c m n : Nat} {ms : MS} {ds : List D} {Q : D → List Ob → Prop} {sd : List SV} {N : List SV → List Ob → Prop} {R : D → List Ob → Prop} {B C : List SV → List Ob → Prop}
theorem run_mkFn : Run (mkFn c m n ms ds) S Q ↔ ds.length + 1 = m ∧ RunS ms (slots n (.own (.ins c []) :: ds.map .val)) S (fun sd S' => match sd[0]? with | some (SV.own (Ob.ins c' es)) => if c' = c then Q (.ins c es) S' else False | _ => False) (fun _ _ => False) (fun _ _ => False) (fun _ _ => False) := by
  unfold Ev.Run mkFn RunS
  by_cases h : ds.length + 1 = m
  · simp only [h, if_true, true_and]
    rcases ms (slots n (.own (.ins c []) :: ds.map .val)) S with _ | ⟨sd | _ | _ | _ | _, S'⟩
    · exact Iff.rfl
    · unfold mkR
      simp only
      rcases sd[0]? with _ | _ | _ | ⟨_ | _ | ⟨c', es⟩ | jt⟩
      · exact Iff.rfl
      · exact Iff.rfl
      · exact Iff.rfl
      · exact Iff.rfl
      · exact Iff.rfl
      · simp only
        by_cases e : c' = c
        · rw [if_pos e, if_pos e]
        · rw [if_neg e, if_neg e]
      · exact Iff.rfl
    · exact Iff.rfl
    · exact Iff.rfl
    · exact Iff.rfl
    · exact Iff.rfl
  · simp only [h, if_false, false_and]
theorem runS_setF {i : Nat} {tbl : Nat → Option Nat} {g : List SV → M D} : RunS (setFS i tbl g) sd S N R B C ↔ Run (g sd) S fun d S' => match sd[i]? with
    | some (SV.own (Ob.ins c ds)) => (match tbl c with
      | some j => (match putL ds j d with
        | some es => N (sd.set i (.own (.ins c es))) S'
        | none => False)
      | none => False)
    | _ => False := by
  unfold setFS
  rw [runS_ex]
  unfold Ev.Run
  rcases g sd S with _ | ⟨_ | d, S'⟩
  · exact Iff.rfl
  · exact Iff.rfl
  · unfold RunS
    simp only
    rcases sd[i]? with _ | _ | _ | ⟨_ | _ | ⟨c', es⟩ | jt⟩
    · exact Iff.rfl
    · exact Iff.rfl
    · exact Iff.rfl
    · exact Iff.rfl
    · exact Iff.rfl
    · simp only
      rcases tbl c' with _ | j
      · exact Iff.rfl
      · simp only
        rcases putL es j d with _ | es2
        · exact Iff.rfl
        · exact Iff.rfl
    · exact Iff.rfl
end
def patD (r : List Pc) : D := .ins 1 [rowD r, (chainM one 1 r).1.D, .int (chainM one 1 r).2]
theorem row_ok (d : D) : sem_RowX_initX [d] = M.pure (.ins 0 [d]) := by
  refine pure_of fun S => ?_
  unfold sem_RowX_initX
  rw [run_mkFn]
  refine ⟨rfl, ?_⟩
  show RunS pk_RowX_initX.1 [.own (.ins 0 []), .val d] S _ _ _ _
  unfold pk_RowX_initX
  simp only [run_pure, run_bind, run_ite, run_noErr, run_stuck, runS_next, runS_stuck, runS_seq, runS_ret, runS_par, runS_own, runS_for, runS_if, runS_tgt, runS_expr, setT, tupT, consT, getv, on1, on2, toB_bl, add_int, sub_int, cmp_int, int_int, List.getElem?_cons_zero, List.getElem?_cons_succ, List.set_cons_zero, List.set_cons_succ, List.length_cons, List.length_nil, if_true, reduceIte, Nat.reduceAdd, Nat.reduceEqDiff, Bool.not_true, Bool.not_false, Bool.false_eq_true, if_false, decide_true, decide_false, Bool.true_eq_false, and_true, true_and, runS_setF]
  rfl
theorem isa_row (d : D) : dIsa (fun c => decide (c < 2)) (fun a b => if a < 2 ∧ b < 2 then some (decide (a = b)) else none) (.ins 0 [d]) (.cls 0) = M.pure (.bl true) := rfl
theorem attr_told (d : D) : attr (tab [(0, .fld 0)]) (.ins 0 [d]) = M.pure d := rfl
theorem pat_of_row (r : List Pc) (hr : ∀ p ∈ r, p.ok) (hl : r.length ≤ 8) : sem_PatternX_initX [.ins 0 [rowD r]] = M.pure (patD r) := by
  refine pure_of fun S => ?_
  unfold sem_PatternX_initX mkStar
  rw [if_pos (show 1 ≤ [D.ins 0 [rowD r]].length + 1 ∧ [D.ins 0 [rowD r]].length + 1 < 1 + lim from (show 1 ≤ 2 ∧ 2 < 1 + lim by decide))]
  rw [run_mkFn]
  refine ⟨rfl, ?_⟩
  show RunS pk_PatternX_initX.1 [.own (.ins 1 []), .val (.tup [.ins 0 [rowD r]])] S _ _ _ _
  unfold pk_PatternX_initX
  have l1 : ([D.ins 0 [rowD r]].length : Int) = 1 := rfl
  have i0 : dIx (.tup [.ins 0 [rowD r]]) (.int 0) = M.pure (.ins 0 [rowD r]) := ix_tup rfl
  simp only [run_pure, run_bind, run_ite, run_noErr, run_stuck, runS_next, runS_stuck, runS_seq, runS_ret, runS_par, runS_own, runS_for, runS_if, runS_tgt, runS_expr, setT, tupT, consT, getv, on1, on2, toB_bl, add_int, sub_int, cmp_int, int_int, List.getElem?_cons_zero, List.getElem?_cons_succ, List.set_cons_zero, List.set_cons_succ, List.length_cons, List.length_nil, if_true, reduceIte, Nat.reduceAdd, Nat.reduceEqDiff, Bool.not_true, Bool.not_false, Bool.false_eq_true, if_false, decide_true, decide_false, Bool.true_eq_false, and_true, true_and, runS_setF, len_tup, eq_int, l1, i0, isa_row, attr_told]
  rw [if_pos (by decide)]
  show Ev.Run (sem_chain_of [rowD r]) S _
  rw [chain_ok r hr hl]
  exact ⟨rfl, rfl⟩
theorem attr_row (r : List Pc) : attr (tab [(1, .fld 0)]) (patD r) = M.pure (rowD r) := rfl
theorem attr_chain (r : List Pc) : attr (tab [(1, .fld 1)]) (patD r) = M.pure (chainM one 1 r).1.D := rfl
theorem chain_sm : ∀ (r : List Pc) (m : Mx) (t : Int) (k : Nat), (∀ p ∈ r, p.ok) → m.S k → Sm k t → (chainM m t r).1.S (k + 5 * r.length) ∧ Sm (k + 5 * r.length) (chainM m t r).2
  | [], m, t, k, _, hm, ht => ⟨hm, ht⟩
  | p :: r, m, t, k, hr, hm, ht => by
    have hp := hr p List.mem_cons_self
    have z := chain_sm r (m.mul p.m) (if p.rail then t else t * p.o) (k + 5) (fun q hq => hr q (List.mem_cons_of_mem _ hq)) (hm.mul (Pc.ms hp)) (by
      split
      · exact ht.mono (by omega)
      · exact (ht.mul (Pc.sm hp)).mono (by omega))
    have e : k + 5 * (p :: r).length = k + 5 + 5 * r.length := by rw [List.length_cons]; omega
    rw [e]
    exact z
theorem one_sm : one.S 1 := ⟨⟨by decide, by decide⟩, ⟨by decide, by decide⟩, ⟨by decide, by decide⟩, ⟨by decide, by decide⟩⟩
def Row (r : List Pc) : Prop := (∀ p ∈ r, p.ok) ∧ r.length ≤ 8
theorem Row.sm {r : List Pc} (h : Row r) : (chainM one 1 r).1.S 50 ∧ Sm 50 (chainM one 1 r).2 := by
  have z := chain_sm r one 1 1 h.1 one_sm ⟨by decide, by decide⟩
  have l := h.2
  exact ⟨z.1.mono (by omega), z.2.mono (by omega)⟩
def shows (r : List Pc) (t b : Int) : Int × Int := (lowT ((chainM one 1 r).1.top t b) ((chainM one 1 r).1.bot t b), lowB ((chainM one 1 r).1.top t b) ((chainM one 1 r).1.bot t b))
def pairD (p : Int × Int) : D := .tup [.int p.1, .int p.2]
theorem call_int (r : List Pc) (h : Row r) (n : Int) (h0 : 0 ≤ n) (h1 : n ≤ 10 ^ 12) (hp : 0 < (chainM one 1 r).1.top n 1 + (chainM one 1 r).1.bot n 1) : sem_PatternX_callX [patD r, .int n] = M.pure (pairD (shows r n 1)) := by
  refine pure_of fun S => ?_
  have sh := shown_ok (k := 50) (chainM one 1 r).1 n 1 h.sm.1 ⟨h0, by omega⟩ ⟨by decide, by decide⟩ (by decide) hp
  unfold sem_PatternX_callX
  rw [run_fn]
  refine ⟨rfl, ?_⟩
  show RunS pk_PatternX_callX.1 [.val (patD r), .val (.int n)] S _ _ _ _
  unfold pk_PatternX_callX
  simp only [run_pure, run_bind, run_ite, run_noErr, run_stuck, runS_next, runS_stuck, runS_seq, runS_ret, runS_par, runS_own, runS_for, runS_if, runS_tgt, runS_expr, setT, tupT, consT, getv, on1, on2, toB_bl, add_int, sub_int, cmp_int, int_int, List.getElem?_cons_zero, List.getElem?_cons_succ, List.set_cons_zero, List.set_cons_succ, List.length_cons, List.length_nil, if_true, reduceIte, Nat.reduceAdd, Nat.reduceEqDiff, Bool.not_true, Bool.not_false, Bool.false_eq_true, if_false, decide_true, decide_false, Bool.true_eq_false, and_true, true_and, check_int n h0 h1, pair_of_int, attr_chain, sh]
  rfl
theorem low_sm {k : Nat} {t b : Int} (ht : Sm k t) (hb : Sm k b) (h : 0 < t + b) : Sm k (lowT t b) ∧ Sm k (lowB t b) := by
  have g0 : 0 < Int.gcd t b := by
    rw [Int.gcd_pos_iff]
    have := ht.1
    have := hb.1
    omega
  have a := Int.ediv_le_self (Int.gcd t b : Int) ht.1
  have b2 := Int.ediv_le_self (Int.gcd t b : Int) hb.1
  have c := Int.ediv_nonneg ht.1 (show (0 : Int) ≤ (Int.gcd t b : Int) by omega)
  have d := Int.ediv_nonneg hb.1 (show (0 : Int) ≤ (Int.gcd t b : Int) by omega)
  exact ⟨⟨c, Int.lt_of_le_of_lt a ht.2⟩, ⟨d, Int.lt_of_le_of_lt b2 hb.2⟩⟩
theorem call_tup (r : List Pc) (h : Row r) (t b : Int) (hl : LoadT t b) (hp : 0 < (chainM one 1 r).1.top (lowT t b) (lowB t b) + (chainM one 1 r).1.bot (lowT t b) (lowB t b)) : sem_PatternX_callX [patD r, .tup [.int t, .int b]] = M.pure (pairD (shows r (lowT t b) (lowB t b))) := by
  refine pure_of fun S => ?_
  have h0 : 0 < t + b := by
    by_cases e : b = 0
    · have := hl.2.2.2.2 e
      omega
    · have := hl.1
      have := hl.2.2.1
      omega
  have st : Sm 50 t := ⟨hl.1, by have := hl.2.1; omega⟩
  have sb : Sm 50 b := ⟨hl.2.2.1, by have := hl.2.2.2.1; omega⟩
  have lo := low_sm st sb h0
  have sh := shown_ok (k := 50) (chainM one 1 r).1 _ _ h.sm.1 lo.1 lo.2 (by decide) hp
  have pr := pair_of_tup t b hl.1 hl.2.2.1 h0 (st.mono (by decide : 50 ≤ 1000)).2 (sb.mono (by decide : 50 ≤ 1000)).2
  unfold sem_PatternX_callX
  rw [run_fn]
  refine ⟨rfl, ?_⟩
  show RunS pk_PatternX_callX.1 [.val (patD r), .val (.tup [.int t, .int b])] S _ _ _ _
  unfold pk_PatternX_callX
  simp only [run_pure, run_bind, run_ite, run_noErr, run_stuck, runS_next, runS_stuck, runS_seq, runS_ret, runS_par, runS_own, runS_for, runS_if, runS_tgt, runS_expr, setT, tupT, consT, getv, on1, on2, toB_bl, add_int, sub_int, cmp_int, int_int, List.getElem?_cons_zero, List.getElem?_cons_succ, List.set_cons_zero, List.set_cons_succ, List.length_cons, List.length_nil, if_true, reduceIte, Nat.reduceAdd, Nat.reduceEqDiff, Bool.not_true, Bool.not_false, Bool.false_eq_true, if_false, decide_true, decide_false, Bool.true_eq_false, and_true, true_and, check_tup t b hl, pr, attr_chain, sh]
  rfl
end K14
set_option maxRecDepth 100000
set_option maxHeartbeats 1000000
namespace K14
open PySem Ev
theorem pc_all {P : Pc → Prop} (h1 : ∀ b, P ⟨b, 1⟩) (h2 : ∀ b, P ⟨b, 2⟩) (h3 : ∀ b, P ⟨b, 3⟩) (h4 : ∀ b, P ⟨b, 4⟩) (h5 : ∀ b, P ⟨b, 5⟩) (h6 : ∀ b, P ⟨b, 6⟩) (h7 : ∀ b, P ⟨b, 7⟩) (h8 : ∀ b, P ⟨b, 8⟩) (h9 : ∀ b, P ⟨b, 9⟩)
    (h10 : ∀ b, P ⟨b, 10⟩) (h11 : ∀ b, P ⟨b, 11⟩) (h12 : ∀ b, P ⟨b, 12⟩) {p : Pc} (h : p.ok) : P p := by
  obtain ⟨b, o⟩ := p
  obtain ⟨l, u⟩ := h
  have l : 1 ≤ o := l
  have u : o ≤ 12 := u
  rcases (by omega : o = 1 ∨ o = 2 ∨ o = 3 ∨ o = 4 ∨ o = 5 ∨ o = 6 ∨ o = 7 ∨ o = 8 ∨ o = 9 ∨ o = 10 ∨ o = 11 ∨ o = 12) with e | e | e | e | e | e | e | e | e | e | e | e <;> subst e
  · exact h1 b
  · exact h2 b
  · exact h3 b
  · exact h4 b
  · exact h5 b
  · exact h6 b
  · exact h7 b
  · exact h8 b
  · exact h9 b
  · exact h10 b
  · exact h11 b
  · exact h12 b
def Pc.text (p : Pc) : Str := p.w ++ " " ++ (toString p.o : String)
theorem piece_read {p : Pc} (h : p.ok) : ∀ S, sem_piece_in [.str p.text] S = some (.ok p.D, S) := by
  intro S
  revert S
  refine pc_all (P := fun p => ∀ S, sem_piece_in [.str p.text] S = some (.ok p.D, S)) ?_ ?_ ?_ ?_ ?_ ?_ ?_ ?_ ?_ ?_ ?_ ?_ h <;> (intro b S; cases b <;> kernel_rfl)
theorem text_len {p : Pc} (h : p.ok) : p.text.length ≤ 7 := by
  refine pc_all (P := fun p => p.text.length ≤ 7) ?_ ?_ ?_ ?_ ?_ ?_ ?_ ?_ ?_ ?_ ?_ ?_ h <;> (intro b; cases b <;> decide +kernel)
theorem text_comma {p : Pc} (h : p.ok) : 44 ∉ p.text.cps.toList := by
  refine pc_all (P := fun p => 44 ∉ p.text.cps.toList) ?_ ?_ ?_ ?_ ?_ ?_ ?_ ?_ ?_ ?_ ?_ ?_ h <;> (intro b; cases b <;> decide +kernel)
theorem comp_mapL {α : Type} {t : TgP} {tt : List SV → M Bool} {fe : List SV → M D} {sdw : List SV} {f g : α → D} : ∀ (r : List α) (acc : List D), (∀ x ∈ r, ∃ sd1, t (f x) sdw = some sd1 ∧ tt sd1 = M.pure true ∧ fe sd1 = M.pure (g x)) → acc.length + r.length ≤ lim → compS t tt fe sdw (r.map f) acc = M.pure (acc ++ r.map g)
  | [], acc, _, _ => by rw [List.map_nil, List.map_nil, List.append_nil]; rfl
  | x :: r, acc, h, hl => by
    obtain ⟨sd1, e1, e2, e3⟩ := h x List.mem_cons_self
    rw [List.length_cons] at hl
    rw [List.map_cons]
    unfold compS
    rw [e1]
    simp only
    rw [e2, e3]
    show (if acc.length < lim then compS t tt fe sdw (r.map f) (acc ++ [g x]) else M.stuck) = _
    rw [if_pos (by omega), comp_mapL r (acc ++ [g x]) (fun d hd => h d (List.mem_cons_of_mem _ hd)) (by rw [List.length_append]; simp; omega), List.append_assoc]
    rfl
theorem txts_map : ∀ ys : List Str, txts (ys.map D.str) = some ys
  | [] => rfl
  | y :: ys => by
    rw [List.map_cons]
    unfold txts
    rw [txts_map ys]
    rfl
def rowText (r : List Pc) : Str := Txt.join ", " (r.map Pc.text)
theorem sum_text : ∀ r : List Pc, (∀ p ∈ r, p.ok) → ((r.map Pc.text).map (·.length)).sum ≤ 7 * r.length
  | [], _ => Nat.le_refl _
  | p :: r, h => by
    have a := text_len (h p List.mem_cons_self)
    have b := sum_text r fun q hq => h q (List.mem_cons_of_mem _ hq)
    rw [List.map_cons, List.map_cons, List.sum_cons, List.length_cons]
    omega
theorem join_row (r : List Pc) (h : Row r) : dJoin ", " (.lst (r.map fun p => D.str p.text)) = M.pure (.str (rowText r)) := by
  have e : (r.map fun p => D.str p.text) = (r.map Pc.text).map D.str := by rw [List.map_map]; rfl
  have l := sum_text r h.1
  have l2 := h.2
  rw [e]
  unfold dJoin
  simp only [txts_map]
  rw [if_pos]
  · rfl
  · have e2 : (", " : Str).length = 2 := by decide
    rw [e2, List.length_map]
    omega
theorem text_made {p : Pc} (h : p.ok) : ∀ S, M.bind (dAdd (.str p.w) (.str " ")) (fun x => M.bind (dStr (.int p.o)) fun y => dAdd x y) S = some (.ok (.str p.text), S) := by
  refine pc_all (P := fun p => ∀ S, M.bind (dAdd (.str p.w) (.str " ")) (fun x => M.bind (dStr (.int p.o)) fun y => dAdd x y) S = some (.ok (.str p.text), S)) ?_ ?_ ?_ ?_ ?_ ?_ ?_ ?_ ?_ ?_ ?_ ?_ h <;> (intro b S; cases b <;> kernel_rfl)
theorem words_ok (r : List Pc) (h : Row r) : sem__law_words [.lst (r.map Pc.D)] = M.pure (.str (rowText r)) := by
  refine pure_of fun S => ?_
  unfold sem__law_words
  rw [run_fn]
  refine ⟨rfl, ?_⟩
  show RunS pk__law_words.1 [.val (.lst (r.map Pc.D)), .no, .no] S _ _ _ _
  unfold pk__law_words
  simp only [runS_seq, runS_ret, run_bind, run_pure, getv, List.getElem?_cons_zero, List.getElem?_cons_succ]
  unfold lcS
  simp only [run_bind, run_pure, getv, List.getElem?_cons_zero, List.getElem?_cons_succ]
  unfold seqOf
  simp only [run_bind, run_pure]
  rw [comp_mapL (g := fun p => D.str p.text)]
  · show Ev.Run (isStr (.str ", ")) S _
    show Ev.Run (dJoin ", " (.lst ([] ++ r.map fun p => D.str p.text))) S _
    rw [List.nil_append, join_row r h]
    exact ⟨rfl, rfl⟩
  · intro p hp
    refine ⟨[.val (.lst (r.map Pc.D)), .val (.str p.w), .val (.int p.o)], rfl, rfl, ?_⟩
    funext S
    exact text_made (h.1 p hp) S
  · have := h.2
    show 0 + r.length ≤ lim
    unfold lim
    omega
theorem row_text_len (r : List Pc) (h : Row r) : (rowText r).length ≤ 1000 := by
  have a := sum_text r h.1
  have b := h.2
  unfold rowText
  rw [TL.join_eq]
  have c := StrLaws.join_length_le ", " (r.map Pc.text)
  have e2 : (", " : Str).length = 2 := by decide
  rw [List.length_map, e2] at c
  omega
theorem split_row (r : List Pc) (h : Row r) (hne : r ≠ []) : dSplit (rowText r) (.str ", ") = M.pure (.lst (r.map fun p => D.str p.text)) := by
  have l := row_text_len r h
  show (if ((", " : Str).length == 0) = false ∧ (rowText r).length + 2 ≤ lim then M.pure (D.lst ((Txt.split (rowText r) ", ").map .str)) else M.stuck) = _
  rw [if_pos ⟨by decide, by unfold lim; omega⟩]
  unfold rowText
  rw [TL.split_join (s := 44) (S := [32]) rfl (by decide +kernel) (by simpa using hne) (fun q hq => by
    obtain ⟨p, hp, rfl⟩ := List.mem_map.mp hq
    exact text_comma (h.1 p hp)), List.map_map]
  rfl
def pP (p : Pc) : PyData := .tuple [.str p.w, .int p.o]
theorem toPs_row : ∀ r : List Pc, toPs (r.map Pc.D) = some (r.map pP)
  | [] => rfl
  | p :: r => by
    rw [List.map_cons, List.map_cons]
    unfold toPs
    rw [toPs_row r]
    rfl
theorem lay_row : ∀ r : List Pc, PyData.canLayAll0 (r.map pP) = true
  | [] => rfl
  | p :: r => by
    rw [List.map_cons]
    unfold PyData.canLayAll0
    rw [lay_row r, Bool.and_true]
    obtain ⟨b, o⟩ := p
    cases b <;> kernel_rfl
theorem depth_row : ∀ r : List Pc, PyData.depthAll (r.map pP) ≤ 1
  | [] => by decide
  | p :: r => by
    rw [List.map_cons]
    unfold PyData.depthAll
    have a := depth_row r
    have b : PyData.depth (pP p) = 1 := rfl
    omega
theorem none_in (r : List Pc) : dIn false .non (.lst (r.map Pc.D)) = M.pure (.bl false) := by
  have sh : SeqAt.shaped (.list (r.map pP)) = true := by
    unfold SeqAt.shaped
    rw [Bool.and_eq_true]
    refine ⟨?_, decide_eq_true ?_⟩
    · unfold PyData.canLay0
      exact lay_row r
    · unfold PyData.depth
      have := depth_row r
      omega
  have none_ : ((r.map pP).any fun z => PyData.eqv z .none) = false := by
    rw [List.any_eq_false]
    intro z hz
    obtain ⟨p, _, rfl⟩ := List.mem_map.mp hz
    unfold pP
    simp [PyData.eqv]
  unfold dIn
  simp only [toPs_row]
  show (match some PyData.none, some (r.map pP) with
    | some p, some ps => if SeqAt.shaped p = true ∧ SeqAt.shaped (.list ps) = true then M.pure (D.bl (if false = true then !(ps.any fun z => PyData.eqv z p) else ps.any fun z => PyData.eqv z p)) else M.stuck
    | _, _ => M.stuck) = _
  simp only
  rw [if_pos ⟨by decide +kernel, sh⟩, none_]
  rfl
theorem len_lst (ds : List D) : dLen (.lst ds) = M.pure (.int ds.length) := rfl
theorem pattern_in_ok (r : List Pc) (h : Row r) (hne : r ≠ []) : sem_pattern_in [.str (rowText r)] = M.pure (patD r) := by
  refine pure_of fun S => ?_
  unfold sem_pattern_in
  rw [run_fn]
  refine ⟨rfl, ?_⟩
  show RunS pk_pattern_in.1 [.val (.str (rowText r)), .no, .no] S _ _ _ _
  unfold pk_pattern_in
  have gt : decide ((8 : Int) < ((r.length : Nat) : Int)) = false := decide_eq_false (by have := h.2; omega)
  have pat := pat_of_row r h.1 h.2
  simp only [runS_seq, runS_tgt, run_bind, run_pure, getv, List.getElem?_cons_zero, List.getElem?_cons_succ]
  unfold lcS
  simp only [run_bind, run_pure, getv, List.getElem?_cons_zero, List.getElem?_cons_succ]
  show Ev.Run (dSplit (rowText r) (.str ", ")) S _
  rw [split_row r h hne]
  simp only [run_bind, run_pure]
  unfold seqOf
  simp only [run_bind, run_pure]
  rw [comp_mapL (g := Pc.D)]
  · simp only [run_pure, setT, List.set_cons_zero, List.set_cons_succ, List.nil_append]
    have tu : dTuple (.lst (r.map Pc.D)) = M.pure (rowD r) := rfl
    have gt2 : decide ((8 : Int) < (((r.map Pc.D).length : Nat) : Int)) = false := by rw [List.length_map]; exact gt
    simp only [runS_if, runS_seq, runS_ret, runS_next, run_bind, run_pure, run_ite, getv, List.getElem?_cons_zero, List.getElem?_cons_succ, none_in r, toB_bl, Bool.false_eq_true, if_false, on1, len_lst, cmp_int, gt2, tu, row_ok, pat]
    trivial
  · intro p hp
    refine ⟨[.val (.str (rowText r)), .no, .val (.str p.text)], rfl, rfl, ?_⟩
    funext S
    exact piece_read (h.1 p hp) S
  · have := h.2
    show 0 + r.length ≤ lim
    unfold lim
    omega
theorem is_pat (r : List Pc) : dIs false (patD r) .non = M.pure (.bl false) := rfl
theorem read_ok (r : List Pc) (h : Row r) (hne : r ≠ []) : sem_Pattern_read [.str (rowText r)] = M.pure (patD r) := by
  refine pure_of fun S => ?_
  unfold sem_Pattern_read
  rw [run_fn]
  refine ⟨rfl, ?_⟩
  show RunS pk_Pattern_read.1 [.val (.str (rowText r)), .no] S _ _ _ _
  unfold pk_Pattern_read
  simp only [runS_seq, runS_tgt, runS_if, runS_ret, runS_next, run_bind, run_pure, run_ite, getv, setT, List.getElem?_cons_zero, List.getElem?_cons_succ, List.set_cons_zero, List.set_cons_succ, on2, isa_str_str, toB_bl, if_true, pattern_in_ok r h hne, is_pat, Bool.false_eq_true, if_false]
  trivial
theorem law_read_ok (r : List Pc) (h : Row r) (hne : r ≠ []) : sem__law_read [.lst (r.map Pc.D)] = M.pure (patD r) := by
  refine pure_of fun S => ?_
  unfold sem__law_read
  rw [run_fn]
  refine ⟨rfl, ?_⟩
  show RunS pk__law_read.1 [.val (.lst (r.map Pc.D))] S _ _ _ _
  unfold pk__law_read
  simp only [runS_seq, runS_ret, run_bind, run_pure, getv, List.getElem?_cons_zero, List.getElem?_cons_succ, words_ok r h, read_ok r h hne]
  trivial
end K14
set_option maxRecDepth 100000
set_option maxHeartbeats 1000000
namespace K14
open PySem Ev
def Tbs (S : List Ob) : Prop := S[0]? = some (Ob.tbl 0) ∧ S[1]? = some (Ob.tbl 1)
def CupL (S : List Ob) (n : Nat) : Prop := ∃ a b : Int, S[n]? = some (Ob.lst [.int a, .int b]) ∧ Sm 31 a ∧ 0 ≤ b
def Cup (S : List Ob) (n : Nat) : Prop := CupL S n ∧ Tbs S
def Kp (n : Nat) (S S' : List Ob) : Prop := S'.length = S.length ∧ ∀ m, m ≠ n → S'[m]? = S[m]?
theorem Kp.trans {n : Nat} {S S1 S2 : List Ob} (a : Kp n S S1) (b : Kp n S1 S2) : Kp n S S2 := ⟨b.1.trans a.1, fun m h => (b.2 m h).trans (a.2 m h)⟩
theorem Kp.set {n : Nat} {S : List Ob} {o : Ob} : Kp n S (S.set n o) := ⟨List.length_set .., fun m h => List.getElem?_set_ne (fun z => h z.symm)⟩
theorem CupL.ne {S : List Ob} {n j i : Nat} (h : CupL S n) (e : S[j]? = some (Ob.tbl i)) : j ≠ n := by
  obtain ⟨a, b, hS, _⟩ := h
  intro z
  rw [z, hS] at e
  cases e
theorem Tbs.kp {n : Nat} {S S' : List Ob} (h : Tbs S) (c : CupL S n) (k : Kp n S S') : Tbs S' := ⟨(k.2 0 (c.ne h.1)).trans h.1, (k.2 1 (c.ne h.2)).trans h.2⟩
theorem ix_ref {S : List Ob} {n : Nat} {ds : List D} {i : Int} {d : D} {P : D → List Ob → Prop} (h : S[n]? = some (.lst ds)) (hi : L2.atI ds i = some d) : Ev.Run (dIx (.ref n) (.int i)) S P ↔ P d S := by
  have e : dIx (.ref n) (.int i) S = some (.ok d, S) := by
    show (match S[n]? with
      | some (.lst ds) => (match L2.atI ds i with | some x => (some (Except.ok x, S) : Option (Except Exn D × List Ob)) | none => none)
      | _ => none) = _
    rw [h]
    simp only
    rw [hi]
  unfold Ev.Run
  rw [e]
theorem item_set {S : List Ob} {n i : Nat} {j : Int} {ds : List D} {d : D} {sd : List SV} (h0 : sd[0]? = some (.val (.ref n))) (h : S[n]? = some (.lst ds)) (hi : L2.ixN ds.length j = some i) : itemT (getv 0) (fun _ => M.pure (.int j)) d sd S = some (sd, S.set n (.lst (ds.set i d))) := by
  unfold itemT getv
  rw [h0]
  show (match S[n]? with
    | some (.lst ds) => (match L2.ixN ds.length j with | some i => some (sd, S.set n (.lst (ds.set i d))) | none => none)
    | _ => none) = _
  rw [h]
  simp only
  rw [hi]
theorem set_get {S : List Ob} {n : Nat} {o p : Ob} (h : S[n]? = some o) : (S.set n p)[n]? = some p := List.getElem?_set_self (List.getElem?_eq_some_iff.mp h).1
theorem sip_ok (S : List Ob) (n : Nat) (many : Int) (h : Cup S n) (hm : 0 < many) (hm2 : many ≤ 1000) : Ev.Run (sem__law_sip [.ref n, .int many]) S fun d S' => ∃ r, d = .int r ∧ 0 ≤ r ∧ r < many ∧ Cup S' n ∧ Kp n S S' := by
  obtain ⟨hc, ht⟩ := h
  have hc0 := hc
  obtain ⟨a, b, hS, ha, hb⟩ := hc
  unfold sem__law_sip
  rw [run_fn]
  refine ⟨rfl, ?_⟩
  show RunS pk__law_sip.1 [.val (.ref n), .val (.int many), .no] S _ _ _ _
  unfold pk__law_sip
  simp only [runS_seq, runS_tgt, runS_if, runS_ret, runS_next, run_bind, run_pure, run_ite, getv, List.getElem?_cons_zero, List.getElem?_cons_succ, List.set_cons_zero, List.set_cons_succ, on1, on2]
  rw [ix_ref hS (show L2.atI [D.int a, D.int b] 0 = some (.int a) from rfl)]
  rw [mulS ha (show Sm 20 48271 from ⟨by decide, by decide⟩) (by decide)]
  simp only [run_pure, add_int, int_int, mod_int (show (0 : Int) < 2147483629 by decide)]
  rw [item_set (j := 0) (i := 0) rfl hS rfl]
  have hS1 := set_get (p := .lst [.int ((a * 48271 + 11) % 2147483629), .int b]) hS
  simp only [List.getElem?_cons_zero, List.getElem?_cons_succ, run_pure, List.set_cons_zero, List.set_cons_succ]
  rw [ix_ref hS1 (show L2.atI [D.int ((a * 48271 + 11) % 2147483629), D.int b] 1 = some (.int b) from rfl)]
  have s1 : Sm 31 ((a * 48271 + 11) % 2147483629) := ⟨Int.emod_nonneg _ (by decide), Int.lt_trans (Int.emod_lt_of_pos _ (by decide)) (by decide)⟩
  simp only [cmp_int, run_pure, toB_bl]
  by_cases b0 : 0 < b
  · rw [if_pos (decide_eq_true b0)]
    rw [ix_ref hS1 (show L2.atI [D.int ((a * 48271 + 11) % 2147483629), D.int b] 1 = some (.int b) from rfl)]
    have dm : dDivmod (.int b) (.int many) = M.pure (.tup [.int (b / many), .int (b % many)]) := by
      show (if divmOk b many = true then M.pure (D.tup [.int (b / many), .int (b % many)]) else M.stuck) = _
      rw [if_pos]
      unfold divmOk
      rw [Bool.and_eq_true]
      refine ⟨decide_eq_true hm, ?_⟩
      rw [PyProof.noPylong_small (by omega)]
      rfl
    rw [dm]
    simp only [run_pure, tupT, consT, List.length_cons, List.length_nil, Nat.reduceAdd, if_true]
    rw [item_set (j := 1) (i := 1) rfl hS1 rfl]
    simp only [setT, List.set_cons_zero, List.set_cons_succ, List.getElem?_cons_zero, List.getElem?_cons_succ, run_pure]
    have kk := Kp.trans (Kp.set (n := n) (S := S) (o := .lst [.int ((a * 48271 + 11) % 2147483629), .int b])) (Kp.set (o := .lst [.int ((a * 48271 + 11) % 2147483629), .int (b / many)]))
    exact ⟨b % many, rfl, Int.emod_nonneg _ (by omega), Int.emod_lt_of_pos _ hm, ⟨⟨_, _, set_get hS1, s1, Int.ediv_nonneg hb (by omega)⟩, ht.kp hc0 kk⟩, kk⟩
  · rw [if_neg (by simpa using b0)]
    rw [ix_ref hS1 (show L2.atI [D.int ((a * 48271 + 11) % 2147483629), D.int b] 0 = some (.int _) from rfl)]
    rw [fdiv_int (show divOk 1021 = true by decide +kernel)]
    simp only [run_pure, int_int, mod_int hm]
    have kk := Kp.set (n := n) (S := S) (o := .lst [.int ((a * 48271 + 11) % 2147483629), .int b])
    exact ⟨_, rfl, Int.emod_nonneg _ (by omega), Int.emod_lt_of_pos _ hm, ⟨⟨_, _, hS1, s1, hb⟩, ht.kp hc0 kk⟩, kk⟩
theorem low_pos {t b : Int} (ht : 0 ≤ t) (hb : 0 ≤ b) (h : 0 < t + b) : 0 < lowT t b + lowB t b := by
  have g0 : 0 < Int.gcd t b := by
    rw [Int.gcd_pos_iff]
    omega
  have e1 : lowT t b * (Int.gcd t b : Int) = t := Int.ediv_mul_cancel (Int.gcd_dvd_left t b)
  have e2 : lowB t b * (Int.gcd t b : Int) = b := Int.ediv_mul_cancel (Int.gcd_dvd_right t b)
  have p1 : 0 ≤ lowT t b := Int.ediv_nonneg ht (by omega)
  have p2 : 0 ≤ lowB t b := Int.ediv_nonneg hb (by omega)
  by_cases z : lowT t b + lowB t b = 0
  · have z1 : lowT t b = 0 := by omega
    have z2 : lowB t b = 0 := by omega
    rw [z1, Int.zero_mul] at e1
    rw [z2, Int.zero_mul] at e2
    omega
  · omega
theorem low_scale {t b k : Int} (hk : 0 < k) : lowT (k * t) (k * b) = lowT t b ∧ lowB (k * t) (k * b) = lowB t b := by
  have e : (Int.gcd (k * t) (k * b) : Int) = k * (Int.gcd t b : Int) := by
    rw [Int.gcd_mul_left]
    have : ((k.natAbs : Nat) : Int) = k := by omega
    rw [Int.natCast_mul, this]
  unfold lowT lowB
  rw [e, Int.mul_ediv_mul_of_pos _ _ hk, Int.mul_ediv_mul_of_pos _ _ hk]
  exact ⟨rfl, rfl⟩
theorem low_cross {t b t2 b2 : Int} (ht : 0 ≤ t) (hb : 0 ≤ b) (h : 0 < t + b) (ht2 : 0 ≤ t2) (hb2 : 0 ≤ b2) (h2 : 0 < t2 + b2) (e : t * b2 = t2 * b) : lowT t b = lowT t2 b2 ∧ lowB t b = lowB t2 b2 := by
  have a1 : (t + b) * t2 = (t2 + b2) * t := by grind
  have a2 : (t + b) * b2 = (t2 + b2) * b := by grind
  have z1 := low_scale (t := t2) (b := b2) h
  have z2 := low_scale (t := t) (b := b) h2
  rw [a1, a2] at z1
  exact ⟨z2.1.symm.trans z1.1, z2.2.symm.trans z1.2⟩
end K14
set_option maxRecDepth 100000
set_option maxHeartbeats 1000000
namespace K14
open PySem Ev
def RowN (r : List Pc) : Prop := (∀ p ∈ r, p.ok) ∧ 1 ≤ r.length ∧ r.length ≤ 8
theorem RowN.row {r : List Pc} (h : RowN r) : Row r := ⟨h.1, h.2.2⟩
theorem RowN.ne {r : List Pc} (h : RowN r) : r ≠ [] := by
  intro e
  have := h.2.1
  rw [e] at this
  simp at this
theorem sip_wp {S : List Ob} {n : Nat} {many : Int} {P : D → List Ob → Prop} (h : Cup S n) (hm : 0 < many) (hm2 : many ≤ 1000) (q : ∀ r S', 0 ≤ r → r < many → Cup S' n → Kp n S S' → P (.int r) S') : Wp (sem__law_sip [.ref n, .int many]) S P :=
  ((sip_ok S n many h hm hm2).mono fun d S' z => by obtain ⟨r, rfl, a, b, c, k⟩ := z; exact q r S' a b c k).wp
end K14
set_option maxRecDepth 100000
set_option maxHeartbeats 1000000
namespace K14
open PySem Ev
structure Vec (k : Nat) (v : Int × Int) : Prop where
  t : Sm k v.1
  b : Sm k v.2
  p : 0 < v.1 + v.2
theorem Vec.mono {j k : Nat} {v : Int × Int} (h : Vec j v) (l : j ≤ k) : Vec k v := ⟨h.t.mono l, h.b.mono l, h.p⟩
end K14
set_option maxRecDepth 100000
set_option maxHeartbeats 1000000
namespace K14
open PySem Ev
theorem Mx.ext {m n : Mx} (h1 : m.a = n.a) (h2 : m.b = n.b) (h3 : m.c = n.c) (h4 : m.d = n.d) : m = n := by
  cases m
  cases n
  simp at h1 h2 h3 h4
  simp [h1, h2, h3, h4]
theorem Mx.assoc (m n o : Mx) : (m.mul n).mul o = m.mul (n.mul o) := by
  apply Mx.ext <;> (simp only [Mx.mul]; grind)
theorem Mx.one_mul (m : Mx) : one.mul m = m := by
  apply Mx.ext <;> (simp only [Mx.mul, one]; grind)
theorem Mx.mul_one (m : Mx) : m.mul one = m := by
  apply Mx.ext <;> (simp only [Mx.mul, one]; grind)
def mat (r : List Pc) : Mx := (chainM one 1 r).1
theorem chain_from : ∀ (r : List Pc) (m : Mx) (t : Int), (chainM m t r).1 = m.mul (mat r)
  | [], m, t => (Mx.mul_one m).symm
  | p :: r, m, t => by
    show (chainM (m.mul p.m) _ r).1 = m.mul (chainM (one.mul p.m) _ r).1
    rw [chain_from r, chain_from r, Mx.one_mul, Mx.assoc]
theorem mat_cons (p : Pc) (r : List Pc) : mat (p :: r) = p.m.mul (mat r) := by
  show (chainM (one.mul p.m) _ r).1 = _
  rw [chain_from, Mx.one_mul]
theorem top_mul (m n : Mx) (t b : Int) : (m.mul n).top t b = m.top (n.top t b) (n.bot t b) := by
  simp only [Mx.mul, Mx.top, Mx.bot]
  grind
theorem bot_mul (m n : Mx) (t b : Int) : (m.mul n).bot t b = m.bot (n.top t b) (n.bot t b) := by
  simp only [Mx.mul, Mx.top, Mx.bot]
  grind
def lowP (v : Int × Int) : Int × Int := (lowT v.1 v.2, lowB v.1 v.2)
end K14
set_option maxRecDepth 100000
set_option maxHeartbeats 1000000
set_option maxRecDepth 100000
set_option maxHeartbeats 1000000
namespace K14
open PySem Ev
theorem ix0 (v : Int × Int) : dIx (pairD v) (.int 0) = M.pure (.int v.1) := ix_tup rfl
theorem ix1 (v : Int × Int) : dIx (pairD v) (.int 1) = M.pure (.int v.2) := ix_tup rfl
end K14
set_option maxRecDepth 100000
set_option maxHeartbeats 1000000
set_option maxRecDepth 100000
set_option maxHeartbeats 1000000
set_option maxRecDepth 100000
set_option maxHeartbeats 1000000
namespace K14
open PySem Ev
def scl (r : List Pc) : Int := (chainM one 1 r).2
theorem chain_scl : ∀ (r : List Pc) (m : Mx) (t : Int), (chainM m t r).2 = t * scl r
  | [], m, t => by show t = t * 1; omega
  | p :: r, m, t => by
    have e1 : (chainM m t (p :: r)).2 = (if p.rail then t else t * p.o) * scl r := chain_scl r _ _
    have e2 : scl (p :: r) = (if p.rail then 1 else 1 * p.o) * scl r := chain_scl r _ _
    rw [e1, e2]
    split <;> grind
def SameN (r q : List Pc) : Prop := (mat r).a * scl q = (mat q).a * scl r ∧ (mat r).b * scl q = (mat q).b * scl r ∧ (mat r).c * scl q = (mat q).c * scl r ∧ (mat r).d * scl q = (mat q).d * scl r
theorem bd_sm {k : Nat} {x : Int} (h : Sm k x) : Bd k x := .mk h.nat
theorem Row.sm41 {r : List Pc} (h : Row r) : (mat r).S 41 ∧ Sm 41 (scl r) := by
  obtain ⟨a, b⟩ := chain_sm r one 1 1 h.1 one_sm ⟨by decide, by decide⟩
  have l := h.2
  exact ⟨a.mono (by omega), b.mono (by omega)⟩
end K14
set_option maxRecDepth 100000
set_option maxHeartbeats 1000000
namespace K14
open PySem Ev
theorem go_filter {α : Type} {f g : α → D} {p : α → Bool} {t : TgP} {tt : List SV → M Bool} {fe : List SV → M D} {sdw : List SV} {S : List Ob} {P : List D → List Ob → Prop} (xs : List α)
    (step : ∀ x ∈ xs, ∃ sd1, t (f x) sdw = some sd1 ∧ tt sd1 = M.pure (p x) ∧ (p x = true → fe sd1 = M.pure (g x))) (l : xs.length ≤ lim) (h : P ((xs.filter p).map g) S) : Wp (compS t tt fe sdw (xs.map f) []) S P := by
  refine go_comp (J := fun ds acc S' => S' = S ∧ ∃ ys : List α, ds = ys.map f ∧ (∀ y ∈ ys, y ∈ xs) ∧ acc.length + ys.length ≤ lim ∧ acc ++ (ys.filter p).map g = (xs.filter p).map g) ?_ ?_ _ _ _ ⟨rfl, xs, rfl, fun _ h => h, by simpa using l, rfl⟩
  · rintro d ds acc S' ⟨rfl, ys, e, hm, hl, he⟩
    rcases ys with _ | ⟨y, ys⟩
    · cases e
    rw [List.map_cons] at e
    cases e
    obtain ⟨sd1, e1, e2, e3⟩ := step y (hm y List.mem_cons_self)
    rw [List.length_cons] at hl
    refine ⟨sd1, e1, by omega, go_val e2 ?_⟩
    cases hp : p y with
    | false =>
      rw [if_neg (by simp)]
      rw [List.filter_cons_of_neg (by simp [hp])] at he
      exact ⟨rfl, ys, rfl, fun z hz => hm z (List.mem_cons_of_mem _ hz), by omega, he⟩
    | true =>
      rw [if_pos rfl]
      rw [List.filter_cons_of_pos hp, List.map_cons] at he
      refine go_val (e3 hp) ⟨rfl, ys, rfl, fun z hz => hm z (List.mem_cons_of_mem _ hz), ?_, ?_⟩
      · rw [List.length_append, List.length_singleton]; omega
      · rw [List.append_assoc]; exact he
  · rintro acc S' ⟨rfl, ys, e, hm, hl, he⟩
    rcases ys with _ | ⟨y, ys⟩
    · rw [← he] at h
      simpa using h
    · cases e
end K14
set_option maxRecDepth 100000
set_option maxHeartbeats 1000000
namespace K14
open PySem Ev
instance (r q : List Pc) : Decidable (SameN r q) := by unfold SameN; exact inferInstance
end K14
set_option maxRecDepth 100000
set_option maxHeartbeats 1000000
namespace K14
open PySem Ev
def rtN : Nat → Nat
  | 0 => 0
  | n + 1 => if (rtN n + 1) * (rtN n + 1) ≤ n + 1 then rtN n + 1 else rtN n
@[irreducible] def rt (n : Int) : Int := rtN n.toNat
end K14
set_option maxRecDepth 100000
set_option maxHeartbeats 1000000
namespace K14
open PySem Ev
theorem between_ok (x lo hi : Int) : sem_is_between [.int x, .int lo, .int hi] = M.pure (.bl (decide (lo ≤ x ∧ x ≤ hi))) := by
  refine pure_wp fun S => ?_
  (unfold sem_is_between; refine Ev.go_fn rfl ?_; unfold pk_is_between; simp only [Ev.slots, List.map_cons, List.map_nil, List.length_cons, List.length_nil, List.cons_append, List.nil_append, List.replicate, Nat.reduceSub, Nat.reduceAdd])
  (repeat regstrif_gather)
  refine go_val (is_integer_ok x) ?_
  (repeat regstrif_gather)
  unfold chainD
  (repeat regstrif_gather)
  refine ite_d (fun c => ?_) (fun c => ?_)
  · (repeat regstrif_gather)
    exact ⟨by simp [c], rfl⟩
  · (repeat regstrif_gather)
    exact ⟨by simp [c], rfl⟩
def ladD (r : List Pc) (v : Int × Int) : D := .ins 5 [pairD v, patD r]
theorem check_pat_ok (r : List Pc) : sem_check_pattern [patD r] = M.pure .non := by
  refine pure_wp fun S => ?_
  (unfold sem_check_pattern; refine Ev.go_fn rfl ?_; unfold pk_check_pattern; simp only [Ev.slots, List.map_cons, List.map_nil, List.length_cons, List.length_nil, List.cons_append, List.nil_append, List.replicate, Nat.reduceSub, Nat.reduceAdd])
  (repeat regstrif_gather)
  refine go_val (r := .bl true) rfl ?_
  (repeat regstrif_gather)
  exact ⟨trivial, rfl⟩
theorem ladder_ok (r : List Pc) (v : Int × Int) (d : D) (hc : sem_check_resistance [d] = M.pure .non) (hp : sem_pair_of [d] = M.pure (pairD v)) : sem_LadderX_initX [patD r, d] = M.pure (ladD r v) := by
  refine pure_wp fun S => ?_
  unfold sem_LadderX_initX
  refine go_mk rfl ?_
  unfold pk_LadderX_initX
  simp only [Ev.slots, List.map_cons, List.map_nil, List.length_cons, List.length_nil, List.cons_append, List.nil_append, List.replicate, Nat.reduceSub, Nat.reduceAdd]
  (repeat regstrif_gather)
  refine go_val (check_pat_ok r) ?_
  (repeat regstrif_gather)
  refine go_val hc ?_
  (repeat regstrif_gather)
  refine gs_sup (by exact rfl) (by exact rfl) ?_
  (repeat regstrif_gather)
  refine go_val hp ?_
  (repeat regstrif_gather)
  refine ⟨rfl, ?_⟩
  unfold pk_RunX_initX
  simp only [Ev.slots, List.map_cons, List.map_nil, List.length_cons, List.length_nil, List.cons_append, List.nil_append, List.replicate, Nat.reduceSub, Nat.reduceAdd]
  (repeat regstrif_gather)
  refine gs_setF (by exact rfl) (by exact rfl) ?_
  (repeat regstrif_gather)
  refine ⟨_, rfl, ?_⟩
  (repeat regstrif_gather)
  refine ⟨_, rfl, ?_⟩
  (repeat regstrif_gather)
  refine gs_setF (by exact rfl) (by exact rfl) ?_
  (repeat regstrif_gather)
  refine ⟨_, rfl, ?_⟩
  (repeat regstrif_gather)
  exact ⟨_, rfl, rfl, rfl⟩
end K14
set_option maxRecDepth 100000
set_option maxHeartbeats 1000000
set_option maxRecDepth 100000
set_option maxHeartbeats 1000000
namespace K14
open PySem Ev
theorem ad_ge : ∀ {r : List Pc}, (∀ p ∈ r, p.ok) → scl r ≤ (mat r).a ∧ scl r ≤ (mat r).d ∧ 0 ≤ (mat r).b ∧ 0 ≤ (mat r).c ∧ 0 < scl r
  | [], _ => by decide
  | p :: r, h => by
    obtain ⟨i1, i2, i3, i4, i5⟩ := ad_ge (r := r) fun q hq => h q (List.mem_cons_of_mem _ hq)
    have hp := h p List.mem_cons_self
    have e2 : scl (p :: r) = (if p.rail then 1 else 1 * p.o) * scl r := chain_scl r _ _
    obtain ⟨b, o⟩ := p
    have o1 : 1 ≤ o := hp.1
    rw [mat_cons, e2]
    cases b with
    | true =>
      have oc := Int.mul_nonneg (show 0 ≤ o by omega) i4
      have od := Int.mul_nonneg (show 0 ≤ o by omega) (show 0 ≤ (mat r).d by omega)
      simp only [Mx.mul, Pc.m, if_true]
      omega
    | false =>
      have oa := Int.mul_le_mul_of_nonneg_left i1 (show 0 ≤ o by omega)
      have od := Int.mul_le_mul_of_nonneg_left i2 (show 0 ≤ o by omega)
      have ob := Int.mul_nonneg (show 0 ≤ o by omega) i3
      have oc := Int.mul_nonneg (show 0 ≤ o by omega) i4
      have os := Int.mul_pos (show 0 < o by omega) i5
      simp only [Mx.mul, Pc.m, Bool.false_eq_true, if_false, Int.one_mul]
      omega
end K14
set_option maxRecDepth 100000
set_option maxHeartbeats 2000000
set_option maxRecDepth 100000
set_option maxHeartbeats 1000000
set_option maxRecDepth 100000
set_option maxHeartbeats 1000000
set_option maxRecDepth 100000
set_option maxHeartbeats 1000000
namespace K14
open PySem Ev
theorem left_big {k : Nat} {x y : Int} (hx : Sm k x) (hy : Sm k y) : ∃ n, n < 2 * k + 3 ∧ Left x y n := by
  refine ⟨2 * k + 2, by omega, 2 * k, ?_, by split <;> omega⟩
  have p : (0 : Int) < 2 ^ k := Int.pow_pos (by decide)
  have a : x * y ≤ x * 2 ^ k := Int.mul_le_mul_of_nonneg_left (Int.le_of_lt hy.2) hx.1
  have b : x * 2 ^ k < 2 ^ k * 2 ^ k := Int.mul_lt_mul_of_pos_right hx.2 p
  rw [Nat.two_mul, Int.pow_add]
  exact Int.lt_of_le_of_lt a b
theorem common_big {k : Nat} (a b : Int) (ha : Sm k a) (hb : Sm k b) (hk : k ≤ 100000) : sem_common [.int a, .int b] = M.pure (.int (Int.gcd a b)) := by
  refine pure_wp fun S => ?_
  obtain ⟨n, hn, hl⟩ := left_big ha hb
  (unfold sem_common; refine Ev.go_fn rfl ?_; unfold pk_common; simp only [Ev.slots, List.map_cons, List.map_nil, List.length_cons, List.length_nil, List.cons_append, List.nil_append, List.replicate, Nat.reduceSub, Nat.reduceAdd])
  (repeat regstrif_gather)
  refine gs_iter (J := fun n sd S' => S' = S ∧ ∃ x y : Int, sd = [.val (.int x), .val (.int y)] ∧ 0 ≤ x ∧ 0 ≤ y ∧ Int.gcd x y = Int.gcd a b ∧ Left x y n) ?_ n _ _ (by unfold bigW; omega) ⟨rfl, a, b, rfl, ha.1, hb.1, rfl, hl⟩
  rintro n sd S' ⟨rfl, x, y, rfl, hx, hy, hg, hn⟩
  (repeat regstrif_gather)
  refine ite_d (fun h => ?_) (fun h => ?_)
  · (repeat regstrif_gather)
    obtain ⟨n', l', h'⟩ := left_step hx h hn
    exact ⟨n', l', rfl, y, x % y, rfl, hy, Int.emod_nonneg x (by omega), (gcd_step x y hx h).trans hg, h'⟩
  · have y0 : y = 0 := by omega
    subst y0
    (repeat regstrif_gather)
    simp only [Int.gcd_zero] at hg
    refine ⟨?_, rfl⟩
    rw [← hg]
    congr 1
    omega
theorem gcd_sm {k : Nat} {a b : Int} (ha : Sm k a) (hb : Sm k b) : Sm k (Int.gcd a b : Int) := by
  by_cases z : a = 0
  · subst z
    rw [Int.gcd_zero_left]
    exact ⟨by omega, by have := hb.2; have := hb.1; omega⟩
  · have d : (Int.gcd a b : Int) ∣ a := Int.gcd_dvd_left _ _
    have l := Int.le_of_dvd (by have := ha.1; omega) d
    exact ⟨by omega, Int.lt_of_le_of_lt l ha.2⟩
theorem gcd_pos2 {a b : Int} (h : a ≠ 0 ∨ b ≠ 0) : 0 < (Int.gcd a b : Int) := by
  have : 0 < Int.gcd a b := by rw [Int.gcd_pos_iff]; exact h
  omega
theorem lowest_big {k : Nat} (t b : Int) (ht : Sm k t) (hb : Sm k b) (h : 0 < t + b) (hk : k ≤ 9000) : sem_lowest [.int t, .int b] = M.pure (pairD (lowP (t, b))) := by
  refine pure_wp fun S => ?_
  have g0 : 0 < (Int.gcd t b : Int) := gcd_pos2 (by have := ht.1; have := hb.1; omega)
  have g1 := gcd_sm ht hb
  have bg : Bd k (Int.gcd t b : Int) := bd_sm g1
  have bg : Bd 9000 (Int.gcd t b : Int) := bd_sm (g1.mono hk)
  (unfold sem_lowest; refine Ev.go_fn rfl ?_; unfold pk_lowest; simp only [Ev.slots, List.map_cons, List.map_nil, List.length_cons, List.length_nil, List.cons_append, List.nil_append, List.replicate, Nat.reduceSub, Nat.reduceAdd])
  (repeat regstrif_gather)
  refine go_val (common_big t b ht hb (by omega)) ?_
  (repeat regstrif_gather)
  exact ⟨rfl, rfl⟩
theorem shown_big {k : Nat} (m : Mx) (v : Int × Int) (hm : m.S k) (ht : Sm 100 v.1) (hb : Sm 100 v.2) (hk : k ≤ 8000) (h0 : 0 < m.top v.1 v.2 + m.bot v.1 v.2) : sem_shown [m.D, pairD v] = M.pure (pairD (lowP (m.top v.1 v.2, m.bot v.1 v.2))) := by
  refine pure_wp fun S => ?_
  have t1 : Sm (k + 100 + 1) (m.top v.1 v.2) := (hm.a.mul ht).add (hm.b.mul hb)
  have t2 : Sm (k + 100 + 1) (m.bot v.1 v.2) := (hm.c.mul ht).add (hm.d.mul hb)
  have ld : sem_led [m.D, pairD v] = M.pure (.tup [.int (m.top v.1 v.2), .int (m.bot v.1 v.2)]) := led_ok (k := k + 100) m v.1 v.2 (hm.mono (by omega)) (ht.mono (by omega)) (hb.mono (by omega)) (by omega)
  (unfold sem_shown; refine Ev.go_fn rfl ?_; unfold pk_shown; simp only [Ev.slots, List.map_cons, List.map_nil, List.length_cons, List.length_nil, List.cons_append, List.nil_append, List.replicate, Nat.reduceSub, Nat.reduceAdd])
  (repeat regstrif_gather)
  refine go_val ld ?_
  (repeat regstrif_gather)
  exact go_val (lowest_big _ _ t1 t2 h0 (by omega)) ⟨rfl, rfl⟩
def Sc (s : Int) (m q : Mx) : Prop := m.a = s * q.a ∧ m.b = s * q.b ∧ m.c = s * q.c ∧ m.d = s * q.d
theorem Sc.refl (m : Mx) : Sc 1 m m := ⟨by omega, by omega, by omega, by omega⟩
theorem Sc.trans {s t : Int} {m n q : Mx} (h : Sc s m n) (l : Sc t n q) : Sc (s * t) m q := by
  obtain ⟨h1, h2, h3, h4⟩ := h
  obtain ⟨l1, l2, l3, l4⟩ := l
  refine ⟨?_, ?_, ?_, ?_⟩
  · rw [h1, l1, Int.mul_assoc]
  · rw [h2, l2, Int.mul_assoc]
  · rw [h3, l3, Int.mul_assoc]
  · rw [h4, l4, Int.mul_assoc]
theorem Sc.mul {s t : Int} {m n p q : Mx} (h : Sc s m p) (l : Sc t n q) : Sc (s * t) (m.mul n) (p.mul q) := by
  obtain ⟨h1, h2, h3, h4⟩ := h
  obtain ⟨l1, l2, l3, l4⟩ := l
  refine ⟨?_, ?_, ?_, ?_⟩ <;> simp only [Mx.mul, h1, h2, h3, h4, l1, l2, l3, l4] <;> grind
theorem Sc.top {s : Int} {m q : Mx} (h : Sc s m q) (t b : Int) : m.top t b = s * q.top t b := by
  obtain ⟨h1, h2, h3, h4⟩ := h
  simp only [Mx.top, h1, h2]
  grind
theorem Sc.bot {s : Int} {m q : Mx} (h : Sc s m q) (t b : Int) : m.bot t b = s * q.bot t b := by
  obtain ⟨h1, h2, h3, h4⟩ := h
  simp only [Mx.bot, h3, h4]
  grind
def Mx.pow (m : Mx) : Nat → Mx
  | 0 => one
  | n + 1 => m.mul (m.pow n)
theorem Mx.pow_add (m : Mx) (i : Nat) : ∀ j, m.pow (j + i) = (m.pow j).mul (m.pow i)
  | 0 => by rw [Nat.zero_add]; exact (Mx.one_mul _).symm
  | j + 1 => by
    rw [Nat.add_right_comm]
    show m.mul (m.pow (j + i)) = (m.mul (m.pow j)).mul _
    rw [Mx.pow_add m i j, Mx.assoc]
theorem Mx.pow_sq (m : Mx) : ∀ h, m.pow (2 * h) = (m.mul m).pow h
  | 0 => rfl
  | h + 1 => by
    show m.mul (m.mul (m.pow (2 * h))) = (m.mul m).mul _
    rw [Mx.pow_sq m h, Mx.assoc]
theorem Sc.pow {s : Int} {m q : Mx} (h : Sc s m q) : ∀ n : Nat, Sc (s ^ n) (m.pow n) (q.pow n)
  | 0 => by
    show Sc (s ^ 0) one one
    rw [Int.pow_zero]
    exact Sc.refl one
  | n + 1 => by
    rw [Int.pow_succ, Int.mul_comm]
    exact h.mul (Sc.pow h n)
structure Mx.P (m : Mx) : Prop where
  a : 0 < m.a
  b : 0 ≤ m.b
  c : 0 ≤ m.c
  d : 0 < m.d
theorem Mx.P.mul {m n : Mx} (h : m.P) (l : n.P) : (m.mul n).P := by
  have h1 := h.a
  have h2 := h.d
  have l1 := l.a
  have l2 := l.d
  refine ⟨?_, ?_, ?_, ?_⟩ <;> simp only [Mx.mul]
  · have := Int.mul_pos h1 l1
    have := Int.mul_nonneg h.b l.c
    omega
  · have := Int.mul_nonneg (Int.le_of_lt h1) l.b
    have := Int.mul_nonneg h.b (Int.le_of_lt l2)
    omega
  · have := Int.mul_nonneg h.c (Int.le_of_lt l1)
    have := Int.mul_nonneg (Int.le_of_lt h2) l.c
    omega
  · have := Int.mul_nonneg h.c l.b
    have := Int.mul_pos h2 l2
    omega
theorem Mx.P.one : (K14.one).P := ⟨by decide, by decide, by decide, by decide⟩
theorem Mx.P.pow {m : Mx} (h : m.P) : ∀ n, (m.pow n).P
  | 0 => Mx.P.one
  | n + 1 => h.mul (Mx.P.pow h n)
theorem Mx.P.vec {m : Mx} (h : m.P) {t b : Int} (ht : 0 ≤ t) (hb : 0 ≤ b) (p : 0 < t + b) : 0 ≤ m.top t b ∧ 0 ≤ m.bot t b ∧ 0 < m.top t b + m.bot t b := by
  have h1 := Int.mul_nonneg (Int.le_of_lt h.a) ht
  have h2 := Int.mul_nonneg h.b hb
  have h3 := Int.mul_nonneg h.c ht
  have h4 := Int.mul_nonneg (Int.le_of_lt h.d) hb
  have : 0 < m.a * t ∨ 0 < m.d * b := by
    rcases Int.lt_or_le 0 t with z | z
    · exact .inl (Int.mul_pos h.a z)
    · exact .inr (Int.mul_pos h.d (by omega))
  unfold Mx.top Mx.bot
  omega
theorem mat_P {r : List Pc} (h : ∀ p ∈ r, p.ok) : (mat r).P := by
  obtain ⟨h1, h2, h3, h4, h5⟩ := ad_ge h
  exact ⟨by omega, h3, h4, by omega⟩
def Mx.g (m : Mx) : Int := (Int.gcd (Int.gcd m.a m.b : Int) (Int.gcd m.c m.d : Int) : Int)
def Mx.slim (m : Mx) : Mx := ⟨m.a / m.g, m.b / m.g, m.c / m.g, m.d / m.g⟩
theorem slim_sc {m : Mx} (h : m.P) : 0 < m.g ∧ Sc m.g m m.slim := by
  have p : 0 < m.g := gcd_pos2 (.inl (by have := gcd_pos2 (b := m.b) (.inl (show m.a ≠ 0 by have := h.a; omega)); omega))
  have d1 : m.g ∣ (Int.gcd m.a m.b : Int) := Int.gcd_dvd_left _ _
  have d2 : m.g ∣ (Int.gcd m.c m.d : Int) := Int.gcd_dvd_right _ _
  have e1 : m.g ∣ m.a := Int.dvd_trans d1 (Int.gcd_dvd_left _ _)
  have e2 : m.g ∣ m.b := Int.dvd_trans d1 (Int.gcd_dvd_right _ _)
  have e3 : m.g ∣ m.c := Int.dvd_trans d2 (Int.gcd_dvd_left _ _)
  have e4 : m.g ∣ m.d := Int.dvd_trans d2 (Int.gcd_dvd_right _ _)
  exact ⟨p, (Int.mul_ediv_cancel' e1).symm, (Int.mul_ediv_cancel' e2).symm, (Int.mul_ediv_cancel' e3).symm, (Int.mul_ediv_cancel' e4).symm⟩
theorem slim_P {m : Mx} (h : m.P) : m.slim.P := by
  obtain ⟨p, s1, s2, s3, s4⟩ := slim_sc h
  have po : ∀ {x y : Int}, 0 < x → x = m.g * y → 0 < y := fun {x y} h e => by
    rcases Int.lt_or_le 0 y with z | z
    · exact z
    · have := Int.mul_nonneg (Int.le_of_lt p) (show 0 ≤ -y by omega)
      have e2 : m.g * -y = -(m.g * y) := by grind
      omega
  exact ⟨po h.a s1, Int.ediv_nonneg h.b (Int.le_of_lt p), Int.ediv_nonneg h.c (Int.le_of_lt p), po h.d s4⟩
theorem slim_S {m : Mx} {k : Nat} (h : m.S k) : m.slim.S k := by
  have q : ∀ {x : Int}, Sm k x → Sm k (x / m.g) := fun {x} h => ⟨Int.ediv_nonneg h.1 (Int.natCast_nonneg _), Int.lt_of_le_of_lt (Int.ediv_le_self _ h.1) h.2⟩
  exact ⟨q h.a, q h.b, q h.c, q h.d⟩
theorem slim_ok {k : Nat} {m : Mx} (h : m.S k) (p : m.P) (hk : k ≤ 9000) : sem_slim [m.D] = M.pure m.slim.D := by
  refine pure_wp fun S => ?_
  obtain ⟨gp, _⟩ := slim_sc p
  have g1 := gcd_sm h.a h.b
  have g2 := gcd_sm h.c h.d
  have bg : Bd k m.g := bd_sm (gcd_sm g1 g2)
  have cg := common_big _ _ g1 g2 (by omega)
  have ca := common_big _ _ h.a h.b (by omega)
  have cc := common_big _ _ h.c h.d (by omega)
  have cg : sem_common [.int (Int.gcd m.a m.b : Int), .int (Int.gcd m.c m.d : Int)] = M.pure (.int m.g) := cg
  have bg : Bd 9000 m.g := bd_sm ((gcd_sm g1 g2).mono hk)
  unfold Mx.D Mx.slim
  generalize m.g = g at *
  (unfold sem_slim; refine Ev.go_fn rfl ?_; unfold pk_slim; simp only [Ev.slots, List.map_cons, List.map_nil, List.length_cons, List.length_nil, List.cons_append, List.nil_append, List.replicate, Nat.reduceSub, Nat.reduceAdd])
  (repeat regstrif_gather)
  refine go_val ca ?_
  (repeat regstrif_gather)
  refine go_val cc ?_
  (repeat regstrif_gather)
  refine go_val cg ?_
  (repeat regstrif_gather)
  refine go_filter (p := fun _ => true) (f := Ev.D.int) (g := fun x => Ev.D.int (x / g)) [m.a, m.b, m.c, m.d] ?_ (by simp only [List.length_cons, List.length_nil]; decide) ?_
  · intro x hx
    refine ⟨_, rfl, rfl, fun _ => ?_⟩
    refine pure_wp fun S => ?_
    (repeat regstrif_gather)
    exact ⟨rfl, rfl⟩
  · (repeat regstrif_gather)
    show Wp (dTuple (.lst [.int (m.a / g), .int (m.b / g), .int (m.c / g), .int (m.d / g)])) S _
    exact go_pure ⟨rfl, rfl⟩
theorem rep_even {q r : Mx} (hr : r.P) (h : Nat) : ∃ s : Int, 0 < s ∧ Sc s (q.mul (r.pow (2 * h))) (q.mul ((r.mul r).slim.pow h)) := by
  obtain ⟨g, l⟩ := slim_sc (hr.mul hr)
  refine ⟨(r.mul r).g ^ h, Int.pow_pos g, ?_⟩
  rw [Mx.pow_sq]
  have := (Sc.refl q).mul (l.pow h)
  rw [Int.one_mul] at this
  exact this
theorem rep_odd {q r : Mx} (hq : q.P) (hr : r.P) (h : Nat) : ∃ s : Int, 0 < s ∧ Sc s (q.mul (r.pow (2 * h + 1))) ((q.mul r).slim.mul ((r.mul r).slim.pow h)) := by
  obtain ⟨g1, l1⟩ := slim_sc (hq.mul hr)
  obtain ⟨g2, l2⟩ := slim_sc (hr.mul hr)
  refine ⟨(q.mul r).g * (r.mul r).g ^ h, Int.mul_pos g1 (Int.pow_pos g2), ?_⟩
  have e : q.mul (r.pow (2 * h + 1)) = (q.mul r).mul ((r.mul r).pow h) := by
    show q.mul (r.mul (r.pow (2 * h))) = _
    rw [Mx.pow_sq, Mx.assoc]
  rw [e]
  exact l1.mul (l2.pow h)
theorem repeated_wp {k : Nat} {m : Mx} {n f : Nat} (h : m.S k) (k1 : 1 ≤ k) (p : m.P) (hn : n < 2 ^ f) (hf : f < 60) (hk : (k + 1) * 2 ^ f ≤ 8000) (S : List Ob) : Wp (sem_repeated [m.D, .int n]) S fun d S' => S' = S ∧ ∃ (q : Mx) (s : Int), d = q.D ∧ 0 < s ∧ Sc s (m.pow n) q ∧ q.P ∧ q.S 8000 := by
  (unfold sem_repeated; refine Ev.go_fn rfl ?_; unfold pk_repeated; simp only [Ev.slots, List.map_cons, List.map_nil, List.length_cons, List.length_nil, List.cons_append, List.nil_append, List.replicate, Nat.reduceSub, Nat.reduceAdd])
  (repeat regstrif_gather)
  refine gs_iter (J := fun f sd S' => S' = S ∧ ∃ (q r : Mx) (s : Int) (c : Nat) (k : Nat), sd = [.val m.D, .val (.int c), .val q.D, .val r.D] ∧ c < 2 ^ f ∧ (k + 1) * 2 ^ f ≤ 8000 ∧ 0 < s ∧ Sc s (m.pow n) (q.mul (r.pow c)) ∧ q.P ∧ r.P ∧ q.S k ∧ r.S k) ?_ f _ _ (by unfold bigW; omega) ⟨rfl, one, m, 1, n, k, rfl, hn, hk, by decide, by rw [Mx.one_mul]; exact Sc.refl _, Mx.P.one, p, one_sm.mono k1, h⟩
  rintro f sd S' ⟨rfl, q, r, s, c, k, rfl, hc, hk, hs, sc, hq, hr, sq, sr⟩
  (repeat regstrif_gather)
  refine ite_d (fun z => ?_) (fun z => ?_)
  · rcases f with _ | f
    · simp at hc
      omega
    have e2 : 2 ^ (f + 1) = 2 * 2 ^ f := by rw [Nat.pow_succ, Nat.mul_comm]
    have hk2 : ((2 * k + 1) + 1) * 2 ^ f ≤ 8000 := by
      have : ((2 * k + 1) + 1) * 2 ^ f = (k + 1) * 2 ^ (f + 1) := by rw [e2]; grind
      omega
    have p2 : 0 < 2 ^ f := Nat.pow_pos (by decide)
    have kb : 2 * k + 2 ≤ 8000 := by
      have := Nat.le_mul_of_pos_right (2 * k + 1 + 1) p2
      omega
    have s2 : (r.mul r).S (2 * k + 1) := (sr.mul sr).mono (by omega)
    have s1 : (q.mul r).S (2 * k + 1) := (sq.mul sr).mono (by omega)
    have j1 := joined_ok q r sq sr (by omega)
    have j2 := joined_ok r r sr sr (by omega)
    have l1 := slim_ok s1 (hq.mul hr) (by omega)
    have l2 := slim_ok s2 (hr.mul hr) (by omega)
    have ch : ((c : Int) / 2) = ((c / 2 : Nat) : Int) := by omega
    (repeat regstrif_gather)
    refine ite_d (fun y => ?_) (fun y => ?_)
    · (repeat regstrif_gather)
      refine go_val j1 ?_
      (repeat regstrif_gather)
      refine go_val l1 ?_
      (repeat regstrif_gather)
      refine go_val j2 ?_
      (repeat regstrif_gather)
      refine go_val l2 ?_
      (repeat regstrif_gather)
      obtain ⟨t, t0, tc⟩ := rep_odd hq hr (c / 2)
      have ce : 2 * (c / 2) + 1 = c := by omega
      rw [ce] at tc
      exact ⟨f, by omega, rfl, _, _, s * t, c / 2, 2 * k + 1, by rw [ch], by omega, hk2, Int.mul_pos hs t0, sc.trans tc, slim_P (hq.mul hr), slim_P (hr.mul hr), slim_S s1, slim_S s2⟩
    · (repeat regstrif_gather)
      refine go_val j2 ?_
      (repeat regstrif_gather)
      refine go_val l2 ?_
      (repeat regstrif_gather)
      obtain ⟨t, t0, tc⟩ := rep_even (q := q) hr (c / 2)
      have ce : 2 * (c / 2) = c := by omega
      rw [ce] at tc
      exact ⟨f, by omega, rfl, _, _, s * t, c / 2, 2 * k + 1, by rw [ch], by omega, hk2, Int.mul_pos hs t0, sc.trans tc, hq, slim_P (hr.mul hr), sq.mono (by omega), slim_S s2⟩
  · have c0 : c = 0 := by omega
    subst c0
    (repeat regstrif_gather)
    have e : q.mul (r.pow 0) = q := Mx.mul_one q
    rw [e] at sc
    have p2 : 0 < 2 ^ f := Nat.pow_pos (by decide)
    have := Nat.le_mul_of_pos_right (k + 1) p2
    exact ⟨rfl, q, s, rfl, hs, sc, hq, sq.mono (by omega)⟩
end K14
set_option maxRecDepth 100000
set_option maxHeartbeats 1000000
namespace K14
open PySem Ev
theorem lowP_scale {s t b : Int} (hs : 0 < s) (ht : 0 ≤ t) (hb : 0 ≤ b) (h : 0 < t + b) : lowP (s * t, s * b) = lowP (t, b) := by
  have h1 := Int.mul_nonneg (Int.le_of_lt hs) ht
  have h2 := Int.mul_nonneg (Int.le_of_lt hs) hb
  have h3 : 0 < s * t + s * b := by rw [← Int.mul_add]; exact Int.mul_pos hs h
  obtain ⟨u1, u2⟩ := low_cross h1 h2 h3 ht hb h (by grind)
  unfold lowP
  rw [u1, u2]
def valP (r : List Pc) (v : Int × Int) (n : Nat) : Int × Int := lowP (((mat r).pow n).top v.1 v.2, ((mat r).pow n).bot v.1 v.2)
theorem Row.s41 {r : List Pc} (h : Row r) : (mat r).S 41 := h.sm41.1
theorem value_ok {r : List Pc} (h : Row r) {v : Int × Int} (hv : Vec 100 v) {n : Nat} (hn : n ≤ 100) : sem_Ladder_value_at [ladD r v, .int n] = M.pure (pairD (valP r v n)) := by
  refine pure_wp fun S => ?_
  have mp := mat_P h.1
  (unfold sem_Ladder_value_at; refine Ev.go_fn rfl ?_; unfold pk_Ladder_value_at; simp only [Ev.slots, List.map_cons, List.map_nil, List.length_cons, List.length_nil, List.cons_append, List.nil_append, List.replicate, Nat.reduceSub, Nat.reduceAdd])
  (repeat regstrif_gather)
  refine go_val (r := patD r) rfl ?_
  refine go_val (attr_chain r) ?_
  (repeat regstrif_gather)
  refine go_use (repeated_wp h.s41 (by decide) mp (n := n) (f := 7) (by omega) (by decide) (by decide) S) ?_
  rintro d S' ⟨rfl, q, s, rfl, hs, sc, qp, qs⟩
  (repeat regstrif_gather)
  refine go_val (r := pairD v) rfl ?_
  (repeat regstrif_gather)
  obtain ⟨q1, q2, q3⟩ := qp.vec hv.t.1 hv.b.1 hv.p
  refine go_val (shown_big q v qs hv.t hv.b (by decide) q3) ?_
  refine ⟨?_, rfl⟩
  unfold valP
  rw [sc.top, sc.bot, lowP_scale hs q1 q2 q3]
theorem check_count_ok (n : Nat) (hn : n ≤ 100) : sem_check_count [.int n] = M.pure .non := by
  refine pure_wp fun S => ?_
  (unfold sem_check_count; refine Ev.go_fn rfl ?_; unfold pk_check_count; simp only [Ev.slots, List.map_cons, List.map_nil, List.length_cons, List.length_nil, List.cons_append, List.nil_append, List.replicate, Nat.reduceSub, Nat.reduceAdd])
  (repeat regstrif_gather)
  refine go_val (between_ok _ _ _) ?_
  rw [decide_eq_true (show (0 : Int) ≤ (n : Int) ∧ (n : Int) ≤ 100 by omega)]
  (repeat regstrif_gather)
  exact ⟨trivial, rfl⟩
theorem call_ok {r : List Pc} (h : Row r) {v : Int × Int} (hv : Vec 100 v) {n : Nat} (hn : n ≤ 100) : sem_RunX_callX [ladD r v, .int n] = M.pure (pairD (valP r v n)) := by
  refine pure_wp fun S => ?_
  (unfold sem_RunX_callX; refine Ev.go_fn rfl ?_; unfold pk_RunX_callX; simp only [Ev.slots, List.map_cons, List.map_nil, List.length_cons, List.length_nil, List.cons_append, List.nil_append, List.replicate, Nat.reduceSub, Nat.reduceAdd])
  (repeat regstrif_gather)
  refine go_val (check_count_ok n hn) ?_
  (repeat regstrif_gather)
  refine go_val (r := sem_Ladder_value_at) rfl ?_
  exact go_val (value_ok h hv hn) ⟨rfl, rfl⟩
end K14
set_option maxRecDepth 100000
set_option maxHeartbeats 4000000
namespace K14
open PySem Ev
inductive Pl : D → Prop
  | non : Pl .non
  | bl (b : Bool) : Pl (.bl b)
  | int (i : Int) (h : Bd 4500 i) : Pl (.int i)
  | str (x : Str) (h : SeqAt.shaped (PyData.str x) = true) : Pl (.str x)
  | tup (ds : List D) (l : ds.length ≤ 100) (h : ∀ d ∈ ds, Pl d) : Pl (.tup ds)
  | lst (ds : List D) (l : ds.length ≤ 100) (h : ∀ d ∈ ds, Pl d) : Pl (.lst ds)
  | dct : Pl (.dct [] [])
def kdT : D → Option TyN
  | .non => some .none_
  | .bl _ => some .bool
  | .int _ => some .int
  | .str _ => some .str
  | .tup _ => some .tuple
  | .lst _ => some .list
  | .dct _ _ => some .dict
  | _ => none
def tyB : D → TyN → Bool
  | .non, .none_ => true
  | .bl _, .bool => true
  | .bl _, .int => true
  | .int _, .int => true
  | .str _, .str => true
  | .tup _, .tuple => true
  | .lst _, .list => true
  | .dct _ _, .dict => true
  | _, _ => false
theorem isa_t {known : Nat → Bool} {sub : Nat → Nat → Option Bool} {d : D} {a t : TyN} (h : kdT d = some a) : dIsa known sub d (.ty t) = M.pure (.bl (tyB d t)) := by
  cases d <;> cases h <;> cases t <;> rfl
def isI : D → Bool
  | .int _ => true
  | _ => false
theorem isa_p {known : Nat → Bool} {sub : Nat → Nat → Option Bool} {d : D} (h : Pl d) (t : TyN) : dIsa known sub d (.ty t) = M.pure (.bl (tyB d t)) := by
  cases h <;> exact isa_t rfl
theorem Pl.int? {d : D} (h : Pl d) : (∃ i, d = .int i ∧ Bd 4500 i) ∨ (∃ b, d = .bl b) ∨ (tyB d .int = false ∧ isI d = false) := by
  cases h with
  | int i h => exact .inl ⟨i, rfl, h⟩
  | bl b => exact .inr (.inl ⟨b, rfl⟩)
  | _ => exact .inr (.inr ⟨rfl, rfl⟩)
theorem Pl.tup? {d : D} (h : Pl d) : (∃ ds, d = .tup ds ∧ ds.length ≤ 100 ∧ ∀ x ∈ ds, Pl x) ∨ (tyB d .tuple = false ∧ ∀ ds, d ≠ .tup ds) := by
  cases h with
  | tup ds l h => exact .inl ⟨ds, rfl, l, h⟩
  | _ => exact .inr ⟨rfl, fun _ => nofun⟩
theorem Pl.str? {d : D} (h : Pl d) : (∃ x, d = .str x ∧ SeqAt.shaped (PyData.str x) = true) ∨ (tyB d .str = false ∧ ∀ x, d ≠ .str x) := by
  cases h with
  | str x h => exact .inl ⟨x, rfl, h⟩
  | _ => exact .inr ⟨rfl, fun _ => nofun⟩
theorem isint_p {d : D} (h : Pl d) : sem_is_integer [d] = M.pure (.bl (isI d)) := by
  refine pure_wp fun S => ?_
  rcases h.int? with ⟨i, rfl, _⟩ | ⟨b, rfl⟩ | ⟨h1, h2⟩
  · (unfold sem_is_integer; refine Ev.go_fn rfl ?_; unfold pk_is_integer; simp only [Ev.slots, List.map_cons, List.map_nil, List.length_cons, List.length_nil, List.cons_append, List.nil_append, List.replicate, Nat.reduceSub, Nat.reduceAdd])
    (repeat regstrif_gather)
    (refine go_val (isa_t rfl) ?_; simp only [tyB]; (repeat regstrif_gather))
    (refine go_val (isa_t rfl) ?_; simp only [tyB]; (repeat regstrif_gather))
    exact ⟨rfl, rfl⟩
  · (unfold sem_is_integer; refine Ev.go_fn rfl ?_; unfold pk_is_integer; simp only [Ev.slots, List.map_cons, List.map_nil, List.length_cons, List.length_nil, List.cons_append, List.nil_append, List.replicate, Nat.reduceSub, Nat.reduceAdd])
    (repeat regstrif_gather)
    (refine go_val (isa_t rfl) ?_; simp only [tyB]; (repeat regstrif_gather))
    (refine go_val (isa_t rfl) ?_; simp only [tyB]; (repeat regstrif_gather))
    exact ⟨rfl, rfl⟩
  · (unfold sem_is_integer; refine Ev.go_fn rfl ?_; unfold pk_is_integer; simp only [Ev.slots, List.map_cons, List.map_nil, List.length_cons, List.length_nil, List.cons_append, List.nil_append, List.replicate, Nat.reduceSub, Nat.reduceAdd])
    (repeat regstrif_gather)
    refine go_val (isa_p h _) ?_
    rw [h1, h2]
    (repeat regstrif_gather)
    (first | exact ⟨rfl, rfl⟩ | exact go_pure ⟨rfl, rfl⟩)
def btw (d : D) (a b : Int) : Bool := match d with
  | .int i => decide (a ≤ i) && decide (i ≤ b)
  | _ => false
theorem btw_no {d : D} (h : isI d = false) (a b : Int) : btw d a b = false := by
  cases d <;> first | rfl | cases h
theorem isI_int {d : D} (h : isI d = true) : ∃ i, d = .int i := by
  cases d <;> first | exact ⟨_, rfl⟩ | cases h
theorem chain_le (i a b : Int) (sd : List SV) (l : sd = [.val (.int i), .val (.int a), .val (.int b)]) : chainD (dCmpI fun i j => decide (i ≤ j)) (dCmpI fun i j => decide (i ≤ j)) (getv 1) (getv 0) (getv 2) sd = M.pure (.bl (btw (.int i) a b)) := by
  subst l
  show (if decide (a ≤ i) = true then M.pure (D.bl (decide (i ≤ b))) else M.pure (.bl false)) = M.pure (.bl (decide (a ≤ i) && decide (i ≤ b)))
  cases decide (a ≤ i) <;> rfl
theorem between_p {d : D} (h : Pl d) (a b : Int) : sem_is_between [d, .int a, .int b] = M.pure (.bl (btw d a b)) := by
  refine pure_wp fun S => ?_
  have e := isint_p h
  rcases hI : isI d with _ | _
  · rw [hI] at e
    (unfold sem_is_between; refine Ev.go_fn rfl ?_; unfold pk_is_between; simp only [Ev.slots, List.map_cons, List.map_nil, List.length_cons, List.length_nil, List.cons_append, List.nil_append, List.replicate, Nat.reduceSub, Nat.reduceAdd])
    (repeat regstrif_gather)
    refine go_val e ?_
    (repeat regstrif_gather)
    first | exact ⟨by rw [btw_no hI], rfl⟩ | exact go_pure ⟨by rw [btw_no hI], rfl⟩
  · obtain ⟨i, rfl⟩ := isI_int hI
    (unfold sem_is_between; refine Ev.go_fn rfl ?_; unfold pk_is_between; simp only [Ev.slots, List.map_cons, List.map_nil, List.length_cons, List.length_nil, List.cons_append, List.nil_append, List.replicate, Nat.reduceSub, Nat.reduceAdd])
    (repeat regstrif_gather)
    refine go_val e ?_
    rw [hI]
    (repeat regstrif_gather)
    refine go_val (chain_le i a b _ rfl) ?_
    exact ⟨rfl, rfl⟩
end K14
set_option maxRecDepth 100000
set_option maxHeartbeats 4000000
namespace K14
open PySem Ev
theorem pow_S {m : Mx} {k : Nat} (h : m.S k) (k1 : 1 ≤ k) : ∀ n : Nat, (m.pow n).S ((k + 1) * n + k)
  | 0 => one_sm.mono (by omega)
  | n + 1 => (h.mul (pow_S h k1 n)).mono (by rw [Nat.mul_succ]; omega)
end K14
set_option maxRecDepth 100000
set_option maxHeartbeats 4000000
namespace K14
open PySem Ev
def wordB (w : Str) : Bool := decide (w = "rail") || decide (w = "rung")
def pieceB : D → Bool
  | .tup [.str w, d] => wordB w && btw d 1 12
  | _ => false
theorem pieceB_not {d : D} (h : ∀ ds, d ≠ .tup ds) : pieceB d = false := by
  cases d <;> first | rfl | exact absurd rfl (h _)
theorem pieceB_two {a b : D} (h : ∀ x, a ≠ .str x) : pieceB (.tup [a, b]) = false := by
  cases a <;> first | rfl | exact absurd rfl (h _)
theorem pieceB_one (a : D) : pieceB (.tup [a]) = false := by
  cases a <;> rfl
theorem pieceB_more (a b c : D) (l : List D) : pieceB (.tup (a :: b :: c :: l)) = false := by
  cases a <;> rfl
theorem pieceB_str (w : Str) (b : D) : pieceB (.tup [.str w, b]) = (wordB w && btw b 1 12) := rfl
theorem in_words (w : Str) : dIn false (.str w) (.tup [.str "rail", .str "rung"]) = M.pure (.bl (wordB w)) := by
  show M.pure (D.bl ([("rail" : Str), "rung"].contains w)) = _
  unfold wordB
  rw [List.contains_cons, List.contains_cons, List.contains_nil, Bool.or_false]
  congr 2
theorem is_piece_p {d : D} (h : Pl d) : sem_is_piece [d] = M.pure (.bl (pieceB d)) := by
  refine pure_wp fun S => ?_
  rcases h.tup? with ⟨ds, rfl, _, hp⟩ | ⟨h1, h2⟩
  · rcases ds with _ | ⟨a, _ | ⟨b, _ | ⟨c, l⟩⟩⟩
    · (unfold sem_is_piece; refine Ev.go_fn rfl ?_; unfold pk_is_piece; simp only [Ev.slots, List.map_cons, List.map_nil, List.length_cons, List.length_nil, List.cons_append, List.nil_append, List.replicate, Nat.reduceSub, Nat.reduceAdd])
      (repeat regstrif_gather)
      (refine go_val (isa_t rfl) ?_; simp only [tyB]; (repeat regstrif_gather))
      exact ⟨rfl, rfl⟩
    · (unfold sem_is_piece; refine Ev.go_fn rfl ?_; unfold pk_is_piece; simp only [Ev.slots, List.map_cons, List.map_nil, List.length_cons, List.length_nil, List.cons_append, List.nil_append, List.replicate, Nat.reduceSub, Nat.reduceAdd])
      (repeat regstrif_gather)
      (refine go_val (isa_t rfl) ?_; simp only [tyB]; (repeat regstrif_gather))
      exact ⟨by rw [pieceB_one], rfl⟩
    · have ha := hp a (by simp)
      have hb := hp b (by simp)
      rcases ha.str? with ⟨w, rfl, _⟩ | ⟨h1, h2⟩
      · have iw := in_words w
        have ib := between_p hb 1 12
        (unfold sem_is_piece; refine Ev.go_fn rfl ?_; unfold pk_is_piece; simp only [Ev.slots, List.map_cons, List.map_nil, List.length_cons, List.length_nil, List.cons_append, List.nil_append, List.replicate, Nat.reduceSub, Nat.reduceAdd])
        (repeat regstrif_gather)
        (refine go_val (isa_t rfl) ?_; simp only [tyB]; (repeat regstrif_gather))
        (refine go_val (isa_t rfl) ?_; simp only [tyB]; (repeat regstrif_gather))
        refine go_val iw ?_
        (repeat regstrif_gather)
        cases hw : wordB w with
        | false =>
          (repeat regstrif_gather)
          rw [pieceB_str, hw]
          (first | exact ⟨rfl, rfl⟩ | exact go_pure ⟨rfl, rfl⟩)
        | true =>
          (repeat regstrif_gather)
          refine go_val ib ?_
          exact ⟨by rw [pieceB_str, hw, Bool.true_and], rfl⟩
      · (unfold sem_is_piece; refine Ev.go_fn rfl ?_; unfold pk_is_piece; simp only [Ev.slots, List.map_cons, List.map_nil, List.length_cons, List.length_nil, List.cons_append, List.nil_append, List.replicate, Nat.reduceSub, Nat.reduceAdd])
        (repeat regstrif_gather)
        (refine go_val (isa_t rfl) ?_; simp only [tyB]; (repeat regstrif_gather))
        refine go_val (isa_p ha _) ?_
        rw [h1]
        (repeat regstrif_gather)
        exact ⟨by rw [pieceB_two h2], rfl⟩
    · (unfold sem_is_piece; refine Ev.go_fn rfl ?_; unfold pk_is_piece; simp only [Ev.slots, List.map_cons, List.map_nil, List.length_cons, List.length_nil, List.cons_append, List.nil_append, List.replicate, Nat.reduceSub, Nat.reduceAdd])
      (repeat regstrif_gather)
      (refine go_val (isa_t rfl) ?_; simp only [tyB]; (repeat regstrif_gather))
      refine ite_d (fun z => ?_) (fun z => ?_)
      · simp only [List.length_cons] at z
        omega
      · (repeat regstrif_gather)
        exact ⟨by rw [pieceB_more], rfl⟩
  · (unfold sem_is_piece; refine Ev.go_fn rfl ?_; unfold pk_is_piece; simp only [Ev.slots, List.map_cons, List.map_nil, List.length_cons, List.length_nil, List.cons_append, List.nil_append, List.replicate, Nat.reduceSub, Nat.reduceAdd])
    (repeat regstrif_gather)
    refine go_val (isa_p h _) ?_
    rw [h1]
    (repeat regstrif_gather)
    exact ⟨by rw [pieceB_not h2], rfl⟩
theorem bls_map (f : D → Bool) : ∀ ds : List D, bls (ds.map fun d => .bl (f d)) = some (ds.map f)
  | [] => rfl
  | d :: ds => by
    rw [List.map_cons, List.map_cons]
    unfold bls
    rw [bls_map f ds]
    rfl
theorem all_map (f : D → Bool) (ds : List D) : dAll (.lst (ds.map fun d => .bl (f d))) = M.pure (.bl (ds.all f)) := by
  unfold dAll
  simp only [bls_map]
  congr 2
  rw [List.all_map]
  rfl
def numB : D → Bool
  | .int i => decide (0 ≤ i)
  | .tup [.int a, .int b] => (decide (0 ≤ a) && decide (1 ≤ b)) || (decide (a = 1) && decide (b = 0))
  | _ => false
def resB : D → Bool
  | .int i => decide (0 ≤ i) && decide (i ≤ 1000000000000)
  | .tup [.int a, .int b] => ((decide (0 ≤ a) && decide (1 ≤ b)) || (decide (a = 1) && decide (b = 0))) && (decide (a ≤ 1000000000000) && decide (b ≤ 1000000000000))
  | _ => false
inductive Sh : D → Prop
  | int (i : Int) (h : Bd 4500 i) : Sh (.int i)
  | two (a b : Int) (ha : Bd 4500 a) (hb : Bd 4500 b) : Sh (.tup [.int a, .int b])
theorem Pl.sh {d : D} (h : Pl d) : Sh d ∨ (numB d = false ∧ resB d = false ∧ ((isI d = false ∧ ∀ ds, d ≠ .tup ds) ∨ ∃ ds, d = .tup ds ∧ (∀ x ∈ ds, Pl x) ∧ (ds.length ≠ 2 ∨ ∃ a b, ds = [a, b] ∧ (isI a && isI b) = false))) := by
  rcases h.tup? with ⟨ds, rfl, _, hp⟩ | ⟨h1, h2⟩
  · rcases ds with _ | ⟨a, _ | ⟨b, _ | ⟨c, l⟩⟩⟩
    · exact .inr ⟨rfl, rfl, .inr ⟨_, rfl, hp, .inl (by decide)⟩⟩
    · exact .inr ⟨by cases a <;> rfl, by cases a <;> rfl, .inr ⟨_, rfl, hp, .inl (by simp)⟩⟩
    · have ha := hp a (by simp)
      have hb := hp b (by simp)
      cases hi : isI a && isI b with
      | true =>
        obtain ⟨h1, h2⟩ := Bool.and_eq_true_iff.mp hi
        obtain ⟨i, rfl⟩ := isI_int h1
        obtain ⟨j, rfl⟩ := isI_int h2
        cases ha with
        | int _ ba => cases hb with
          | int _ bb => exact .inl (.two i j ba bb)
      | false =>
        refine .inr ⟨?_, ?_, .inr ⟨_, rfl, hp, .inr ⟨a, b, rfl, hi⟩⟩⟩
        · cases a <;> cases b <;> first | rfl | cases hi
        · cases a <;> cases b <;> first | rfl | cases hi
    · exact .inr ⟨by cases a <;> cases b <;> rfl, by cases a <;> cases b <;> rfl, .inr ⟨_, rfl, hp, .inl (by simp)⟩⟩
  · cases hi : isI d with
    | true =>
      obtain ⟨i, rfl⟩ := isI_int hi
      cases h with
      | int _ b => exact .inl (.int i b)
    | false =>
      refine .inr ⟨?_, ?_, .inl ⟨rfl, h2⟩⟩
      · cases d <;> first | exact absurd rfl (h2 _) | rfl | cases hi
      · cases d <;> first | exact absurd rfl (h2 _) | rfl | cases hi
def fracB : D → Bool
  | .int i => decide (0 ≤ i)
  | .tup [.int a, .int b] => decide (0 ≤ a) && decide (1 ≤ b)
  | _ => false
inductive Odd : D → Prop
  | one (d : D) (h : Pl d) (hi : isI d = false) (ht : tyB d .tuple = false) (hu : ∀ ds, d ≠ .tup ds) : Odd d
  | len (ds : List D) (h : ds.length ≠ 2) (hp : ∀ x ∈ ds, Pl x) : Odd (.tup ds)
  | fst (a b : D) (ha : Pl a) (hb : Pl b) (h : isI a = false) : Odd (.tup [a, b])
  | snd (i : Int) (b : D) (hb : Pl b) (h : isI b = false) : Odd (.tup [.int i, b])
theorem Pl.sh2 {d : D} (h : Pl d) : Sh d ∨ (Odd d ∧ fracB d = false ∧ numB d = false ∧ resB d = false) := by
  rcases h.sh with hs | ⟨n1, n2, ⟨h1, h2⟩ | ⟨ds, rfl, hp, hl | ⟨a, b, rfl, h1⟩⟩⟩
  · exact .inl hs
  · refine .inr ⟨.one d h h1 ?_ h2, ?_, n1, n2⟩
    · rcases h.tup? with ⟨ds, rfl, _⟩ | ⟨z, _⟩
      · exact absurd rfl (h2 _)
      · exact z
    · cases d <;> first | exact absurd rfl (h2 _) | rfl | cases h1
  · refine .inr ⟨.len ds hl hp, ?_, n1, n2⟩
    rcases ds with _ | ⟨a, _ | ⟨b, _ | ⟨c, l⟩⟩⟩
    · rfl
    · cases a <;> rfl
    · exact absurd rfl hl
    · cases a <;> cases b <;> rfl
  · have ha := hp a (by simp)
    have hb := hp b (by simp)
    cases hi : isI a with
    | false =>
      refine .inr ⟨.fst a b ha hb hi, ?_, n1, n2⟩
      cases a <;> first | rfl | cases hi
    | true =>
      obtain ⟨i, rfl⟩ := isI_int hi
      have h2 : isI b = false := by simpa [isI] using h1
      refine .inr ⟨.snd i b hb h2, ?_, n1, n2⟩
      cases b <;> first | rfl | cases h2
theorem is_fraction_p {d : D} (h : Pl d) : sem_is_fraction [d] = M.pure (.bl (fracB d)) := by
  refine pure_wp fun S => ?_
  rcases h.sh2 with hs | ⟨ho, hf, _, _⟩
  · cases hs with
    | int i b =>
      (unfold sem_is_fraction; refine Ev.go_fn rfl ?_; unfold pk_is_fraction; simp only [Ev.slots, List.map_cons, List.map_nil, List.length_cons, List.length_nil, List.cons_append, List.nil_append, List.replicate, Nat.reduceSub, Nat.reduceAdd])
      (repeat regstrif_gather)
      (refine go_val (isa_t rfl) ?_; simp only [tyB]; (repeat regstrif_gather))
      refine go_val (is_integer_ok i) ?_
      (repeat regstrif_gather)
      exact ⟨rfl, rfl⟩
    | two a b ba bb =>
      (unfold sem_is_fraction; refine Ev.go_fn rfl ?_; unfold pk_is_fraction; simp only [Ev.slots, List.map_cons, List.map_nil, List.length_cons, List.length_nil, List.cons_append, List.nil_append, List.replicate, Nat.reduceSub, Nat.reduceAdd])
      (repeat regstrif_gather)
      (refine go_val (isa_t rfl) ?_; simp only [tyB]; (repeat regstrif_gather))
      refine go_val (is_integer_ok a) ?_
      (repeat regstrif_gather)
      refine go_val (is_integer_ok b) ?_
      (repeat regstrif_gather)
      refine ite_d (fun z => ?_) (fun z => ?_)
      · (repeat regstrif_gather)
        refine ⟨?_, rfl⟩
        show D.bl _ = D.bl (decide (0 ≤ a) && decide (1 ≤ b))
        rw [decide_eq_true z, Bool.true_and]
      · have z2 : fracB (.tup [.int a, .int b]) = false := by show (decide (0 ≤ a) && decide (1 ≤ b)) = false; rw [decide_eq_false z]; rfl
        rw [z2]
        (first | exact ⟨rfl, rfl⟩ | exact go_pure ⟨rfl, rfl⟩)
  · rw [hf]
    cases ho with
    | one _ hd hi ht hu =>
      have e := isint_p h
      rw [hi] at e
      (unfold sem_is_fraction; refine Ev.go_fn rfl ?_; unfold pk_is_fraction; simp only [Ev.slots, List.map_cons, List.map_nil, List.length_cons, List.length_nil, List.cons_append, List.nil_append, List.replicate, Nat.reduceSub, Nat.reduceAdd])
      (repeat regstrif_gather)
      refine go_val (isa_p h _) ?_
      rw [ht]
      (repeat regstrif_gather)
      refine go_val e ?_
      (repeat regstrif_gather)
      (first | exact ⟨rfl, rfl⟩ | exact go_pure ⟨rfl, rfl⟩)
    | len ds hl hp =>
      (unfold sem_is_fraction; refine Ev.go_fn rfl ?_; unfold pk_is_fraction; simp only [Ev.slots, List.map_cons, List.map_nil, List.length_cons, List.length_nil, List.cons_append, List.nil_append, List.replicate, Nat.reduceSub, Nat.reduceAdd])
      (repeat regstrif_gather)
      (refine go_val (isa_t rfl) ?_; simp only [tyB]; (repeat regstrif_gather))
      (first | exact ⟨rfl, rfl⟩ | exact go_pure ⟨rfl, rfl⟩)
    | fst a b ha hb hi =>
      have e := isint_p ha
      rw [hi] at e
      (unfold sem_is_fraction; refine Ev.go_fn rfl ?_; unfold pk_is_fraction; simp only [Ev.slots, List.map_cons, List.map_nil, List.length_cons, List.length_nil, List.cons_append, List.nil_append, List.replicate, Nat.reduceSub, Nat.reduceAdd])
      (repeat regstrif_gather)
      (refine go_val (isa_t rfl) ?_; simp only [tyB]; (repeat regstrif_gather))
      refine go_val e ?_
      (repeat regstrif_gather)
      (first | exact ⟨rfl, rfl⟩ | exact go_pure ⟨rfl, rfl⟩)
    | snd i b hb hi =>
      have e := isint_p hb
      rw [hi] at e
      (unfold sem_is_fraction; refine Ev.go_fn rfl ?_; unfold pk_is_fraction; simp only [Ev.slots, List.map_cons, List.map_nil, List.length_cons, List.length_nil, List.cons_append, List.nil_append, List.replicate, Nat.reduceSub, Nat.reduceAdd])
      (repeat regstrif_gather)
      (refine go_val (isa_t rfl) ?_; simp only [tyB]; (repeat regstrif_gather))
      refine go_val (is_integer_ok i) ?_
      (repeat regstrif_gather)
      refine go_val e ?_
      (repeat regstrif_gather)
      (first | exact ⟨rfl, rfl⟩ | exact go_pure ⟨rfl, rfl⟩)
theorem eq_opn (a b : Int) : dEq false (.tup [.int a, .int b]) (.tup [.int 1, .int 0]) = M.pure (.bl (decide (a = 1) && decide (b = 0))) := by
  have p1 : Pln 1 (.tup [.int a, .int b]) (.tuple [.int a, .int b]) := pln_tup (pll_cons pln_int (pll_cons pln_int pll_nil))
  have p2 : Pln 1 (.tup [.int 1, .int 0]) (.tuple [.int 1, .int 0]) := pln_tup (pll_cons pln_int (pll_cons pln_int pll_nil))
  have e := eq_pln (P := a = 1 ∧ b = 0) false p1 p2 (by decide) (by decide) (by simp) rfl
  rw [e]
  simp [Bool.decide_and]
theorem is_number_p {d : D} (h : Pl d) : sem_is_number [d] = M.pure (.bl (numB d)) := by
  refine pure_wp fun S => ?_
  have f := is_fraction_p h
  rcases h.sh2 with hs | ⟨ho, hf, hn, _⟩
  · cases hf : fracB d with
    | true =>
      rw [hf] at f
      have e : numB d = true := by
        cases hs with
        | int i b => exact hf
        | two a b ba bb =>
          show ((decide (0 ≤ a) && decide (1 ≤ b)) || _) = true
          rw [show (decide (0 ≤ a) && decide (1 ≤ b)) = true from hf, Bool.true_or]
      rw [e]
      (unfold sem_is_number; refine Ev.go_fn rfl ?_; unfold pk_is_number; simp only [Ev.slots, List.map_cons, List.map_nil, List.length_cons, List.length_nil, List.cons_append, List.nil_append, List.replicate, Nat.reduceSub, Nat.reduceAdd])
      (repeat regstrif_gather)
      refine go_val f ?_
      (repeat regstrif_gather)
      (first | exact ⟨rfl, rfl⟩ | exact go_pure ⟨rfl, rfl⟩)
    | false =>
      rw [hf] at f
      cases hs with
      | int i b =>
        have e : numB (.int i) = false := hf
        rw [e]
        (unfold sem_is_number; refine Ev.go_fn rfl ?_; unfold pk_is_number; simp only [Ev.slots, List.map_cons, List.map_nil, List.length_cons, List.length_nil, List.cons_append, List.nil_append, List.replicate, Nat.reduceSub, Nat.reduceAdd])
        (repeat regstrif_gather)
        refine go_val f ?_
        (repeat regstrif_gather)
        (refine go_val (isa_t rfl) ?_; simp only [tyB]; (repeat regstrif_gather))
        (first | exact ⟨rfl, rfl⟩ | exact go_pure ⟨rfl, rfl⟩)
      | two a b ba bb =>
        have e : numB (.tup [.int a, .int b]) = (decide (a = 1) && decide (b = 0)) := by
          show ((decide (0 ≤ a) && decide (1 ≤ b)) || _) = _
          rw [show (decide (0 ≤ a) && decide (1 ≤ b)) = false from hf, Bool.false_or]
        rw [e]
        (unfold sem_is_number; refine Ev.go_fn rfl ?_; unfold pk_is_number; simp only [Ev.slots, List.map_cons, List.map_nil, List.length_cons, List.length_nil, List.cons_append, List.nil_append, List.replicate, Nat.reduceSub, Nat.reduceAdd])
        (repeat regstrif_gather)
        refine go_val f ?_
        (repeat regstrif_gather)
        (refine go_val (isa_t rfl) ?_; simp only [tyB]; (repeat regstrif_gather))
        refine go_val (is_integer_ok a) ?_
        (repeat regstrif_gather)
        refine go_val (is_integer_ok b) ?_
        (repeat regstrif_gather)
        refine go_val (eq_opn a b) ?_
        (first | exact ⟨rfl, rfl⟩ | exact go_pure ⟨rfl, rfl⟩)
  · rw [hn]
    rw [hf] at f
    cases ho with
    | one _ hd hi ht hu =>
      (unfold sem_is_number; refine Ev.go_fn rfl ?_; unfold pk_is_number; simp only [Ev.slots, List.map_cons, List.map_nil, List.length_cons, List.length_nil, List.cons_append, List.nil_append, List.replicate, Nat.reduceSub, Nat.reduceAdd])
      (repeat regstrif_gather)
      refine go_val f ?_
      (repeat regstrif_gather)
      refine go_val (isa_p h _) ?_
      rw [ht]
      (repeat regstrif_gather)
      (first | exact ⟨rfl, rfl⟩ | exact go_pure ⟨rfl, rfl⟩)
    | len ds hl hp =>
      (unfold sem_is_number; refine Ev.go_fn rfl ?_; unfold pk_is_number; simp only [Ev.slots, List.map_cons, List.map_nil, List.length_cons, List.length_nil, List.cons_append, List.nil_append, List.replicate, Nat.reduceSub, Nat.reduceAdd])
      (repeat regstrif_gather)
      refine go_val f ?_
      (repeat regstrif_gather)
      (refine go_val (isa_t rfl) ?_; simp only [tyB]; (repeat regstrif_gather))
      (first | exact ⟨rfl, rfl⟩ | exact go_pure ⟨rfl, rfl⟩)
    | fst a b ha hb hi =>
      have e := isint_p ha
      rw [hi] at e
      (unfold sem_is_number; refine Ev.go_fn rfl ?_; unfold pk_is_number; simp only [Ev.slots, List.map_cons, List.map_nil, List.length_cons, List.length_nil, List.cons_append, List.nil_append, List.replicate, Nat.reduceSub, Nat.reduceAdd])
      (repeat regstrif_gather)
      refine go_val f ?_
      (repeat regstrif_gather)
      (refine go_val (isa_t rfl) ?_; simp only [tyB]; (repeat regstrif_gather))
      refine go_val e ?_
      (repeat regstrif_gather)
      (first | exact ⟨rfl, rfl⟩ | exact go_pure ⟨rfl, rfl⟩)
    | snd i b hb hi =>
      have e := isint_p hb
      rw [hi] at e
      (unfold sem_is_number; refine Ev.go_fn rfl ?_; unfold pk_is_number; simp only [Ev.slots, List.map_cons, List.map_nil, List.length_cons, List.length_nil, List.cons_append, List.nil_append, List.replicate, Nat.reduceSub, Nat.reduceAdd])
      (repeat regstrif_gather)
      refine go_val f ?_
      (repeat regstrif_gather)
      (refine go_val (isa_t rfl) ?_; simp only [tyB]; (repeat regstrif_gather))
      refine go_val (is_integer_ok i) ?_
      (repeat regstrif_gather)
      refine go_val e ?_
      (repeat regstrif_gather)
      (first | exact ⟨rfl, rfl⟩ | exact go_pure ⟨rfl, rfl⟩)
theorem is_resistance_p {d : D} (h : Pl d) : sem_is_resistance [d] = M.pure (.bl (resB d)) := by
  refine pure_wp fun S => ?_
  have f := is_number_p h
  rcases h.sh2 with hs | ⟨ho, hf, hn, hr⟩
  · cases hf : numB d with
    | false =>
      rw [hf] at f
      have e : resB d = false := by
        cases hs with
        | int i b =>
          show (decide (0 ≤ i) && _) = false
          rw [show decide (0 ≤ i) = false from hf, Bool.false_and]
        | two a b ba bb =>
          show (((decide (0 ≤ a) && decide (1 ≤ b)) || (decide (a = 1) && decide (b = 0))) && _) = false
          rw [show ((decide (0 ≤ a) && decide (1 ≤ b)) || (decide (a = 1) && decide (b = 0))) = false from hf, Bool.false_and]
      rw [e]
      (unfold sem_is_resistance; refine Ev.go_fn rfl ?_; unfold pk_is_resistance; simp only [Ev.slots, List.map_cons, List.map_nil, List.length_cons, List.length_nil, List.cons_append, List.nil_append, List.replicate, Nat.reduceSub, Nat.reduceAdd])
      (repeat regstrif_gather)
      refine go_val f ?_
      (repeat regstrif_gather)
      (first | exact ⟨rfl, rfl⟩ | exact go_pure ⟨rfl, rfl⟩)
    | true =>
      rw [hf] at f
      cases hs with
      | int i b =>
        have e : resB (.int i) = decide (i ≤ 1000000000000) := by
          show (decide (0 ≤ i) && _) = _
          rw [show decide (0 ≤ i) = true from hf, Bool.true_and]
        rw [e]
        (unfold sem_is_resistance; refine Ev.go_fn rfl ?_; unfold pk_is_resistance; simp only [Ev.slots, List.map_cons, List.map_nil, List.length_cons, List.length_nil, List.cons_append, List.nil_append, List.replicate, Nat.reduceSub, Nat.reduceAdd])
        (repeat regstrif_gather)
        refine go_val f ?_
        (repeat regstrif_gather)
        (refine go_val (isa_t rfl) ?_; simp only [tyB]; (repeat regstrif_gather))
        (first | exact ⟨rfl, rfl⟩ | exact go_pure ⟨rfl, rfl⟩)
      | two a b ba bb =>
        have e : resB (.tup [.int a, .int b]) = (decide (a ≤ 1000000000000) && decide (b ≤ 1000000000000)) := by
          show (((decide (0 ≤ a) && decide (1 ≤ b)) || (decide (a = 1) && decide (b = 0))) && _) = _
          rw [show ((decide (0 ≤ a) && decide (1 ≤ b)) || (decide (a = 1) && decide (b = 0))) = true from hf, Bool.true_and]
        rw [e]
        (unfold sem_is_resistance; refine Ev.go_fn rfl ?_; unfold pk_is_resistance; simp only [Ev.slots, List.map_cons, List.map_nil, List.length_cons, List.length_nil, List.cons_append, List.nil_append, List.replicate, Nat.reduceSub, Nat.reduceAdd])
        (repeat regstrif_gather)
        refine go_val f ?_
        (repeat regstrif_gather)
        (refine go_val (isa_t rfl) ?_; simp only [tyB]; (repeat regstrif_gather))
        refine ite_d (fun z => ?_) (fun z => ?_)
        · (repeat regstrif_gather)
          exact ⟨by rw [decide_eq_true z, Bool.true_and], rfl⟩
        · rw [decide_eq_false z, Bool.false_and]
          (first | exact ⟨rfl, rfl⟩ | exact go_pure ⟨rfl, rfl⟩)
  · rw [hr]
    rw [hn] at f
    (unfold sem_is_resistance; refine Ev.go_fn rfl ?_; unfold pk_is_resistance; simp only [Ev.slots, List.map_cons, List.map_nil, List.length_cons, List.length_nil, List.cons_append, List.nil_append, List.replicate, Nat.reduceSub, Nat.reduceAdd])
    (repeat regstrif_gather)
    refine go_val f ?_
    (repeat regstrif_gather)
    (first | exact ⟨rfl, rfl⟩ | exact go_pure ⟨rfl, rfl⟩)
end K14
set_option maxRecDepth 100000
set_option maxHeartbeats 4000000
namespace K14
open PySem Ev
def badAt : Int → List D → Option Int
  | _, [] => none
  | k, d :: ds => if pieceB d = true then badAt (k + 1) ds else some k
theorem loop_bad {T : Tgt} {B : MS} (hT : ∀ (k : Int) (d : D) (sd : List SV) (S : List Ob), T (.tup [.int k, d]) sd S = some ((sd.set 1 (.val (.int k))).set 2 (.val d), S))
    (hB : ∀ (k : Int) (d : D) (x : SV) (S : List Ob), Pl d → B [x, .val (.int k), .val d] S = if pieceB d = true then some (.next [x, .val (.int k), .val d], S) else some (.err ⟨9, some (.int k)⟩ [x, .val (.int k), .val d], S)) :
    ∀ (ds : List D) (k : Nat) (x y z : SV) (S : List Ob), (∀ d ∈ ds, Pl d) → ∃ y' z', loopS T B (Ev.numbered k ds) [x, y, z] S = match badAt k ds with
      | some i => some (.err ⟨9, some (.int i)⟩ [x, y', z'], S)
      | none => some (.next [x, y', z'], S)
  | [], k, x, y, z, S, _ => ⟨y, z, rfl⟩
  | d :: ds, k, x, y, z, S, h => by
    have hd := h d List.mem_cons_self
    by_cases hp : pieceB d = true
    · obtain ⟨y', z', e⟩ := loop_bad hT hB ds (k + 1) x (.val (.int k)) (.val d) S fun d' h' => h d' (List.mem_cons_of_mem _ h')
      refine ⟨y', z', ?_⟩
      unfold Ev.numbered loopS badAt
      rw [hT]
      show (match B [x, .val (.int k), .val d] S with
        | some (.next sd2, S2) => loopS T B (Ev.numbered (k + 1) ds) sd2 S2
        | some (.cont sd2, S2) => loopS T B (Ev.numbered (k + 1) ds) sd2 S2
        | some (.brk sd2, S2) => some (.next sd2, S2)
        | o => o) = _
      rw [hB _ _ _ _ hd, if_pos hp, if_pos hp]
      exact e
    · refine ⟨.val (.int k), .val d, ?_⟩
      unfold Ev.numbered loopS badAt
      rw [hT]
      show (match B [x, .val (.int k), .val d] S with
        | some (.next sd2, S2) => loopS T B (Ev.numbered (k + 1) ds) sd2 S2
        | some (.cont sd2, S2) => loopS T B (Ev.numbered (k + 1) ds) sd2 S2
        | some (.brk sd2, S2) => some (.next sd2, S2)
        | o => o) = _
      rw [hB _ _ _ _ hd, if_neg hp, if_neg hp]
theorem check_eq (ds : List D) (h : ∀ d ∈ ds, Pl d) : sem_check_pieces [.tup ds] = if ds.length = 0 ∨ 4 < ds.length then M.err ⟨9, some .non⟩ else match badAt 0 ds with
    | some i => M.err ⟨9, some (.int i)⟩
    | none => M.pure .non := by
  funext S
  by_cases h0 : ds.length = 0
  · simp [sem_check_pieces, runFn, pk_check_pieces, seqS, exS, slots, getv, M.bind, M.pure, on1, dLen, eq_int, dCmpI, toB, h0, forS, raiseS, nextS, M.err, finR]
  · by_cases h4 : 4 < ds.length
    · have h4' : (4 : Int) < ds.length := by omega
      simp [sem_check_pieces, runFn, pk_check_pieces, seqS, exS, slots, getv, M.bind, M.pure, on1, dLen, eq_int, dCmpI, toB, h0, h4, forS, raiseS, nextS, M.err, finR]
      rw [if_pos h4']
      rfl
    · have h4' : ¬ (4 : Int) < ds.length := by omega
      rw [if_neg (by omega)]
      obtain ⟨y', z', e⟩ := loop_bad (T := tupT 2 (consT (setT 1) (consT (setT 2) fun x sd S => some (sd, S)))) (B := seqS (exS (fun sd => ((((getv 2 sd).bind fun d => (M.pure []).bind fun ds => M.pure (d :: ds)).bind sem_is_piece).bind toB).bind fun b => M.pure !b) fun k => if k = true then seqS (exS (getv 1) fun d sd S => some (Out.err { cls := 9, arg := some d } sd, S)) stuckS else nextS) nextS)
        (fun k d sd S => by simp [tupT, consT, setT]) (fun k d x S hd => by
          have e := is_piece_p hd
          cases hb : pieceB d <;> simp [seqS, exS, getv, M.bind, M.pure, e, hb, toB, nextS] <;> rfl) ds 0 (.val (.tup ds)) .no .no S h
      have red : sem_check_pieces [.tup ds] S = finR (match loopS (tupT 2 (consT (setT 1) (consT (setT 2) fun x sd S => some (sd, S)))) (seqS (exS (fun sd => ((((getv 2 sd).bind fun d => (M.pure []).bind fun ds => M.pure (d :: ds)).bind sem_is_piece).bind toB).bind fun b => M.pure !b) fun k => if k = true then seqS (exS (getv 1) fun d sd S => some (Out.err { cls := 9, arg := some d } sd, S)) stuckS else nextS) nextS) (Ev.numbered 0 ds) [.val (.tup ds), .no, .no] S with
          | some (.next sd', S') => some (.next sd', S')
          | o => o) := by
        simp [sem_check_pieces, runFn, pk_check_pieces, seqS, exS, slots, getv, M.bind, M.pure, on1, dLen, eq_int, dCmpI, toB, h0, h4, forS, raiseS, nextS, enumD]
        rw [if_neg h4']
        rfl
      rw [red, e]
      show finR (match (match badAt 0 ds with
        | some i => some (Out.err ⟨9, some (D.int i)⟩ [SV.val (D.tup ds), y', z'], S)
        | none => some (Out.next [SV.val (D.tup ds), y', z'], S)) with
          | some (.next sd', S') => some (.next sd', S')
          | o => o) = _
      cases badAt 0 ds <;> rfl
end K14
set_option maxRecDepth 100000
set_option maxHeartbeats 4000000
namespace K14
open PySem Ev
theorem isa_row_no {kn : Nat → Bool} {sb : Nat → Nat → Option Bool} {d : D} (h : Pl d) (hk : kn 0 = true) : dIsa kn sb d (.cls 0) = M.pure (.bl false) := by
  cases h <;> (show M.bind _ _ = _; simp [isaD, hk, M.bind, M.pure, tyOf]; rfl)
theorem init_ok {r : List Pc} (hr : ∀ p ∈ r, p.ok) (hl : r.length ≤ 8) (hpl : ∀ p ∈ r, Pl p.D) (hc : sem_check_pieces [rowD r] = M.pure .non) : sem_PatternX_initX (r.map Pc.D) = M.pure (patD r) := by
  funext S
  unfold sem_PatternX_initX mkStar
  rw [if_pos (by unfold lim; rw [List.length_map]; omega)]
  unfold mkFn
  have ch := chain_ok r hr hl
  unfold rowD at ch hc
  by_cases h1 : r.length = 1
  · obtain ⟨p, rfl⟩ := List.length_eq_one_iff.mp h1
    have hd := hpl p (by simp)
    have i0 : dIx (.tup [p.D]) (.int 0) = M.pure p.D := ix_tup rfl
    simp only [List.map_cons, List.map_nil] at ch hc
    simp [pk_PatternX_initX, seqS, exS, slots, getv, M.bind, M.pure, on1, on2, dLen, eq_int, toB, nextS, isa_row_no hd, i0, hc, mkR, setFS, dTuple, tab, putL, asgS, ownF, ch, tupT, consT, fldT]
    rfl
  · have h1' : ¬ (r.length : Int) = 1 := by omega
    simp [pk_PatternX_initX, seqS, exS, slots, getv, M.bind, M.pure, on1, on2, dLen, eq_int, toB, nextS, h1, hc, mkR]
    rw [if_neg h1']
    simp [seqS, exS, M.bind, M.pure, hc, setFS, dTuple, tab, putL, asgS, ownF, ch, tupT, consT, fldT, on1, nextS]
    rfl
end K14
set_option maxRecDepth 100000
set_option maxHeartbeats 4000000
set_option maxRecDepth 100000
set_option maxHeartbeats 4000000
namespace K14
open PySem Ev
theorem ix_anyW {ds : List D} {i : Int} {P : D → List Ob → Prop} {S : List Ob} (h0 : 0 ≤ i) (h1 : i < ds.length) (h : ∀ d, d ∈ ds → P d S) : Wp (dIx (.lst ds) (.int i)) S P := by
  have l : i.toNat < ds.length := by omega
  have e : L2.atI ds i = some ds[i.toNat] := by
    unfold L2.atI L2.ixN
    rw [if_pos h0, if_pos h1]
    exact List.getElem?_eq_getElem l
  exact go_val (ix_lst e) (h _ (List.getElem_mem l))
theorem pick_wp {S : List Ob} {n : Nat} {ds : List D} {P : D → List Ob → Prop} (h : Cup S n) (h0 : 0 < ds.length) (h1 : ds.length ≤ 1000) (q : ∀ d S', d ∈ ds → Cup S' n → Kp n S S' → P d S') : Wp (sem__law_pick [.ref n, .lst ds]) S P := by
  (unfold sem__law_pick; refine Ev.go_fn rfl ?_; unfold pk__law_pick; simp only [Ev.slots, List.map_cons, List.map_nil, List.length_cons, List.length_nil, List.cons_append, List.nil_append, List.replicate, Nat.reduceSub, Nat.reduceAdd])
  (repeat regstrif_gather)
  refine sip_wp h (by omega) (by omega) fun i S' i0 i1 hc hk => ?_
  (repeat regstrif_gather)
  exact ix_anyW i0 i1 fun d hd => q d S' hd hc hk
theorem pick_ok (S : List Ob) (n : Nat) (ds : List D) (h : Cup S n) (h0 : 0 < ds.length) (h1 : ds.length ≤ 1000) : Ev.Run (sem__law_pick [.ref n, .lst ds]) S fun d S' => d ∈ ds ∧ Cup S' n ∧ Kp n S S' := (pick_wp h h0 h1 fun d S' a b c => ⟨a, b, c⟩).run
section
variable {S : List Ob} {sd : List SV} {N : List SV → List Ob → Prop} {R : D → List Ob → Prop} {B C : List SV → List Ob → Prop}
theorem runS_app {i : Nat} {g : List SV → M D} {ds : List D} (h : sd[i]? = some (.own (.lst ds))) (hl : ds.length < lim) : RunS (appS i g) sd S N R B C ↔ Ev.Run (g sd) S fun d S' => N (sd.set i (.own (.lst (ds ++ [d])))) S' := by
  have e : appS i g sd S = exS g (fun d sd S => some (.next (sd.set i (.own (.lst (ds ++ [d])))), S)) sd S := by
    unfold appS
    rw [h]
    simp only
    rw [if_pos hl]
  have z : RunS (appS i g) sd S N R B C ↔ RunS (exS g (fun d sd S => some (.next (sd.set i (.own (.lst (ds ++ [d])))), S))) sd S N R B C := by
    unfold RunS
    rw [e]
  rw [z, runS_ex]
  exact Iff.rfl
theorem runS_frz {i : Nat} {o : Ob} (h : sd[i]? = some (.own o)) : RunS (frzS i) sd S N R B C ↔ N (sd.set i (.val (frzO o))) S := by
  unfold RunS frzS
  rw [h]
end
theorem row_draw_m (k : Int) (k0 : 0 < k) (k1 : k ≤ 8) (S : List Ob) (n : Nat) (h : Cup S n) : Ev.Run (sem__law_row [.ref n, .int k]) S fun d S' => ∃ r : List Pc, d = .lst (r.map Pc.D) ∧ (∀ p ∈ r, p.ok) ∧ 1 ≤ r.length ∧ r.length ≤ k.toNat ∧ Cup S' n ∧ Kp n S S' := by
  unfold sem__law_row
  rw [run_fn]
  refine ⟨rfl, ?_⟩
  show RunS pk__law_row.1 [.val (.ref n), .val (.int k), .no, .no] S _ _ _ _
  unfold pk__law_row
  simp only [runS_seq, runS_own, runS_for, runS_ret, run_bind, run_pure, getv, List.getElem?_cons_zero, List.getElem?_cons_succ, List.set_cons_zero, List.set_cons_succ]
  refine Ev.Run.mono (sip_ok S n k h k0 (by omega)) ?_
  rintro d S1 ⟨m, rfl, m0, m1, h1, kk1⟩
  simp only [add_int, run_pure]
  have rg : rng1 [.int (1 + m)] = M.pure (rngD 0 (1 + m).toNat) := by
    show (if -(2 ^ 62) ≤ 1 + m ∧ 1 + m < 2 ^ 62 then M.pure (rngD 0 (1 + m).toNat) else M.stuck) = _
    rw [if_pos (by omega)]
  rw [rg]
  simp only [run_pure]
  refine loop_rule (J := fun ds sd S' => Cup S' n ∧ Kp n S S' ∧ ∃ (r : List Pc) (u : SV), sd = [.val (.ref n), .val (.int k), .own (.lst (r.map Pc.D)), u] ∧ (∀ p ∈ r, p.ok) ∧ r.length + ds.length = (1 + m).toNat) ?_ ?_ _ _ _ ?_
  · rintro d ds sd S2 ⟨h2, kk2, r, u, rfl, ho, hl⟩
    refine ⟨_, _, rfl, ?_⟩
    rw [List.length_cons] at hl
    rw [runS_seq, runS_app (ds := r.map Pc.D) rfl (by rw [List.length_map]; unfold lim; omega)]
    simp only [run_bind, run_pure, getv, List.getElem?_cons_zero, List.getElem?_cons_succ, List.set_cons_zero, List.set_cons_succ]
    refine Ev.Run.mono (pick_ok S2 n _ h2 (by decide) (by decide)) ?_
    rintro w S3 ⟨hw, h3, kk3⟩
    refine Ev.Run.mono (sip_ok S3 n 12 h3 (by decide) (by decide)) ?_
    rintro w2 S4 ⟨o, rfl, o0, o1, h4, kk4⟩
    simp only [add_int, run_pure, runS_next]
    obtain ⟨b, rfl⟩ : ∃ b : Bool, w = .str (Pc.w ⟨b, 1 + o⟩) := by
      simp only [List.mem_cons, List.mem_nil_iff, or_false] at hw
      rcases hw with rfl | rfl
      · exact ⟨true, rfl⟩
      · exact ⟨false, rfl⟩
    refine ⟨h4, kk2.trans (kk3.trans kk4), r ++ [⟨b, 1 + o⟩], .val d, ?_, ?_, ?_⟩
    · rw [List.map_append]
      rfl
    · intro p hp
      rcases List.mem_append.mp hp with q | q
      · exact ho p q
      · rw [List.mem_singleton.mp q]
        exact ⟨by show 1 ≤ 1 + o; omega, by show 1 + o ≤ 12; omega⟩
    · rw [List.length_append]
      simp
      omega
  · rintro sd S2 ⟨h2, kk2, r, u, rfl, ho, hl⟩
    simp only [List.length_nil] at hl
    rw [runS_frz (o := .lst (r.map Pc.D)) rfl]
    simp only [runS_seq, runS_ret, run_bind, run_pure, getv, List.getElem?_cons_zero, List.getElem?_cons_succ, List.set_cons_zero, List.set_cons_succ, frzO]
    exact ⟨r, rfl, ho, by omega, by omega, h2, kk2⟩
  · refine ⟨h1, kk1, [], .no, rfl, by simp, ?_⟩
    unfold rngD
    simp
theorem any_tb {S : List Ob} {j : Nat} (h : S[j]? = some (Ob.tbl j)) : S.any (isTb j) = true := List.any_eq_true.mpr ⟨_, List.mem_of_getElem? h, by simp [isTb]⟩
theorem Tbs.any {S : List Ob} (h : Tbs S) : S.any (isTb 0) = true ∧ S.any (isTb 1) = true := ⟨any_tb h.1, any_tb h.2⟩
theorem told_err {j c : Nat} {giv : Str} {rp : D → M D} {tc : Nat → D → M D} {f : M D} {S S1 : List Ob} {d : D} {P : D → List Ob → Prop} (ht : S.any (isTb j) = true) (hf : f S = some (.error ⟨c, some d⟩, S1)) (q : Wp (tc c d) S1 P) : Wp (hasTbl j (caughtM giv rp tc f)) S P := by
  refine wp_run.mpr ?_
  have e : hasTbl j (caughtM giv rp tc f) S = tc c d S1 := by
    unfold hasTbl caughtM
    rw [if_pos ht, hf]
  unfold Ev.Run
  rw [e]
  exact q.run
theorem tell_wp {l : List Int} {d u : D} {S : List Ob} {P : D → List Ob → Prop} (e : dRepr d = M.pure u) (q : P (.lst (l.map .int ++ [u])) S) : Wp (tellM l d) S P := by
  unfold tellM
  rw [e]
  exact go_pure q
end K14
set_option maxRecDepth 100000
set_option maxHeartbeats 4000000
namespace K14
open PySem Ev
theorem w_or (p : Pc) : p.w = "rail" ∨ p.w = "rung" := by
  unfold Pc.w
  split
  · exact .inl rfl
  · exact .inr rfl
end K14
set_option maxRecDepth 100000
set_option maxHeartbeats 4000000
namespace K14
open PySem Ev
def Sok (x : Str) : Prop := PyData.strOk x = true
instance (x : Str) : Decidable (Sok x) := by
  unfold Sok
  infer_instance
theorem shw_piece {p : Pc} (h : p.ok) : Shw 1 20 p.D := by
  unfold Shw
  refine pc_all (P := fun p => ∃ q, toP p.D = some q ∧ q.showable = true ∧ q.canLay0 = true ∧ q.depth ≤ 1 ∧ q.shown.length ≤ 20) ?_ ?_ ?_ ?_ ?_ ?_ ?_ ?_ ?_ ?_ ?_ ?_ h <;> (intro b; cases b <;> exact ⟨_, rfl, by decide +kernel, by decide +kernel, by decide +kernel, by decide +kernel⟩)
theorem eq_same {ds : List D} {ps : List PyData} (h : toPs ds = some ps) (c : PyData.canLayAll0 ps = true) (e : PyData.depthAll ps ≤ 60) (neg : Bool) : dEq neg (.lst ds) (.lst ds) = M.pure (D.bl (!neg)) := by
  have a : toP (.lst ds) = some (.list ps) := by
    unfold toP
    rw [h]
    rfl
  have c2 : (PyData.list ps).canLay0 = true := by
    unfold PyData.canLay0
    exact c
  have s : SeqAt.shaped (.list ps) = true := by
    unfold SeqAt.shaped
    rw [c2]
    have : (PyData.list ps).depth ≤ 64 := by
      unfold PyData.depth
      omega
    simpa using this
  show (match toP (.lst ds), toP (.lst ds) with
    | some p, some q => if SeqAt.shaped p = true ∧ SeqAt.shaped q = true then M.pure (D.bl (if neg then !PyData.eqv p q else PyData.eqv p q)) else M.stuck
    | _, _ => M.stuck) = _
  rw [a]
  simp only
  rw [if_pos ⟨s, s⟩, SeqAt.eqv_refl _ c2]
  cases neg <;> rfl
theorem same_told {c x y : Int} {z : Str} (h : Sok z) (neg : Bool) : dEq neg (.lst [.int c, .int x, .int y, .str z]) (.lst [.int c, .int x, .int y, .str z]) = M.pure (D.bl (!neg)) := by
  refine eq_same (ps := [.int c, .int x, .int y, .str z]) rfl ?_ (by simp [PyData.depthAll, PyData.depth]) neg
  show (true && (true && (true && (PyData.strOk z && true)))) = true
  rw [h]
  rfl
end K14
set_option maxRecDepth 100000
set_option maxHeartbeats 4000000
namespace K14
open PySem Ev
theorem Cup.lt {S : List Ob} {n : Nat} (h : Cup S n) : n < S.length := by
  obtain ⟨⟨a, b, hS, _⟩, _⟩ := h
  exact (List.getElem?_eq_some_iff.mp hS).1
theorem Cup.two {S : List Ob} {n : Nat} (h : Cup S n) : 2 ≤ S.length := by
  have := (List.getElem?_eq_some_iff.mp h.2.2).1
  omega
theorem Cup.push {S : List Ob} {n : Nat} (h : Cup S n) (o : Ob) : Cup (S ++ [o]) n := by
  have hl := h.lt
  have h2 := h.two
  obtain ⟨⟨a, b, hS, hr⟩, h0, h1⟩ := h
  refine ⟨⟨a, b, ?_, hr⟩, ?_, ?_⟩
  · rw [List.getElem?_append_left hl]; exact hS
  · rw [List.getElem?_append_left (by omega)]; exact h0
  · rw [List.getElem?_append_left (by omega)]; exact h1
def txR : D → Str
  | .dct [] [] => "{}"
  | d => txtD d
def Shn (d : D) : Prop := dRepr d = M.pure (.str (txR d)) ∧ Sok (txR d)
def erD (a b c : Int) (d : D) : D := .lst [.int a, .int b, .int c, .str (txR d)]
theorem told_bad {j c x y z : Nat} {giv : Str} {rp : D → M D} {tc : Nat → D → M D} {f : M D} {S : List Ob} {d : D} {P : D → List Ob → Prop} (ht : S.any (isTb j) = true) (hf : f S = some (.error ⟨c, some d⟩, S)) (hs : Shn d) (ec : tc c d = tellM [x, y, z] d) (q : P (erD x y z d) S) : Wp (hasTbl j (caughtM giv rp tc f)) S P := by
  refine told_err ht hf ?_
  rw [ec]
  exact tell_wp hs.1 q
def erP (a b c : Int) (d : D) : PyData := .list [.int a, .int b, .int c, .str (txR d)]
theorem eq_er {n : Nat} {x y z : Int} {d : D} (hs : Shn d) (neg : Bool) (hn : n ≤ 8) : dEq neg (.lst (List.replicate n (erD x y z d))) (.lst (List.replicate n (erD x y z d))) = M.pure (D.bl (!neg)) := by
  have t : ∀ n, toPs (List.replicate n (erD x y z d)) = some (List.replicate n (erP x y z d)) := by
    intro n
    induction n with
    | zero => rfl
    | succ n ih =>
      rw [List.replicate_succ, List.replicate_succ]
      unfold toPs
      rw [ih]
      rfl
  have cl : ∀ n, PyData.canLayAll0 (List.replicate n (erP x y z d)) = true := by
    intro n
    induction n with
    | zero => rfl
    | succ n ih =>
      rw [List.replicate_succ]
      unfold PyData.canLayAll0
      rw [ih, Bool.and_true]
      show (true && (true && (true && (PyData.strOk (txR d) && true)))) = true
      rw [hs.2]
      rfl
  have dp : ∀ n, PyData.depthAll (List.replicate n (erP x y z d)) ≤ 1 := by
    intro n
    induction n with
    | zero => exact Nat.zero_le _
    | succ n ih =>
      rw [List.replicate_succ]
      unfold PyData.depthAll
      have : (erP x y z d).depth = 1 := by simp [erP, PyData.depth, PyData.depthAll]
      omega
  exact eq_same (t n) (cl n) (Nat.le_trans (dp n) (by decide)) neg
end K14
set_option maxRecDepth 100000
set_option maxHeartbeats 4000000
set_option exponentiation.threshold 5000
namespace K14
open PySem Ev
def shnB : D → Bool
  | .dct [] [] => true
  | d => match toP d with
  | some p => p.showable && (p.canLay0 && (decide (p.depth ≤ 60) && (decide (p.shown.length ≤ 5000) && PyData.strOk (txtD d))))
  | none => false
theorem shn_b {d : D} (h : shnB d = true) : Shn d := by
  by_cases hd : d = .dct [] []
  · subst hd
    exact ⟨rfl, by decide +kernel⟩
  have h : (match toP d with
    | some p => p.showable && (p.canLay0 && (decide (p.depth ≤ 60) && (decide (p.shown.length ≤ 5000) && PyData.strOk (txtD d))))
    | none => false) = true := by
    cases d with
    | dct ks ds =>
      cases ks with
      | nil =>
        cases ds with
        | nil => exact absurd rfl hd
        | cons _ _ => exact h
      | cons _ _ => exact h
    | _ => exact h
  have tx : txR d = txtD d := by
    cases d with
    | dct ks ds =>
      cases ks with
      | nil =>
        cases ds with
        | nil => exact absurd rfl hd
        | cons _ _ => rfl
      | cons _ _ => rfl
    | _ => rfl
  rcases e : toP d with _ | p
  · rw [e] at h; cases h
  rw [e] at h
  simp only [Bool.and_eq_true, decide_eq_true_eq] at h
  obtain ⟨h1, h2, h3, h4, h5⟩ := h
  have s : Shw 60 5000 d := by
    unfold Shw
    exact ⟨p, e, h1, h2, h3, h4⟩
  unfold Shn
  rw [tx]
  exact ⟨repr_get s (by decide) (by decide), h5⟩
mutual
def plB : D → Bool
  | .non => true
  | .bl _ => true
  | .int i => decide (i.natAbs < 2 ^ 4500)
  | .str x => SeqAt.shaped (PyData.str x)
  | .tup ds => decide (ds.length ≤ 100) && plBs ds
  | .lst ds => decide (ds.length ≤ 100) && plBs ds
  | .dct [] [] => true
  | _ => false
def plBs : List D → Bool
  | [] => true
  | d :: ds => plB d && plBs ds
end
mutual
theorem pl_b : ∀ {d : D}, plB d = true → Pl d
  | .non, _ => .non
  | .bl b, _ => .bl b
  | .int i, h => .int i (.mk (of_decide_eq_true (by unfold plB at h; exact h)))
  | .str x, h => .str x (by unfold plB at h; exact h)
  | .tup ds, h => by
    unfold plB at h
    rw [Bool.and_eq_true, decide_eq_true_eq] at h
    exact .tup ds h.1 (pl_bs h.2)
  | .lst ds, h => by
    unfold plB at h
    rw [Bool.and_eq_true, decide_eq_true_eq] at h
    exact .lst ds h.1 (pl_bs h.2)
  | .dct [] [], _ => .dct
  | .dct [] (_ :: _), h => by simp [plB] at h
  | .dct (_ :: _) _, h => by simp [plB] at h
  | .scr _, h => by simp [plB] at h
  | .ins _ _, h => by simp [plB] at h
  | .ref _, h => by simp [plB] at h
  | .ty _, h => by simp [plB] at h
  | .cls _, h => by simp [plB] at h
  | .raw _ _ _ _, h => by simp [plB] at h
theorem pl_bs : ∀ {ds : List D}, plBs ds = true → ∀ d ∈ ds, Pl d
  | [], _, _, h => nomatch h
  | d :: ds, h, x, hx => by
    unfold plBs at h
    rw [Bool.and_eq_true] at h
    have hd := pl_b h.1
    have ht := pl_bs h.2
    rcases List.mem_cons.mp hx with e | hx
    · rw [e]; exact hd
    · exact ht x hx
end
structure PS (d : D) : Prop where
  pl : Pl d
  sh : Shn d
def psB (d : D) : Bool := plB d && shnB d
theorem ps_b {d : D} (h : psB d = true) : PS d := by
  unfold psB at h
  rw [Bool.and_eq_true] at h
  exact ⟨pl_b h.1, shn_b h.2⟩
theorem pick_pq {S : List Ob} {n : Nat} {ds : List D} {P : D → List Ob → Prop} (p : D → Bool) (h : Cup S n) (hp : (ds.all fun d => psB d && p d) = true) (h0 : 0 < ds.length) (h1 : ds.length ≤ 1000) (q : ∀ d S', d ∈ ds → PS d → p d = true → Cup S' n → Kp n S S' → P d S') : Wp (sem__law_pick [.ref n, .lst ds]) S P :=
  pick_wp h h0 h1 fun d S' hd hc hk => by
    have z := List.all_eq_true.mp hp d hd
    rw [Bool.and_eq_true] at z
    exact q d S' hd (ps_b z.1) z.2 hc hk
theorem pow_at {i j r : Int} (h : (0 : Int) ≤ j ∧ j ≤ 1000000 ∧ i.natAbs < 2 ^ 64) (e : i ^ j.toNat = r) : dPow (.int i) (.int j) = M.pure (.int r) := by
  show (if 0 ≤ j ∧ j ≤ 1000000 ∧ i.natAbs < 2 ^ 64 then M.pure (D.int (i ^ j.toNat)) else M.stuck) = _
  rw [if_pos h, e]
end K14
set_option maxRecDepth 100000
set_option maxHeartbeats 1000000
namespace K14
open PySem Ev
def act (m : Mx) (v : Int × Int) : Int × Int := (m.top v.1 v.2, m.bot v.1 v.2)
theorem act_mul (m n : Mx) (v : Int × Int) : act (m.mul n) v = act m (act n v) := by
  unfold act
  rw [top_mul, bot_mul]
theorem act_one (v : Int × Int) : act one v = v := by
  unfold act one Mx.top Mx.bot
  simp
structure Nn (v : Int × Int) : Prop where
  t : 0 ≤ v.1
  b : 0 ≤ v.2
  p : 0 < v.1 + v.2
theorem Nn.act {m : Mx} (h : m.P) {v : Int × Int} (n : Nn v) : Nn (act m v) := by
  obtain ⟨a, b, c⟩ := h.vec n.t n.b n.p
  exact ⟨a, b, c⟩
end K14
set_option maxRecDepth 100000
set_option maxHeartbeats 4000000
namespace K14
open PySem Ev
theorem row_wp {S : List Ob} {n : Nat} {k : Int} {P : D → List Ob → Prop} (h : Cup S n) (k0 : 0 < k) (k1 : k ≤ 8) (q : ∀ (r : List Pc) S', (∀ p ∈ r, p.ok) → 1 ≤ r.length → (r.length : Int) ≤ k → Cup S' n → Kp n S S' → P (.lst (r.map Pc.D)) S') : Wp (sem__law_row [.ref n, .int k]) S P :=
  ((row_draw_m k k0 k1 S n h).mono fun d S' z => by obtain ⟨r, rfl, a, b, c, e, f⟩ := z; exact q r S' a b (by omega) e f).wp
end K14
set_option maxRecDepth 100000
set_option maxHeartbeats 4000000
namespace K14
open PySem Ev
def wV (r : List Pc) (e : Int × Int) (n : Nat) : Int × Int := act ((mat r).pow n) e
theorem wV_0 (r : List Pc) (e : Int × Int) : wV r e 0 = e := act_one e
theorem wV_S (r : List Pc) (e : Int × Int) (n : Nat) : wV r e (n + 1) = act (mat r) (wV r e n) := act_mul _ _ _
theorem wV_nn {r : List Pc} (h : Row r) {e : Int × Int} (ne : Nn e) (n : Nat) : Nn (wV r e n) := Nn.act (Mx.P.pow (mat_P h.1) n) ne
structure Wk (r : List Pc) (s n : Nat) : Prop where
  row : Row r
  S : (mat r).S s
  s1 : 1 ≤ s
  sn : (s + 1) * n + s + 101 ≤ 1900
theorem Wk.le {r : List Pc} {s n k : Nat} (h : Wk r s n) (l : k ≤ n) : (s + 1) * k + s + 101 ≤ 1900 := by
  have := Nat.mul_le_mul_left (s + 1) l
  have := h.sn
  omega
theorem wV_sm {r : List Pc} {s n : Nat} (h : Wk r s n) {e : Int × Int} (he : Vec 100 e) {k : Nat} (l : k ≤ n) : Sm 1900 (wV r e k).1 ∧ Sm 1900 (wV r e k).2 := by
  have ps := pow_S h.S h.s1 k
  have t1 : Sm ((s + 1) * k + s + 100 + 1) (wV r e k).1 := (ps.a.mul he.t).add (ps.b.mul he.b)
  have t2 : Sm ((s + 1) * k + s + 100 + 1) (wV r e k).2 := (ps.c.mul he.t).add (ps.d.mul he.b)
  have := h.le l
  exact ⟨t1.mono (by omega), t2.mono (by omega)⟩
theorem val_vecW {r : List Pc} {s n : Nat} (h : Wk r s n) {v : Int × Int} (hv : Vec 100 v) {k : Nat} (l : k ≤ n) : Vec 1900 (valP r v k) := by
  obtain ⟨t1, t2⟩ := wV_sm h hv l
  have nv : Nn v := ⟨hv.t.1, hv.b.1, hv.p⟩
  have na := wV_nn h.row nv k
  obtain ⟨a, c⟩ := low_sm t1 t2 na.p
  exact ⟨a, c, low_pos na.t na.b na.p⟩
theorem next_big {k : Nat} {r : List Pc} (h : Row r) (v : Int × Int) {w : Int × Int} (h1 : Sm k w.1) (h2 : Sm k w.2) (k1 : 100 ≤ k) (hk : k ≤ 9000) : sem_Ladder_next_of [ladD r v, pairD w] = M.pure (pairD (act (mat r) w)) := by
  refine pure_wp fun S => ?_
  have ld : sem_led [(mat r).D, pairD w] = M.pure (.tup [.int ((mat r).top w.1 w.2), .int ((mat r).bot w.1 w.2)]) := led_ok (k := k) _ w.1 w.2 (h.s41.mono (by omega)) h1 h2 (by omega)
  (unfold sem_Ladder_next_of; refine Ev.go_fn rfl ?_; unfold pk_Ladder_next_of; simp only [Ev.slots, List.map_cons, List.map_nil, List.length_cons, List.length_nil, List.cons_append, List.nil_append, List.replicate, Nat.reduceSub, Nat.reduceAdd])
  (repeat regstrif_gather)
  refine go_val (r := patD r) rfl ?_
  refine go_val (attr_chain r) ?_
  (repeat regstrif_gather)
  exact go_val ld ⟨rfl, rfl⟩
theorem opening_wp {r : List Pc} {s n : Nat} (h : Wk r s n) {e : Int × Int} (he : Vec 100 e) (hn : n ≤ 100) (S : List Ob) : Wp (sem_Run_opening [ladD r e, .int n]) S fun l S' => l = (List.range n).map (fun k => pairD (valP r e k)) ∧ S' = S := by
  unfold sem_Run_opening
  refine wp_gen rfl ?_
  show Wg pk_Run_opening.1 [.val (ladD r e), .val (.int n), .no, .no] S [] _
  unfold pk_Run_opening
  refine wg_seq (wg_plain ?_)
  (repeat regstrif_gather)
  refine go_val (check_count_ok n hn) ?_
  (repeat regstrif_gather)
  refine wg_seq (wg_plain ?_)
  (repeat regstrif_gather)
  refine go_val (r := pairD e) rfl ?_
  (repeat regstrif_gather)
  refine wg_seq (wg_for (J := fun ds sd S' out => S' = S ∧ ∃ (k : Nat) (x3 : SV), ds.length + k = n ∧ out = (List.range k).map (fun k => pairD (valP r e k)) ∧ sd = [.val (ladD r e), .val (.int n), .val (pairD (wV r e k)), x3]) ?_ ?_ ?_)
  · (repeat regstrif_gather)
    exact ⟨rfl, 0, _, by simp [rngD], rfl, by rw [wV_0]; rfl⟩
  · rintro d ds sd S' out ⟨rfl, k, x3, hk, rfl, rfl⟩
    rw [List.length_cons] at hk
    obtain ⟨t1, t2⟩ := wV_sm h he (show k ≤ n by omega)
    have na := wV_nn h.row ⟨he.t.1, he.b.1, he.p⟩ k
    refine ⟨_, _, rfl, ?_⟩
    refine wg_seq (wg_yield (by rw [List.length_map, List.length_range]; unfold lim; omega) ?_)
    (repeat regstrif_gather)
    refine go_val (ix0 _) ?_
    (repeat regstrif_gather)
    refine go_val (ix1 _) ?_
    (repeat regstrif_gather)
    refine go_val (lowest_big (k := 1900) _ _ t1 t2 na.p (by decide)) ?_
    refine wg_seq (wg_plain ?_)
    (repeat regstrif_gather)
    refine go_val (r := sem_Ladder_next_of) rfl ?_
    (repeat regstrif_gather)
    refine go_val (next_big (k := 1900) h.row e t1 t2 (by decide) (by decide)) ?_
    (repeat regstrif_gather)
    refine wg_nil ⟨rfl, k + 1, _, by omega, ?_, by rw [wV_S]; rfl⟩
    rw [List.range_succ, List.map_append, List.map_cons, List.map_nil]
    rfl
  · rintro sd S' out ⟨rfl, k, x3, hk, rfl, rfl⟩
    simp only [List.length_nil, Nat.zero_add] at hk
    subst hk
    exact wg_nil ⟨rfl, rfl⟩
end K14
set_option maxRecDepth 100000
set_option maxHeartbeats 4000000
namespace K14
open PySem Ev
def Ok8 (x : Str) : Prop := ∀ c ∈ x.cps.toList, c < 0x110000
theorem ok8_s (s : String) : Ok8 (Str.ofString s) := by
  intro c hc
  have e : (Str.ofString s).cps.toList = s.toList.map Char.toNat := by simp only [Str.ofString_eq_toList, List.toList_toArray]
  rw [e] at hc
  obtain ⟨d, _, rfl⟩ := List.mem_map.mp hc
  have v := d.valid
  show d.val.toNat < 0x110000
  rcases v with v | v
  · exact Nat.lt_trans v (by decide)
  · exact v.2
theorem ok8_app {x y : Str} (h : Ok8 x) (l : Ok8 y) : Ok8 (x ++ y) := by
  intro c hc
  have hc : c ∈ (x.cps ++ y.cps).toList := hc
  rw [Array.toList_append] at hc
  rcases List.mem_append.mp hc with z | z
  · exact h c z
  · exact l c z
theorem lay_str {x : Str} (h : Ok8 x) : (PyData.str x).canLay0 = true := by
  show PyData.strOk x = true
  unfold PyData.strOk
  rw [Array.all_eq_true']
  intro c hc
  exact decide_eq_true (h c (Array.mem_toList_iff.mpr hc))
end K14
set_option maxRecDepth 100000
set_option maxHeartbeats 4000000
namespace K14
open PySem PyProof.Rows Ev
theorem ok8_of {x : Str} (h : PyData.strOk x = true) : Ok8 x := by
  unfold PyData.strOk at h
  rw [Array.all_eq_true'] at h
  intro c hc
  exact of_decide_eq_true (h c (Array.mem_toList_iff.mp hc))
theorem ok8_join : ∀ ts : List Str, (∀ t ∈ ts, Ok8 t) → Ok8 (Str.join ", " ts)
  | [], _ => fun c h => nomatch h
  | [x], h => h x List.mem_cons_self
  | x :: y :: r, h => ok8_app (ok8_app (h x List.mem_cons_self) (ok8_s ", ")) (ok8_join (y :: r) fun t ht => h t (List.mem_cons_of_mem _ ht))
theorem ok8_tup {ts : List Str} (h : ∀ t ∈ ts, Ok8 t) : Ok8 (tupleText ts) := by
  unfold tupleText
  refine ok8_app (ok8_app (ok8_s "(") (ok8_join ts h)) ?_
  exact ok8_s _
def pcP (p : Pc) : PyData := .tuple [.str p.w, .int p.o]
theorem toPs_rowA : ∀ r : List Pc, toPs (r.map Pc.D) = some (r.map pcP)
  | [] => rfl
  | p :: r => by
    rw [List.map_cons, List.map_cons]
    unfold toPs
    rw [toPs_rowA r]
    rfl
theorem shown_row : ∀ r : List Pc, ∀ t ∈ PyData.shownAll (r.map pcP), Ok8 t
  | [], _, h => nomatch h
  | p :: r, t, h => by
    rw [List.map_cons] at h
    unfold PyData.shownAll at h
    rcases List.mem_cons.mp h with e | h
    · rw [e]
      show Ok8 (tupleText [reprText p.w, Str.ofString (toString p.o)])
      apply ok8_tup
      intro x hx
      simp only [List.mem_cons, List.mem_nil_iff, or_false] at hx
      rcases hx with rfl | rfl
      · unfold Pc.w
        split
        · exact ok8_of (by decide +kernel)
        · exact ok8_of (by decide +kernel)
      · exact ok8_s _
    · exact shown_row r t h
theorem shw_row {r : List Pc} (h : RowN r) : Shw 2 400 (rowD r) := by
  have a : ShwL 1 ((r.map Pc.D).length * (20 + 2)) (r.map Pc.D) := shl_all fun d hd => by
    obtain ⟨p, hp, rfl⟩ := List.mem_map.mp hd
    exact shw_piece (h.1 p hp)
  exact (shw_tup a).mono (by decide) (by have := h.2.2; rw [List.length_map]; omega)
theorem shn_row {r : List Pc} (h : RowN r) : Shn (rowD r) := by
  refine ⟨repr_get (shw_row h) (by decide) (by decide), ?_⟩
  have e : txR (rowD r) = tupleText (PyData.shownAll (r.map pcP)) := by
    show txtD (rowD r) = _
    unfold txtD
    have : toP (rowD r) = some (.tuple (r.map pcP)) := by
      unfold rowD toP
      rw [toPs_rowA r]
      rfl
    rw [this]
    rfl
  rw [e]
  exact lay_str (ok8_tup (shown_row r))
theorem count_bad {d : D} (h : Pl d) (e : btw d 0 100 = false) : sem_check_count [d] = M.err ⟨3, some d⟩ := by
  refine err_eq fun S => ?_
  refine xp_fn rfl ?_
  unfold pk_check_count
  simp only [slots, List.map_cons, List.map_nil, List.length_cons, List.length_nil, List.cons_append, List.nil_append, List.replicate, Nat.reduceSub, Nat.reduceAdd]
  (repeat regstrif_gather)
  refine go_val (between_p h 0 100) ?_
  rw [e]
  (repeat regstrif_gather)
  exact ⟨rfl, rfl⟩
theorem gen_bad {f : MS} {g : MG} {sd : List SV} {S : List Ob} {e : Exn} (z : Xs f sd S (fun _ _ => False) (fun _ _ => False) (fun _ _ => False) (fun _ _ => False) (fun e' S' => e' = e ∧ S' = S)) : finN (seqG (plainG f) g sd S []) = some (.error e, S) := by
  unfold Xs at z
  unfold seqG plainG
  rcases hf : f sd S with _ | ⟨_ | _ | _ | _ | _, S1⟩
  · rw [hf] at z; exact z.elim
  · rw [hf] at z; exact z.elim
  · rw [hf] at z; exact z.elim
  · rw [hf] at z; exact z.elim
  · rw [hf] at z; exact z.elim
  · rw [hf] at z
    obtain ⟨rfl, rfl⟩ := z
    rfl
theorem open_bad {x d : D} (h : Pl d) (e : btw d 0 100 = false) (S : List Ob) : sem_Run_opening [x, d] S = some (.error ⟨3, some d⟩, S) := by
  unfold sem_Run_opening
  show finN (pk_Run_opening.1 [.val x, .val d, .no, .no] S []) = _
  unfold pk_Run_opening
  refine gen_bad ?_
  (repeat regstrif_gather)
  exact xp_bad (count_bad h e) ⟨rfl, rfl⟩
theorem bind_err {α β : Type} {f : M α} {g : α → M β} {S S' : List Ob} {e : Exn} (h : f S = some (.error e, S')) : M.bind f g S = some (.error e, S') := by
  unfold M.bind
  rw [h]
theorem open_list {x d : D} (h : Pl d) (e : btw d 0 100 = false) (S : List Ob) : errIn [0, 2, 3, 5, 9] (sem_Run_opening [x, d]) S = some (.error ⟨3, some d⟩, S) := by
  unfold errIn
  rw [open_bad h e S]
  rfl
theorem run_bad {x d : D} (h : Pl d) (e : btw d 0 100 = false) : sem_RunX_callX [x, d] = M.err ⟨3, some d⟩ := by
  refine err_eq fun S => ?_
  refine xp_fn rfl ?_
  unfold pk_RunX_callX
  simp only [slots, List.map_cons, List.map_nil, List.length_cons, List.length_nil, List.cons_append, List.nil_append, List.replicate, Nat.reduceSub, Nat.reduceAdd]
  (repeat regstrif_gather)
  exact xp_bad (count_bad h e) ⟨rfl, rfl⟩
theorem check_bad {d : D} (h : Pl d) (e : resB d = false) : sem_check_resistance [d] = M.err ⟨2, some d⟩ := by
  refine err_eq fun S => ?_
  refine xp_fn rfl ?_
  unfold pk_check_resistance
  simp only [slots, List.map_cons, List.map_nil, List.length_cons, List.length_nil, List.cons_append, List.nil_append, List.replicate, Nat.reduceSub, Nat.reduceAdd]
  (repeat regstrif_gather)
  refine go_val (is_resistance_p h) ?_
  rw [e]
  (repeat regstrif_gather)
  exact ⟨rfl, rfl⟩
theorem call_bad {x d : D} (h : Pl d) (e : resB d = false) : sem_PatternX_callX [x, d] = M.err ⟨2, some d⟩ := by
  refine err_eq fun S => ?_
  refine xp_fn rfl ?_
  unfold pk_PatternX_callX
  simp only [slots, List.map_cons, List.map_nil, List.length_cons, List.length_nil, List.cons_append, List.nil_append, List.replicate, Nat.reduceSub, Nat.reduceAdd]
  (repeat regstrif_gather)
  exact xp_bad (check_bad h e) ⟨rfl, rfl⟩
theorem isa_no {d : D} (h : Pl d) : dIsa (fun c => decide (c ∈ [0, 1, 5])) (fun a b => if a ∈ [0, 1, 5] ∧ b ∈ [1, 0] then some (decide ((a, b) ∈ [(0, 0), (1, 1)])) else none) d (.cls 1) = M.pure (.bl false) := by
  cases h <;> rfl
theorem pat_bad {d : D} (h : Pl d) : sem_check_pattern [d] = M.err ⟨0, some d⟩ := by
  refine err_eq fun S => ?_
  refine xp_fn rfl ?_
  unfold pk_check_pattern
  simp only [slots, List.map_cons, List.map_nil, List.length_cons, List.length_nil, List.cons_append, List.nil_append, List.replicate, Nat.reduceSub, Nat.reduceAdd]
  (repeat regstrif_gather)
  refine go_val (r := .bl false) ?_ ?_
  · exact isa_no h
  (repeat regstrif_gather)
  exact ⟨rfl, rfl⟩
theorem lad_badp {d x : D} (h : Pl d) : sem_LadderX_initX [d, x] = M.err ⟨0, some d⟩ := by
  refine err_eq fun S => ?_
  refine xp_mk rfl ?_
  unfold pk_LadderX_initX
  simp only [slots, List.map_cons, List.map_nil, List.length_cons, List.length_nil, List.cons_append, List.nil_append, List.replicate, Nat.reduceSub, Nat.reduceAdd]
  (repeat regstrif_gather)
  exact xp_bad (pat_bad h) ⟨rfl, rfl⟩
theorem lad_badl {r : List Pc} {d : D} (h : Pl d) (e : resB d = false) : sem_LadderX_initX [patD r, d] = M.err ⟨2, some d⟩ := by
  refine err_eq fun S => ?_
  refine xp_mk rfl ?_
  unfold pk_LadderX_initX
  simp only [slots, List.map_cons, List.map_nil, List.length_cons, List.length_nil, List.cons_append, List.nil_append, List.replicate, Nat.reduceSub, Nat.reduceAdd]
  (repeat regstrif_gather)
  refine xp_val (check_pat_ok r) ?_
  (repeat regstrif_gather)
  exact xp_bad (check_bad h e) ⟨rfl, rfl⟩
end K14
set_option maxRecDepth 100000
set_option maxHeartbeats 4000000
namespace K14
open PySem Ev
theorem p12 : dPow (.int 10) (.int 12) = M.pure (.int 1000000000000) := pow_at (by decide) rfl
theorem nothing_wp {S : List Ob} {n : Nat} {P : D → List Ob → Prop} (h : Cup S n) (q : ∀ d S', PS d → resB d = false → Cup S' n → Kp n S S' → P d S') : Wp (sem__law_nothing [.ref n]) S P := by
  (unfold sem__law_nothing; refine Ev.go_fn rfl ?_; unfold pk__law_nothing; simp only [Ev.slots, List.map_cons, List.map_nil, List.length_cons, List.length_nil, List.cons_append, List.nil_append, List.replicate, Nat.reduceSub, Nat.reduceAdd])
  (repeat regstrif_gather)
  refine go_val p12 ?_
  (repeat regstrif_gather)
  refine go_val p12 ?_
  (repeat regstrif_gather)
  refine go_val p12 ?_
  (repeat regstrif_gather)
  refine pick_pq (fun d => !resB d) h (by decide +kernel) (by decide) (by decide) fun d S2 md pd bd h2 k2 => ?_
  exact q d S2 pd (by simpa using bd) h2 k2
theorem shows_val (r : List Pc) (v : Int × Int) : shows r v.1 v.2 = valP r v 1 := by
  show lowP (act (mat r) v) = lowP (wV r v 1)
  rw [wV_S, wV_0]
theorem wk2 {r : List Pc} (h : Row r) : Wk r 41 2 := ⟨h, h.s41, by decide, by decide⟩
theorem vec100 {t b : Int} (ht : 0 ≤ t ∧ t ≤ 1000000000000) (hb : 0 ≤ b ∧ b ≤ 1000000000000) (p : 0 < t + b) : Vec 100 (t, b) := ⟨⟨ht.1, by show t < 2 ^ 100; omega⟩, ⟨hb.1, by show b < 2 ^ 100; omega⟩, p⟩
theorem shw_pair {v : Int × Int} (h1 : Sm 1900 v.1) (h2 : Sm 1900 v.2) : Shw 1 4000 (pairD v) :=
  (shw_tup (shl_cons (shw_int (bd_sm h1) (by decide)) (shl_cons (shw_int (bd_sm h2) (by decide)) shl_nil))).mono (by decide) (by decide)
theorem shw_val {r : List Pc} (h : Row r) {v : Int × Int} (hv : Vec 100 v) {k : Nat} (l : k ≤ 2) : Shw 1 4000 (pairD (valP r v k)) := by
  have w := val_vecW (wk2 h) hv l
  exact shw_pair w.t w.b
theorem pos_of {r : List Pc} (h : Row r) {v : Int × Int} (hv : Vec 100 v) : 0 < (chainM one 1 r).1.top v.1 v.2 + (chainM one 1 r).1.bot v.1 v.2 := ((mat_P h.1).vec hv.t.1 hv.b.1 hv.p).2.2
theorem callI {r : List Pc} (h : Row r) {i : Int} (h0 : 0 ≤ i) (h1 : i ≤ 10 ^ 12) : sem_PatternX_callX [patD r, .int i] = M.pure (pairD (valP r (i, 1) 1)) := by
  rw [call_int r h i h0 h1 (pos_of h (v := (i, 1)) (vec100 ⟨h0, h1⟩ (by decide) (by show 0 < i + 1; omega)))]
  exact congrArg (fun z => M.pure (pairD z)) (shows_val r (i, 1))
theorem callT {r : List Pc} (h : Row r) {t b x y : Int} (hl : LoadT t b) (e1 : lowT t b = x) (e2 : lowB t b = y) (hv : Vec 100 (x, y)) : sem_PatternX_callX [patD r, .tup [.int t, .int b]] = M.pure (pairD (valP r (x, y) 1)) := by
  subst e1 e2
  rw [call_tup r h t b hl (pos_of h hv)]
  exact congrArg (fun z => M.pure (pairD z)) (shows_val r (lowT t b, lowB t b))
theorem load_attr (r : List Pc) (v : Int × Int) : attr (tab [(5, .prop sem_Run_load)]) (ladD r v) = M.pure (pairD v) := by
  have e : sem_Run_load [ladD r v] = M.pure (pairD v) := by
    refine pure_wp fun S => ?_
    (unfold sem_Run_load; refine Ev.go_fn rfl ?_; unfold pk_Run_load; simp only [Ev.slots, List.map_cons, List.map_nil, List.length_cons, List.length_nil, List.cons_append, List.nil_append, List.replicate, Nat.reduceSub, Nat.reduceAdd])
    (repeat regstrif_gather)
    exact go_val (r := pairD v) rfl ⟨rfl, rfl⟩
  show noErr (sem_Run_load [ladD r v]) = _
  rw [e]
  rfl
theorem pieces_attr {tb : Nat → Option At} (r : List Pc) (h : tb = tab [(1, .prop sem_Pattern_pieces)]) : attr tb (patD r) = M.pure (rowD r) := by
  subst h
  have e : sem_Pattern_pieces [patD r] = M.pure (rowD r) := by
    refine pure_wp fun S => ?_
    (unfold sem_Pattern_pieces; refine Ev.go_fn rfl ?_; unfold pk_Pattern_pieces; simp only [Ev.slots, List.map_cons, List.map_nil, List.length_cons, List.length_nil, List.cons_append, List.nil_append, List.replicate, Nat.reduceSub, Nat.reduceAdd])
    (repeat regstrif_gather)
    exact go_val (attr_row r) ⟨rfl, rfl⟩
  show noErr (sem_Pattern_pieces [patD r]) = _
  rw [e]
  rfl
theorem open_two {r : List Pc} (h : Row r) {e : Int × Int} (he : Vec 100 e) : sem_Run_opening [ladD r e, .int 2] = M.pure [pairD (valP r e 0), pairD (valP r e 1)] := pure_wp fun S => opening_wp (n := 2) (wk2 h) he (by decide) S
theorem open_twoE {r : List Pc} (h : Row r) {e : Int × Int} (he : Vec 100 e) : errIn [0, 2, 3, 5, 9] (sem_Run_opening [ladD r e, .int 2]) = M.pure [pairD (valP r e 0), pairD (valP r e 1)] := by
  rw [open_two h he]
  rfl
theorem lad_int {r : List Pc} {i : Int} (h0 : 0 ≤ i) (h1 : i ≤ 10 ^ 12) : sem_LadderX_initX [patD r, .int i] = M.pure (ladD r (i, 1)) := ladder_ok r (i, 1) _ (check_int i h0 h1) (pair_of_int i)
theorem lad_tup {r : List Pc} {t b x y : Int} (hl : LoadT t b) (p : 0 < t + b) (e1 : lowT t b = x) (e2 : lowB t b = y) : sem_LadderX_initX [patD r, .tup [.int t, .int b]] = M.pure (ladD r (x, y)) := by
  subst e1 e2
  refine ladder_ok r (lowT t b, lowB t b) _ (check_tup t b hl) (pair_of_tup t b hl.1 hl.2.2.1 p ?_ ?_)
  · exact Int.lt_of_le_of_lt hl.2.1 (by decide +kernel)
  · exact Int.lt_of_le_of_lt hl.2.2.2.1 (by decide +kernel)
theorem pl_pc {p : Pc} (h : p.ok) : Pl p.D := by
  refine .tup _ (by simp) fun d hd => ?_
  simp only [List.mem_cons, List.mem_nil_iff, or_false] at hd
  rcases hd with rfl | rfl
  · unfold Pc.w
    split
    · exact .str _ (by decide +kernel)
    · exact .str _ (by decide +kernel)
  · exact .int _ (.mk (by have := h.1; have := h.2; omega))
theorem right_ok (S : List Ob) (n : Nat) (h : Cup S n) : Wp (sem__law_right [.ref n]) S fun d S' => d = .bl true ∧ Tbs S' := by
  (unfold sem__law_right; refine Ev.go_fn rfl ?_; unfold pk__law_right; simp only [Ev.slots, List.map_cons, List.map_nil, List.length_cons, List.length_nil, List.cons_append, List.nil_append, List.replicate, Nat.reduceSub, Nat.reduceAdd])
  (repeat regstrif_gather)
  refine gs_times (J := fun sd S' => Cup S' n ∧ ∃ a b c d e f g h, sd = [.val (.ref n), a, b, c, d, e, f, g, h]) ?_ ?_ ⟨h, _, _, _, _, _, _, _, _, rfl⟩
  · rintro i sd S1 _ _ ⟨h1, a, b, c, d, e, f, g, h, rfl⟩
    (repeat regstrif_gather)
    refine row_wp h1 (by decide) (by decide) fun r S2 o1 l1 m1 h2 k2 => ?_
    (repeat regstrif_gather)
    have hn : RowN r := ⟨o1, l1, by omega⟩
    have Rr := hn.row
    refine go_val (law_read_ok r Rr hn.ne) ?_
    (repeat regstrif_gather)
    refine nothing_wp h2 fun odd S3 po ro h3 k3 => ?_
    (repeat regstrif_gather)
    refine go_val p12 ?_
    (repeat regstrif_gather)
    refine pick_wp h3 (by decide) (by decide) fun en S4 me h4 k4 => ?_
    (repeat regstrif_gather)
    refine go_val (pieces_attr r rfl) ?_
    (repeat regstrif_gather)
    refine pick_wp h4 (by simp) (by simp) fun bad S5 mb h5 k5 => ?_
    have pb : PS bad := by
      simp only [List.mem_cons, List.mem_nil_iff, or_false] at mb
      rcases mb with rfl | rfl | rfl | rfl | rfl | rfl | rfl | rfl | rfl
      · exact ps_b (by decide +kernel)
      · exact ps_b (by decide +kernel)
      · exact ps_b (by decide +kernel)
      · exact ps_b (by decide +kernel)
      · exact ps_b (by decide +kernel)
      · exact ps_b (by decide +kernel)
      · exact ps_b (by decide +kernel)
      · exact ps_b (by decide +kernel)
      · exact ⟨.tup _ (by rw [List.length_map]; omega) fun d hd => by
          obtain ⟨p, hp, rfl⟩ := List.mem_map.mp hd
          exact pl_pc (o1 p hp), shn_row hn⟩
    (repeat regstrif_gather)
    refine told_bad (c := 0) (d := bad) (x := 0) (y := 20) (z := 23) h5.2.any.2 (congrFun (lad_badp pb.pl) S5) pb.sh rfl ?_
    (repeat regstrif_gather)
    refine told_bad (c := 0) (d := bad) (x := 0) (y := 20) (z := 23) h5.2.any.2 (congrFun (lad_badp pb.pl) S5) pb.sh rfl ?_
    (repeat regstrif_gather)
    refine go_val pb.sh.1 ?_
    (repeat regstrif_gather)
    refine go_val (r := .lst (List.replicate 2 (erD 0 20 23 bad))) rfl ?_
    (repeat regstrif_gather)
    refine go_val (eq_er (n := 2) pb.sh true (by decide)) ?_
    (repeat regstrif_gather)
    have v11 : Vec 100 (1, 1) := vec100 (by decide) (by decide) (by decide)
    have v01 : Vec 100 (0, 1) := vec100 (by decide) (by decide) (by decide)
    have c1 := callI (i := 1) Rr (by decide) (by decide)
    have c0 := callI (i := 0) Rr (by decide) (by decide)
    have c22 := callT (t := 2) (b := 2) (x := 1) (y := 1) Rr (by unfold LoadT; decide) (by decide +kernel) (by decide +kernel) v11
    have c11 := callT (t := 1) (b := 1) (x := 1) (y := 1) Rr (by unfold LoadT; decide) (by decide +kernel) (by decide +kernel) v11
    have c01 := callT (t := 0) (b := 1) (x := 0) (y := 1) Rr (by unfold LoadT; decide) (by decide +kernel) (by decide +kernel) v01
    refine go_val c1 ?_
    (repeat regstrif_gather)
    refine go_val c22 ?_
    (repeat regstrif_gather)
    refine go_val (eq_self true (shw_val Rr v11 (k := 1) (by decide)) (by decide)) ?_
    (repeat regstrif_gather)
    refine go_val (lad_int (r := r) (i := 1) (by decide) (by decide)) ?_
    (repeat regstrif_gather)
    refine go_val (load_attr r (1, 1)) ?_
    (repeat regstrif_gather)
    refine go_val (eq_self true (shw_pair (v := (1, 1)) ⟨by decide, by decide +kernel⟩ ⟨by decide, by decide +kernel⟩) (by decide)) ?_
    (repeat regstrif_gather)
    have tb := h5.2.any.2
    refine told_bad (c := 2) (d := odd) (x := 2) (y := 20) (z := 23) tb (congrFun (lad_badl po.pl ro) S5) po.sh rfl ?_
    (repeat regstrif_gather)
    refine told_bad (c := 2) (d := odd) (x := 2) (y := 20) (z := 23) tb (congrFun (lad_badl po.pl ro) S5) po.sh rfl ?_
    (repeat regstrif_gather)
    refine told_bad (c := 2) (d := odd) (x := 2) (y := 20) (z := 23) tb (congrFun (call_bad (x := patD r) po.pl ro) S5) po.sh rfl ?_
    (repeat regstrif_gather)
    refine told_bad (c := 2) (d := odd) (x := 2) (y := 20) (z := 23) tb (congrFun (call_bad (x := patD r) po.pl ro) S5) po.sh rfl ?_
    (repeat regstrif_gather)
    refine go_val po.sh.1 ?_
    (repeat regstrif_gather)
    refine go_val (r := .lst (List.replicate 4 (erD 2 20 23 odd))) rfl ?_
    (repeat regstrif_gather)
    refine go_val (eq_er (n := 4) po.sh true (by decide)) ?_
    (repeat regstrif_gather)
    obtain ⟨v, hv, el⟩ : ∃ v, Vec 100 v ∧ sem_LadderX_initX [patD r, en] = M.pure (ladD r v) := by
      simp only [List.mem_cons, List.mem_nil_iff, or_false] at me
      rcases me with rfl | rfl | rfl | rfl
      · exact ⟨_, v01, lad_int (by decide) (by decide)⟩
      · exact ⟨(1, 0), vec100 (by decide) (by decide) (by decide), lad_tup (by unfold LoadT; decide) (by decide) (by decide +kernel) (by decide +kernel)⟩
      · exact ⟨(1, 2), vec100 (by decide) (by decide) (by decide), lad_tup (by unfold LoadT; decide) (by decide) (by decide +kernel) (by decide +kernel)⟩
      · exact ⟨(1000000000000, 1), vec100 (by decide) (by decide) (by decide), lad_int (by decide) (by decide)⟩
    refine go_val el ?_
    (repeat regstrif_gather)
    refine go_val c0 ?_
    (repeat regstrif_gather)
    refine go_val c01 ?_
    (repeat regstrif_gather)
    refine go_val (eq_self true (shw_val Rr v01 (k := 1) (by decide)) (by decide)) ?_
    (repeat regstrif_gather)
    refine go_val c1 ?_
    (repeat regstrif_gather)
    refine go_val c11 ?_
    (repeat regstrif_gather)
    refine go_val (eq_self true (shw_val Rr v11 (k := 1) (by decide)) (by decide)) ?_
    (repeat regstrif_gather)
    refine go_val (call_ok Rr hv (n := 0) (by decide)) ?_
    (repeat regstrif_gather)
    refine go_val (call_ok Rr hv (n := 1) (by decide)) ?_
    (repeat regstrif_gather)
    refine go_val (r := fun ds => sem_Run_opening (perm [0, 1] ds)) rfl ?_
    (repeat regstrif_gather)
    refine go_val (open_twoE Rr hv) ?_
    (repeat regstrif_gather)
    have s2 : Shw 3 12000 (.lst [pairD (valP r v 0), pairD (valP r v 1)]) := (shw_lst (shl_cons (shw_val Rr hv (k := 0) (by decide)) (shl_cons (shw_val Rr hv (k := 1) (by decide)) shl_nil))).mono (by decide) (by decide)
    refine go_val (eq_self true s2 (by decide)) ?_
    (repeat regstrif_gather)
    refine go_val (pow_at (r := 1000000000000000000000000000000) (by decide) rfl) ?_
    (repeat regstrif_gather)
    refine go_val (pow_at (r := 1000000000000000000000000000000) (by decide) rfl) ?_
    (repeat regstrif_gather)
    refine pick_pq (fun d => !btw d 0 100) h5 (by decide +kernel) (by decide) (by decide) fun d S6 md pd bd h6 k6 => ?_
    have bd : btw d 0 100 = false := by simpa using bd
    have tb6 := h6.2.any.2
    (repeat regstrif_gather)
    refine told_bad (c := 3) (d := d) (x := 3) (y := 20) (z := 23) tb6 (congrFun (run_bad (x := ladD r v) pd.pl bd) S6) pd.sh rfl ?_
    (repeat regstrif_gather)
    refine told_bad (c := 3) (d := d) (x := 3) (y := 20) (z := 23) tb6 (congrFun (run_bad (x := ladD r v) pd.pl bd) S6) pd.sh rfl ?_
    (repeat regstrif_gather)
    refine told_bad (c := 3) (d := d) (x := 3) (y := 20) (z := 23) tb6 (bind_err (open_list (x := ladD r v) pd.pl bd S6)) pd.sh rfl ?_
    (repeat regstrif_gather)
    refine told_bad (c := 3) (d := d) (x := 3) (y := 20) (z := 23) tb6 (bind_err (open_list (x := ladD r v) pd.pl bd S6)) pd.sh rfl ?_
    (repeat regstrif_gather)
    refine go_val pd.sh.1 ?_
    (repeat regstrif_gather)
    refine go_val (r := .lst (List.replicate 4 (erD 3 20 23 d))) rfl ?_
    (repeat regstrif_gather)
    refine go_val (eq_er (n := 4) pd.sh true (by decide)) ?_
    (repeat regstrif_gather)
    exact ⟨h6, _, _, _, _, _, _, _, _, rfl⟩
  · rintro sd S1 ⟨h1, a, b, c, d, e, f, g, h, rfl⟩
    (repeat regstrif_gather)
    exact ⟨rfl, h1.2⟩
end K14
set_option maxRecDepth 100000
set_option maxHeartbeats 1000000
namespace K14
open PySem Ev
theorem Tbs.push {S : List Ob} (h : Tbs S) (o : Ob) : Tbs (S ++ [o]) := by
  have h1 : 1 < S.length := (List.getElem?_eq_some_iff.mp h.2).1
  refine ⟨?_, ?_⟩
  · rw [List.getElem?_append_left (by omega)]; exact h.1
  · rw [List.getElem?_append_left h1]; exact h.2
theorem ix_scr {ds : List D} {i : Int} {d : D} (h : L2.atI ds i = some d) : dIx (.scr ds) (.int i) = M.pure d := by
  funext S
  show (match L2.atI ds i with | some x => (some (Except.ok x, S) : Option (Except Exn D × List Ob)) | none => none) = _
  rw [h]
  rfl
theorem slice2 (ns : List Int) : dSl (.scr (ns.map D.int)) none (some 2) = M.pure (.lst ((ns.take 2).map D.int)) := by
  show M.pure (D.lst (cutD (ns.map D.int) none (some 2))) = _
  unfold cutD HT.sIx
  simp only [show ¬((2 : Int) < 0) by decide, if_false, List.drop_zero, Nat.sub_zero, List.length_map]
  rw [List.map_take]
  congr 2
  show List.take (min 2 ns.length) _ = _
  rw [← List.length_map (f := D.int), List.take_eq_take_iff]
  omega
theorem cup_ok (S : List Ob) (ns : List Int) (spot : Int) (h0 : 0 ≤ spot) (h1 : spot < 100) (hT : Tbs S) (hb : ∀ z ∈ ns, Builtin.Int.intBits z ≤ 1048576) : Wp (sem__law_cup [.scr (ns.map D.int), .int spot]) S fun d S' => d = .ref S.length ∧ Cup S' S.length := by
  have hB : ∀ z ∈ ns, Bd 1048576 z := fun z hz => bd_bits (hb z hz)
  (unfold sem__law_cup; refine Ev.go_fn rfl ?_; unfold pk__law_cup; simp only [Ev.slots, List.map_cons, List.map_nil, List.length_cons, List.length_nil, List.cons_append, List.nil_append, List.replicate, Nat.reduceSub, Nat.reduceAdd])
  refine gs_seq (gs_asg (go_use (P' := fun d S' => S' = S ∧ ∃ z, d = .int z ∧ Bd 1048576 z ∧ ((ns.length : Int) ≤ spot → 0 ≤ z ∧ z < 1000000000)) ?_ ?_))
  · (repeat regstrif_gather)
    simp only [List.length_map]
    refine ite_d (fun c => ?_) (fun c => ?_)
    · (repeat regstrif_gather)
      obtain ⟨m, rfl⟩ : ∃ m : Nat, spot = m := ⟨spot.toNat, by omega⟩
      have hm : m < ns.length := by omega
      refine go_val (r := .int ns[m]) (ix_scr (L2.atI_nat (by rw [List.getElem?_map, List.getElem?_eq_getElem hm]; rfl))) ?_
      exact ⟨rfl, _, rfl, hB _ (List.getElem_mem hm), fun z => by omega⟩
    · (repeat regstrif_gather)
      exact ⟨rfl, _, rfl, (Bd.of64 (by omega) (by omega)).mono (by decide), fun z => by omega⟩
  · rintro d S' ⟨rfl, z, rfl, bz, cz⟩
    refine gs_seq (gs_for (go_use (P' := fun l S2 => S2 = S' ∧ ∃ zs : List Int, l = zs.map D.int ∧ (∀ z ∈ zs, Bd 1048576 z) ∧ (spot < (ns.length : Int) → zs = [])) ?_ ?_))
    · (repeat regstrif_gather)
      simp only [List.length_map]
      refine ite_d (fun c => ?_) (fun c => ?_)
      · (repeat regstrif_gather)
        rw [slice2]
        (repeat regstrif_gather)
        exact ⟨rfl, _, rfl, fun z hz => hB z (List.mem_of_mem_take hz), fun z => by omega⟩
      · (repeat regstrif_gather)
        exact ⟨rfl, [], rfl, fun z hz => (List.not_mem_nil hz).elim, fun _ => rfl⟩
    · rintro l S2 ⟨rfl, zs, rfl, hz, hz0⟩
      refine gs_loop (J := fun ds sd S' => S' = S2 ∧ ∃ (ys : List Int) (u : SV) (z : Int), ds = ys.map D.int ∧ sd = [.val (.scr (ns.map D.int)), .val (.int spot), .val (.int z), u] ∧ (∀ z ∈ ys, Bd 1048576 z) ∧ (spot < (ns.length : Int) → ys = []) ∧ Bd 1048576 z ∧ ((ns.length : Int) ≤ spot → 0 ≤ z ∧ z < 1000000007)) ?_ ?_ _ _ _ ⟨rfl, zs, _, z, rfl, rfl, hz, hz0, bz, fun c => by have := cz c; omega⟩
      · rintro d ds sd S3 ⟨rfl, ys, u, z, e, rfl, hy, hy0, bz, cz⟩
        rcases ys with _ | ⟨y, ys⟩
        · cases e
        cases e
        have c : (ns.length : Int) ≤ spot := by
          by_cases c : (ns.length : Int) ≤ spot
          · exact c
          · exact absurd (hy0 (by omega)) (by simp)
        have := cz c
        refine ⟨_, _, rfl, ?_⟩
        (repeat regstrif_gather)
        have a := Int.emod_nonneg (z * 31 + y) (show (1000000007 : Int) ≠ 0 by decide)
        have b := Int.emod_lt_of_pos (z * 31 + y) (show (0 : Int) < 1000000007 by decide)
        exact ⟨rfl, ys, _, _, rfl, rfl, fun q hq => hy q (List.mem_cons_of_mem _ hq), fun z => by omega, (Bd.of64 (by omega) (by omega)).mono (by decide), fun _ => ⟨a, b⟩⟩
      · rintro sd S3 ⟨rfl, ys, u, z, e, rfl, hy, hy0, bz, cz⟩
        have p18 : dPow (.int 10) (.int 18) = M.pure (.int 1000000000000000000) := by funext S; kernel_rfl
        have b4 : Bd 13 (4099 : Int) := by unfold Bd; decide
        (repeat regstrif_gather)
        have a := Int.emod_nonneg (z * 4099 + 271 * spot + 17) (show (2147483629 : Int) ≠ 0 by decide)
        have b := Int.emod_lt_of_pos (z * 4099 + 271 * spot + 17) (show (0 : Int) < 2147483629 by decide)
        have fin : ∀ w : Int, 0 ≤ w → D.ref S3.length = D.ref S3.length ∧ Cup (S3 ++ [.lst [.int ((z * 4099 + 271 * spot + 17) % 2147483629), .int w]]) S3.length := fun w hw => ⟨rfl, ⟨_, _, List.getElem?_concat_length, ⟨a, Int.lt_trans b (by decide)⟩, hw⟩, hT.push _⟩
        refine ite_d (fun c => ?_) (fun c => ?_)
        · (repeat regstrif_gather)
          exact fin _ (by omega)
        · (repeat regstrif_gather)
          rw [p18]
          (repeat regstrif_gather)
          refine ite_d (fun c => ?_) (fun c => ?_)
          · (repeat regstrif_gather)
            exact fin _ (by omega)
          · (repeat regstrif_gather)
            exact fin 0 (by omega)
end K14
set_option maxRecDepth 100000
set_option maxHeartbeats 4000000
namespace K14
open PySem Ev
def p1 : List Pc := [⟨true, 1⟩]
theorem law_ok (S : List Ob) (ns : List Int) (l : ns.length ≤ 63) (hT : Tbs S) (hb : ∀ z ∈ ns, Builtin.Int.intBits z ≤ 1048576) : Wp (sem_law [.scr (ns.map D.int)]) S fun d _ => d = .bl true := by
  have ok1 : ∀ p ∈ p1, p.ok := fun p hp => by
    rw [List.mem_singleton.mp hp]
    exact ⟨by decide, by decide⟩
  have R1 : Row p1 := ⟨ok1, by decide⟩
  have v01 : Vec 100 (0, 1) := vec100 (by decide) (by decide) (by decide)
  have i1 : sem_PatternX_initX [.tup [.str "rail", .int 1]] = M.pure (patD p1) := by
    refine init_ok (r := p1) ok1 (by decide) (fun p hp => pl_pc (ok1 p hp)) ?_
    have pl : ∀ d ∈ p1.map Pc.D, Pl d := fun d hd => by
      obtain ⟨p, hp, rfl⟩ := List.mem_map.mp hd
      exact pl_pc (ok1 p hp)
    unfold rowD
    rw [check_eq _ pl, if_neg (by decide)]
    rfl
  have l1 : sem_LadderX_initX [patD p1, .int 0] = M.pure (ladD p1 (0, 1)) := lad_int (by decide) (by decide)
  have c1 : sem_RunX_callX [ladD p1 (0, 1), .int 100] = M.pure (pairD (100, 1)) := by
    have z := call_ok R1 v01 (n := 100) (by decide)
    rw [show valP p1 (0, 1) 100 = (100, 1) by decide +kernel] at z
    exact z
  have pm : Pl (.int 101) := pl_b (by decide +kernel)
  have sm : Shn (.int 101) := shn_b (by decide +kernel)
  have c2 : sem_RunX_callX [ladD p1 (0, 1), .int 101] = M.err ⟨3, some (.int 101)⟩ := run_bad pm (by decide)
  (unfold sem_law; refine Ev.go_fn rfl ?_; unfold pk_law; simp only [Ev.slots, List.map_cons, List.map_nil, List.length_cons, List.length_nil, List.cons_append, List.nil_append, List.replicate, Nat.reduceSub, Nat.reduceAdd])
  (repeat regstrif_gather)
  refine go_val i1 ?_
  (repeat regstrif_gather)
  refine go_val l1 ?_
  (repeat regstrif_gather)
  refine go_val c1 ?_
  (repeat regstrif_gather)
  refine go_val (eq_self true (shw_pair (v := (100, 1)) ⟨by decide, by decide +kernel⟩ ⟨by decide, by decide +kernel⟩) (by decide)) ?_
  (repeat regstrif_gather)
  refine told_bad (c := 3) (d := .int 101) (x := 3) (y := 20) (z := 23) hT.any.1 (congrFun c2 S) sm rfl ?_
  (repeat regstrif_gather)
  have x1 : txR (.int 101) = Str.ofString "101" := by kernel_rfl
  have er : ∀ (d : D) (x : Str), txR d = x → erD ((3 : Nat) : Int) ((20 : Nat) : Int) ((23 : Nat) : Int) d = .lst [.int 3, .int 20, .int 23, .str x] := by
    intro d x h
    subst h
    rfl
  rw [er _ _ x1]
  refine go_val (r := .bl false) (same_told (c := 3) (x := 20) (y := 23) (z := "101") (by decide +kernel) true) ?_
  (repeat regstrif_gather)
  simp only [List.length_map]
  (repeat regstrif_gather)
  refine Wp.mono (spots_keep Tbs (by split <;> split <;> omega) S hT fun i h0 h1 S hT => ⟨_, rfl, ?_⟩) ?_
  · (repeat regstrif_gather)
    refine go_use (cup_ok S ns i h0 (by omega) hT hb) ?_
    rintro _ S1 ⟨rfl, h1⟩
    (repeat regstrif_gather)
    exact right_ok S1 _ h1
  · intro acc S' h
    (repeat regstrif_gather)
    rw [h]
    exact go_pure rfl
theorem law_true (ns : List Int) (l : ns.length ≤ 63) (hb : ∀ z ∈ ns, Builtin.Int.intBits z ≤ 1048576) : ∃ S, sem_law [.scr (ns.map D.int)] (tbls 2) = some (.ok (.bl true), S) := by
  obtain ⟨a, S, e, rfl⟩ := (law_ok (tbls 2) ns l ⟨rfl, rfl⟩ hb).ex
  exact ⟨S, e⟩
end K14
set_option maxRecDepth 100000
set_option maxHeartbeats 4000000
namespace K14
open PySem PySem.Spec PyProof.Rows L2 Ev
def adOf (l : List (Nat × Addr)) (i : Nat) : Addr := match tab l i with | some a => a | none => 0
abbrev st_NotAPatternX_initX : Stmt := inClass (top 3) 0
theorem sc_NotAPatternX_initX : FnScope ["self", "given"] ["self", "given"] (defScope st_NotAPatternX_initX) := ⟨rfl, rfl, rfl, by decide +kernel, rfl, by decide +kernel, by decide +kernel⟩
abbrev st_InvalidResistanceX_initX : Stmt := inClass (top 5) 0
theorem sc_InvalidResistanceX_initX : FnScope ["self", "given"] ["self", "given"] (defScope st_InvalidResistanceX_initX) := ⟨rfl, rfl, rfl, by decide +kernel, rfl, by decide +kernel, by decide +kernel⟩
abbrev st_InvalidPiecesX_initX : Stmt := inClass (top 12) 0
theorem sc_InvalidPiecesX_initX : FnScope ["self", "index"] ["self", "index"] (defScope st_InvalidPiecesX_initX) := ⟨rfl, rfl, rfl, by decide +kernel, rfl, by decide +kernel, by decide +kernel⟩
abbrev st_InvalidCountX_initX : Stmt := inClass (top 6) 0
theorem sc_InvalidCountX_initX : FnScope ["self", "given"] ["self", "given"] (defScope st_InvalidCountX_initX) := ⟨rfl, rfl, rfl, by decide +kernel, rfl, by decide +kernel, by decide +kernel⟩
abbrev st_InvalidTextX_initX : Stmt := inClass (top 8) 0
theorem sc_InvalidTextX_initX : FnScope ["self", "given"] ["self", "given"] (defScope st_InvalidTextX_initX) := ⟨rfl, rfl, rfl, by decide +kernel, rfl, by decide +kernel, by decide +kernel⟩
theorem isS_of {l : List Nat} {c : Nat} {b : Bool} (h : isS l c = some b) : ∃ k, k < 23 ∧ c = 100 + k ∧ b = decide (100 + k ∈ l) := by
  unfold isS at h
  split at h
  · next q =>
    cases h
    refine ⟨c - 100, by omega, by omega, ?_⟩
    rw [show 100 + (c - 100) = c by omega]
  · cases h
theorem all_mk {l : PySem.W.OpenLaw} {w : World} {K : PySem.W.Frag} {h : Heap} {mg : Str → Option Value} {fa : Addr} (X : K.In h) (G : h.Ns mainGlobals mg) (hfa : mg "law" = some (.ref fa))
    {C0 : Addr} {C1 : Addr} {C5 : Addr} {f0 : Addr} {f1 : Addr} {f2 : Addr} {f3 : Addr} {f4 : Addr} {f5 : Addr} {f6 : Addr} {f7 : Addr} {f8 : Addr} {f9 : Addr} {f10 : Addr} {f11 : Addr} {f12 : Addr} {f13 : Addr} {f14 : Addr} {f15 : Addr} {f16 : Addr} {f17 : Addr} {f18 : Addr} {f19 : Addr} {f20 : Addr} {f21 : Addr} {f22 : Addr} {f23 : Addr} {f43 : Addr} {f44 : Addr} {f24 : Addr} {f25 : Addr} {f26 : Addr} {f27 : Addr} {f28 : Addr} {f29 : Addr} {f30 : Addr} {f31 : Addr} {f32 : Addr} {f33 : Addr} {f34 : Addr} {f35 : Addr} {f36 : Addr} {f37 : Addr} {f38 : Addr} {f39 : Addr} {f40 : Addr} {f41 : Addr} {f42 : Addr} {q35_1 : Addr} {rs35_1 : List Value} {q36_5 : Addr} {rs36_5 : List Value} {q31 : Addr} {mc31 : Value} {rs31 : List Value} {od0 an0 : Option Addr} {sl0 : Array (Option Value)} {oc0 kV0 dc0 pm0 cd0 ct0 : Value} {od1 an1 : Option Addr} {sl1 : Array (Option Value)} {oc1 kV1 dc1 pm1 cd1 ct1 : Value} {od2 an2 : Option Addr} {sl2 : Array (Option Value)} {oc2 kV2 dc2 pm2 cd2 ct2 : Value} {od3 an3 : Option Addr} {sl3 : Array (Option Value)} {oc3 kV3 dc3 pm3 cd3 ct3 : Value} {od4 an4 : Option Addr} {sl4 : Array (Option Value)} {oc4 kV4 dc4 pm4 cd4 ct4 : Value} {od5 an5 : Option Addr} {sl5 : Array (Option Value)} {oc5 kV5 dc5 pm5 cd5 ct5 : Value} {od6 an6 : Option Addr} {sl6 : Array (Option Value)} {oc6 kV6 dc6 pm6 cd6 ct6 : Value} {od7 an7 : Option Addr} {sl7 : Array (Option Value)} {oc7 kV7 dc7 pm7 cd7 ct7 : Value} {od8 an8 : Option Addr} {sl8 : Array (Option Value)} {oc8 kV8 dc8 pm8 cd8 ct8 : Value} {od9 an9 : Option Addr} {sl9 : Array (Option Value)} {oc9 kV9 dc9 pm9 cd9 ct9 : Value} {cc10 cda10 : Addr} {od10 an10 ed10 gd10 : Option Addr} {sl10 es10 gs10 : Array (Option Value)} {oc10 kV10 dc10 pm10 ct10 ec10 gc10 : Value} {gv10 : Array Value} {fi10 : Str} {tf10 : Tok} {cd10 : ClassData} {od11 an11 : Option Addr} {sl11 : Array (Option Value)} {oc11 kV11 dc11 pm11 cd11 ct11 : Value} {od12 an12 : Option Addr} {sl12 : Array (Option Value)} {oc12 kV12 dc12 pm12 cd12 ct12 : Value} {od13 an13 : Option Addr} {sl13 : Array (Option Value)} {oc13 kV13 dc13 pm13 cd13 ct13 : Value} {od14 an14 : Option Addr} {sl14 : Array (Option Value)} {oc14 kV14 dc14 pm14 cd14 ct14 : Value} {od15 an15 : Option Addr} {sl15 : Array (Option Value)} {oc15 kV15 dc15 pm15 cd15 ct15 : Value} {od16 an16 : Option Addr} {sl16 : Array (Option Value)} {oc16 kV16 dc16 pm16 cd16 ct16 : Value} {od17 an17 : Option Addr} {sl17 : Array (Option Value)} {oc17 kV17 dc17 pm17 cd17 ct17 : Value} {od18 an18 : Option Addr} {sl18 : Array (Option Value)} {oc18 kV18 dc18 pm18 cd18 ct18 : Value} {od19 an19 : Option Addr} {sl19 : Array (Option Value)} {oc19 kV19 dc19 pm19 cd19 ct19 : Value} {od20 an20 : Option Addr} {sl20 : Array (Option Value)} {oc20 kV20 dc20 pm20 cd20 ct20 : Value} {od21 an21 : Option Addr} {sl21 : Array (Option Value)} {oc21 kV21 dc21 pm21 cd21 ct21 : Value} {od22 an22 : Option Addr} {sl22 : Array (Option Value)} {oc22 kV22 dc22 pm22 cd22 ct22 : Value} {od23 an23 : Option Addr} {sl23 : Array (Option Value)} {oc23 kV23 dc23 pm23 cd23 ct23 : Value} {od43 an43 : Option Addr} {sl43 : Array (Option Value)} {oc43 kV43 dc43 pm43 cd43 ct43 : Value} {od44 an44 : Option Addr} {sl44 : Array (Option Value)} {oc44 kV44 dc44 pm44 cd44 ct44 : Value} {od24 an24 : Option Addr} {sl24 : Array (Option Value)} {oc24 kV24 dc24 pm24 cd24 ct24 : Value} {od25 an25 : Option Addr} {sl25 : Array (Option Value)} {oc25 kV25 dc25 pm25 cd25 ct25 : Value} {od26 an26 : Option Addr} {sl26 : Array (Option Value)} {oc26 kV26 dc26 pm26 cd26 ct26 : Value} {od27 an27 : Option Addr} {sl27 : Array (Option Value)} {oc27 kV27 dc27 pm27 cd27 ct27 : Value} {od28 an28 : Option Addr} {sl28 : Array (Option Value)} {oc28 kV28 dc28 pm28 cd28 ct28 : Value} {od29 an29 : Option Addr} {sl29 : Array (Option Value)} {oc29 kV29 dc29 pm29 cd29 ct29 : Value} {od30 an30 : Option Addr} {sl30 : Array (Option Value)} {oc30 kV30 dc30 pm30 cd30 ct30 : Value} {od31 an31 : Option Addr} {sl31 : Array (Option Value)} {oc31 kV31 dc31 pm31 cd31 ct31 : Value} {od32 an32 : Option Addr} {sl32 : Array (Option Value)} {oc32 kV32 dc32 pm32 cd32 ct32 : Value} {od33 an33 : Option Addr} {sl33 : Array (Option Value)} {oc33 kV33 dc33 pm33 cd33 ct33 : Value} {od34 an34 : Option Addr} {sl34 : Array (Option Value)} {oc34 kV34 dc34 pm34 cd34 ct34 : Value} {od35 an35 : Option Addr} {sl35 : Array (Option Value)} {oc35 kV35 dc35 pm35 cd35 ct35 : Value} {od36 an36 : Option Addr} {sl36 : Array (Option Value)} {oc36 kV36 dc36 pm36 cd36 ct36 : Value} {od37 an37 : Option Addr} {sl37 : Array (Option Value)} {oc37 kV37 dc37 pm37 cd37 ct37 : Value} {od38 an38 : Option Addr} {sl38 : Array (Option Value)} {oc38 kV38 dc38 pm38 cd38 ct38 : Value} {od39 an39 : Option Addr} {sl39 : Array (Option Value)} {oc39 kV39 dc39 pm39 cd39 ct39 : Value} {cc40 P40 : Addr} {od40 an40 gd40 : Option Addr} {sl40 gs40 : Array (Option Value)} {oc40 kV40 dc40 pm40 ct40 gc40 : Value} {gv40 : Array Value} {od41 an41 : Option Addr} {sl41 : Array (Option Value)} {oc41 kV41 dc41 pm41 cd41 ct41 : Value} {cc42 P42 : Addr} {od42 an42 gd42 : Option Addr} {sl42 gs42 : Array (Option Value)} {oc42 kV42 dc42 pm42 ct42 gc42 : Value} {gv42 : Array Value} {X0 : Addr} {X1 : Addr} {X2 : Addr} {X3 : Addr} {X4 : Addr} {X5 : Addr} {X6 : Addr} {X7 : Addr} {X8 : Addr} {X9 : Addr} {X10 : Addr} {X11 : Addr} {X12 : Addr} {X13 : Addr} {X14 : Addr} {X15 : Addr} {X16 : Addr} {X17 : Addr} {X18 : Addr} {X20 : Addr} {X21 : Addr} {X22 : Addr} {xi0 : Addr} {xN0 xq0 : Str} {xA0 : Addr} {xb0 xm0 xs0 : List Value} {xt0 : List Str} {xa0 : Bool} {xc0 : Option Bool} {xd0 : Option Addr} {xv0_0 xv1_0 xv2_0 xv3_0 xv5_0 : Option Value} {eod0 ean0 : Option Addr} {esl0 : Array (Option Value)} {eoc0 ekV0 edc0 epm0 ecd0 ect0 : Value} {xi2 : Addr} {xN2 xq2 : Str} {xA2 : Addr} {xb2 xm2 xs2 : List Value} {xt2 : List Str} {xa2 : Bool} {xc2 : Option Bool} {xd2 : Option Addr} {xv0_2 xv1_2 xv2_2 xv3_2 xv5_2 : Option Value} {eod2 ean2 : Option Addr} {esl2 : Array (Option Value)} {eoc2 ekV2 edc2 epm2 ecd2 ect2 : Value} {xi9 : Addr} {xN9 xq9 : Str} {xA9 : Addr} {xb9 xm9 xs9 : List Value} {xt9 : List Str} {xa9 : Bool} {xc9 : Option Bool} {xd9 : Option Addr} {xv0_9 xv1_9 xv2_9 xv3_9 xv5_9 : Option Value} {eod9 ean9 : Option Addr} {esl9 : Array (Option Value)} {eoc9 ekV9 edc9 epm9 ecd9 ect9 : Value} {xi3 : Addr} {xN3 xq3 : Str} {xA3 : Addr} {xb3 xm3 xs3 : List Value} {xt3 : List Str} {xa3 : Bool} {xc3 : Option Bool} {xd3 : Option Addr} {xv0_3 xv1_3 xv2_3 xv3_3 xv5_3 : Option Value} {eod3 ean3 : Option Addr} {esl3 : Array (Option Value)} {eoc3 ekV3 edc3 epm3 ecd3 ect3 : Value} {xi5 : Addr} {xN5 xq5 : Str} {xA5 : Addr} {xb5 xm5 xs5 : List Value} {xt5 : List Str} {xa5 : Bool} {xc5 : Option Bool} {xd5 : Option Addr} {xv0_5 xv1_5 xv2_5 xv3_5 xv5_5 : Option Value} {eod5 ean5 : Option Addr} {esl5 : Array (Option Value)} {eoc5 ekV5 edc5 epm5 ecd5 ect5 : Value} {T_OPEN : Addr} {o_OPEN : Option Addr} {its_OPEN : Array Value} {u_OPEN : Nat} {sl_OPEN : Array (Option Value)} {t_GREATEST : Tok} {t_MOST_PIECES : Tok} {t_MOST_OHMS : Tok} {T_WORDS : Addr} {o_WORDS : Option Addr} {its_WORDS : Array Value} {u_WORDS : Nat} {sl_WORDS : Array (Option Value)} {T_NOTHING : Addr} {o_NOTHING : Option Addr} {its_NOTHING : Array Value} {u_NOTHING : Nat} {sl_NOTHING : Array (Option Value)} {t_MOST_SECTIONS : Tok} {t_DIGITS : Tok} {t_MOST_DIGITS : Tok} {t_MOST_JOINED : Tok}
    (nC0 : PySem.W.nsIn K mainGlobals "Row" = some (some (.ref C0))) (pgC0 : PySem.W.plainGet K C0 Str.empty = true) (hdC0 : PySem.W.hasDictIn K C0 = true) (poC0 : PySem.W.plainOver K C0 = true)
    (saC0 : PySem.W.findIn K (.ref C0) "__setattr__" = some (some (.builtin "object.__setattr__"))) (ccC0 : PySem.W.findIn K (.ref C0) "__class__" = some (some (.builtin "object.__class__"))) (moC0 : PySem.W.mroIn K C0 (.type "object") = some true) (naC0_told : PySem.W.findIn K (.ref C0) "told" = some none)
    (nC1 : PySem.W.nsIn K mainGlobals "Pattern" = some (some (.ref C1))) (pgC1 : PySem.W.plainGet K C1 Str.empty = true) (hdC1 : PySem.W.hasDictIn K C1 = true) (poC1 : PySem.W.plainOver K C1 = true)
    (saC1 : PySem.W.findIn K (.ref C1) "__setattr__" = some (some (.builtin "object.__setattr__"))) (ccC1 : PySem.W.findIn K (.ref C1) "__class__" = some (some (.builtin "object.__class__"))) (moC1 : PySem.W.mroIn K C1 (.type "object") = some true) (naC1_row : PySem.W.findIn K (.ref C1) "row" = some none)
    (naC1_chain : PySem.W.findIn K (.ref C1) "chain" = some none) (naC1_scale : PySem.W.findIn K (.ref C1) "scale" = some none) (nC5 : PySem.W.nsIn K mainGlobals "Ladder" = some (some (.ref C5))) (pgC5 : PySem.W.plainGet K C5 Str.empty = true)
    (hdC5 : PySem.W.hasDictIn K C5 = true) (poC5 : PySem.W.plainOver K C5 = true) (saC5 : PySem.W.findIn K (.ref C5) "__setattr__" = some (some (.builtin "object.__setattr__"))) (ccC5 : PySem.W.findIn K (.ref C5) "__class__" = some (some (.builtin "object.__class__")))
    (moC5 : PySem.W.mroIn K C5 (.type "object") = some true) (naC5_first : PySem.W.findIn K (.ref C5) "first" = some none) (naC5_pattern : PySem.W.findIn K (.ref C5) "pattern" = some none) (a0 : PySem.W.nsIn K mainGlobals "check_pattern" = some (some (.ref f0)))
    (a1 : PySem.W.nsIn K mainGlobals "is_integer" = some (some (.ref f1))) (a2 : PySem.W.nsIn K mainGlobals "is_fraction" = some (some (.ref f2))) (a3 : PySem.W.nsIn K mainGlobals "is_number" = some (some (.ref f3))) (a4 : PySem.W.nsIn K mainGlobals "is_resistance" = some (some (.ref f4)))
    (a5 : PySem.W.nsIn K mainGlobals "check_resistance" = some (some (.ref f5))) (a7 : PySem.W.nsIn K mainGlobals "common" = some (some (.ref f7))) (a8 : PySem.W.nsIn K mainGlobals "lowest" = some (some (.ref f8))) (a9 : PySem.W.nsIn K mainGlobals "pair_of" = some (some (.ref f9)))
    (a11 : PySem.W.nsIn K mainGlobals "is_between" = some (some (.ref f11))) (a12 : PySem.W.nsIn K mainGlobals "is_piece" = some (some (.ref f12))) (a13 : PySem.W.nsIn K mainGlobals "check_pieces" = some (some (.ref f13))) (a14 : PySem.W.nsIn K mainGlobals "joined" = some (some (.ref f14)))
    (a15 : PySem.W.nsIn K mainGlobals "chain_of" = some (some (.ref f15))) (a17 : PySem.W.nsIn K mainGlobals "check_count" = some (some (.ref f17))) (a18 : PySem.W.nsIn K mainGlobals "led" = some (some (.ref f18))) (a19 : PySem.W.nsIn K mainGlobals "shown" = some (some (.ref f19)))
    (a20 : PySem.W.nsIn K mainGlobals "slim" = some (some (.ref f20))) (a21 : PySem.W.nsIn K mainGlobals "repeated" = some (some (.ref f21))) (a43 : PySem.W.nsIn K mainGlobals "_law_classes" = some (some (.ref f43))) (a44 : PySem.W.nsIn K mainGlobals "_law_caught" = some (some (.ref f44)))
    (a24 : PySem.W.nsIn K mainGlobals "_law_sip" = some (some (.ref f24))) (a25 : PySem.W.nsIn K mainGlobals "_law_pick" = some (some (.ref f25))) (a26 : PySem.W.nsIn K mainGlobals "_law_nothing" = some (some (.ref f26))) (a27 : PySem.W.nsIn K mainGlobals "integer_in" = some (some (.ref f27)))
    (a28 : PySem.W.nsIn K mainGlobals "piece_in" = some (some (.ref f28))) (a30 : PySem.W.nsIn K mainGlobals "pattern_in" = some (some (.ref f30))) (a32 : PySem.W.nsIn K mainGlobals "_law_words" = some (some (.ref f32))) (a33 : PySem.W.nsIn K mainGlobals "_law_read" = some (some (.ref f33)))
    (a34 : PySem.W.nsIn K mainGlobals "_law_row" = some (some (.ref f34))) (a40 : PySem.W.nsIn K mainGlobals "_law_right" = some (some (.ref f40))) (a41 : PySem.W.nsIn K mainGlobals "_law_cup" = some (some (.ref f41))) (a42 : PySem.W.nsIn K mainGlobals "law" = some (some (.ref f42)))
    (a10_5 : PySem.W.findIn K (.ref C5) "__init__" = some (some (.ref f10))) (mkC5 : PySem.W.makesIn K C5 = true) (kpC5 : PySem.W.keepIn K (.ref C5) = true) (i10 : PySem.W.isFn K (.ref f10) = true)
    (a16_1 : PySem.W.findIn K (.ref C1) "__init__" = some (some (.ref f16))) (mkC1 : PySem.W.makesIn K C1 = true) (kpC1 : PySem.W.keepIn K (.ref C1) = true) (i16 : PySem.W.isFn K (.ref f16) = true)
    (a29_0 : PySem.W.findIn K (.ref C0) "__init__" = some (some (.ref f29))) (mkC0 : PySem.W.makesIn K C0 = true) (kpC0 : PySem.W.keepIn K (.ref C0) = true) (i29 : PySem.W.isFn K (.ref f29) = true)
    (a22_5 : PySem.W.findIn K (.ref C5) "value_at" = some (some (.ref f22))) (i22 : PySem.W.isFn K (.ref f22) = true) (k22 : PySem.W.keepIn K (.ref f22) = true) (a23_5 : PySem.W.findIn K (.ref C5) "__call__" = some (some (.ref f23)))
    (i23 : PySem.W.isFn K (.ref f23) = true) (x23 : PySem.W.fnIn K f23 = true) (a35_1 : PySem.W.findIn K (.ref C1) "pieces" = some (some (.ref q35_1))) (b35_1 : PySem.W.specialIn K (.ref q35_1) "__get__" = some (some (.builtin "property.__get__")))
    (d35_1 : PySem.W.takesIn K (.ref q35_1) = some true) (e35_1 : PySem.W.recIn K q35_1 "property" = some (.ref f35 :: rs35_1)) (a36_5 : PySem.W.findIn K (.ref C5) "load" = some (some (.ref q36_5))) (b36_5 : PySem.W.specialIn K (.ref q36_5) "__get__" = some (some (.builtin "property.__get__")))
    (d36_5 : PySem.W.takesIn K (.ref q36_5) = some true) (e36_5 : PySem.W.recIn K q36_5 "property" = some (.ref f36 :: rs36_5)) (a37_1 : PySem.W.findIn K (.ref C1) "__call__" = some (some (.ref f37))) (i37 : PySem.W.isFn K (.ref f37) = true)
    (x37 : PySem.W.fnIn K f37 = true) (a38_5 : PySem.W.findIn K (.ref C5) "next_of" = some (some (.ref f38))) (i38 : PySem.W.isFn K (.ref f38) = true) (k38 : PySem.W.keepIn K (.ref f38) = true)
    (a39_5 : PySem.W.findIn K (.ref C5) "opening" = some (some (.ref f39))) (i39 : PySem.W.isFn K (.ref f39) = true) (k39 : PySem.W.keepIn K (.ref f39) = true) (t31 : PySem.W.typeIn K (.ref C1) = some mc31)
    (b31 : PySem.W.readsIn K C1 mc31 = true) (d31 : PySem.W.specialIn K (.ref C1) "__getattribute__" = some (some (.builtin "type.__getattribute__"))) (a31 : PySem.W.findCls K (.ref C1) mc31 "read" = some (.get (.builtin "staticmethod.__get__") (.ref q31) .none (.ref C1))) (e31 : PySem.W.recIn K q31 "staticmethod" = some (.ref f31 :: rs31))
    (l0 : K.lookup f0 = some ⟨oc0, od0, .func (PySem.W.fnOf "check_pattern" "check_pattern" (defArgs st_check_pattern) (defBody st_check_pattern) (defScope st_check_pattern) .none kV0 dc0 pm0 an0 cd0 ct0), sl0⟩) (c0 : PySem.W.codeIn K cd0 "check_pattern" = true) (k0 : PySem.W.keepIn K (.ref f0) = true) (l1 : K.lookup f1 = some ⟨oc1, od1, .func (PySem.W.fnOf "is_integer" "is_integer" (defArgs st_is_integer) (defBody st_is_integer) (defScope st_is_integer) .none kV1 dc1 pm1 an1 cd1 ct1), sl1⟩)
    (c1 : PySem.W.codeIn K cd1 "is_integer" = true) (k1 : PySem.W.keepIn K (.ref f1) = true) (l2 : K.lookup f2 = some ⟨oc2, od2, .func (PySem.W.fnOf "is_fraction" "is_fraction" (defArgs st_is_fraction) (defBody st_is_fraction) (defScope st_is_fraction) .none kV2 dc2 pm2 an2 cd2 ct2), sl2⟩) (c2 : PySem.W.codeIn K cd2 "is_fraction" = true)
    (k2 : PySem.W.keepIn K (.ref f2) = true) (l3 : K.lookup f3 = some ⟨oc3, od3, .func (PySem.W.fnOf "is_number" "is_number" (defArgs st_is_number) (defBody st_is_number) (defScope st_is_number) .none kV3 dc3 pm3 an3 cd3 ct3), sl3⟩) (c3 : PySem.W.codeIn K cd3 "is_number" = true) (k3 : PySem.W.keepIn K (.ref f3) = true)
    (l4 : K.lookup f4 = some ⟨oc4, od4, .func (PySem.W.fnOf "is_resistance" "is_resistance" (defArgs st_is_resistance) (defBody st_is_resistance) (defScope st_is_resistance) .none kV4 dc4 pm4 an4 cd4 ct4), sl4⟩) (c4 : PySem.W.codeIn K cd4 "is_resistance" = true) (k4 : PySem.W.keepIn K (.ref f4) = true) (l5 : K.lookup f5 = some ⟨oc5, od5, .func (PySem.W.fnOf "check_resistance" "check_resistance" (defArgs st_check_resistance) (defBody st_check_resistance) (defScope st_check_resistance) .none kV5 dc5 pm5 an5 cd5 ct5), sl5⟩)
    (c5 : PySem.W.codeIn K cd5 "check_resistance" = true) (k5 : PySem.W.keepIn K (.ref f5) = true) (l6 : K.lookup f6 = some ⟨oc6, od6, .func (PySem.W.fnOf "__init__" "Run.__init__" (defArgs st_RunX_initX) (defBody st_RunX_initX) (defScope st_RunX_initX) .none kV6 dc6 pm6 an6 cd6 ct6), sl6⟩) (c6 : PySem.W.codeIn K cd6 "Run.__init__" = true)
    (k6 : PySem.W.keepIn K (.ref f6) = true) (l7 : K.lookup f7 = some ⟨oc7, od7, .func (PySem.W.fnOf "common" "common" (defArgs st_common) (defBody st_common) (defScope st_common) .none kV7 dc7 pm7 an7 cd7 ct7), sl7⟩) (c7 : PySem.W.codeIn K cd7 "common" = true) (k7 : PySem.W.keepIn K (.ref f7) = true)
    (l8 : K.lookup f8 = some ⟨oc8, od8, .func (PySem.W.fnOf "lowest" "lowest" (defArgs st_lowest) (defBody st_lowest) (defScope st_lowest) .none kV8 dc8 pm8 an8 cd8 ct8), sl8⟩) (c8 : PySem.W.codeIn K cd8 "lowest" = true) (k8 : PySem.W.keepIn K (.ref f8) = true) (l9 : K.lookup f9 = some ⟨oc9, od9, .func (PySem.W.fnOf "pair_of" "pair_of" (defArgs st_pair_of) (defBody st_pair_of) (defScope st_pair_of) .none kV9 dc9 pm9 an9 cd9 ct9), sl9⟩)
    (c9 : PySem.W.codeIn K cd9 "pair_of" = true) (k9 : PySem.W.keepIn K (.ref f9) = true) (l10 : K.lookup f10 = some ⟨oc10, od10, .func (PySem.W.fnX "__init__" "Ladder.__init__" (defArgs st_LadderX_initX) (defBody st_LadderX_initX) (defScope st_LadderX_initX) [("__class__", cc10)] .none kV10 dc10 pm10 an10 (.ref cda10) ct10), sl10⟩) (c10 : PySem.W.codeIn K (.ref cda10) "Ladder.__init__" = true)
    (k10 : PySem.W.keepIn K (.ref f10) = true) (la10 : K.lookup cc10 = some ⟨ec10, ed10, .cell (some (.ref C5)), es10⟩) (lb10 : K.lookup cda10 = some ⟨gc10, gd10, .fields gv10, gs10⟩) (lc10 : gv10[2]? = some (.str fi10 tf10))
    (ld10 : ((l.prog.main.file : Str) == fi10) = true) (le10 : PySem.W.clsIn K C5 = some cd10) (lf10 : PySem.W.mroIn K C5 (.ref C5) = some true) (lg10 : PySem.W.ks_superIn K C5 C5 "__init__" = some (some (.ref f6)))
    (lh10 : PySem.W.typeIn K (.ref f6) = some (.type "function")) (li10 : PySem.W.fnIn K f6 = true) (tpa : PySem.W.nsIn K cStatics "thirdparty.any" = some none) (tsn : (l.prog.main.scope.names.lookup ("super" : Str)).isSome = false)
    (l11 : K.lookup f11 = some ⟨oc11, od11, .func (PySem.W.fnOf "is_between" "is_between" (defArgs st_is_between) (defBody st_is_between) (defScope st_is_between) .none kV11 dc11 pm11 an11 cd11 ct11), sl11⟩) (c11 : PySem.W.codeIn K cd11 "is_between" = true) (k11 : PySem.W.keepIn K (.ref f11) = true) (l12 : K.lookup f12 = some ⟨oc12, od12, .func (PySem.W.fnOf "is_piece" "is_piece" (defArgs st_is_piece) (defBody st_is_piece) (defScope st_is_piece) .none kV12 dc12 pm12 an12 cd12 ct12), sl12⟩)
    (c12 : PySem.W.codeIn K cd12 "is_piece" = true) (k12 : PySem.W.keepIn K (.ref f12) = true) (l13 : K.lookup f13 = some ⟨oc13, od13, .func (PySem.W.fnOf "check_pieces" "check_pieces" (defArgs st_check_pieces) (defBody st_check_pieces) (defScope st_check_pieces) .none kV13 dc13 pm13 an13 cd13 ct13), sl13⟩) (c13 : PySem.W.codeIn K cd13 "check_pieces" = true)
    (k13 : PySem.W.keepIn K (.ref f13) = true) (l14 : K.lookup f14 = some ⟨oc14, od14, .func (PySem.W.fnOf "joined" "joined" (defArgs st_joined) (defBody st_joined) (defScope st_joined) .none kV14 dc14 pm14 an14 cd14 ct14), sl14⟩) (c14 : PySem.W.codeIn K cd14 "joined" = true) (k14 : PySem.W.keepIn K (.ref f14) = true)
    (l15 : K.lookup f15 = some ⟨oc15, od15, .func (PySem.W.fnOf "chain_of" "chain_of" (defArgs st_chain_of) (defBody st_chain_of) (defScope st_chain_of) .none kV15 dc15 pm15 an15 cd15 ct15), sl15⟩) (c15 : PySem.W.codeIn K cd15 "chain_of" = true) (k15 : PySem.W.keepIn K (.ref f15) = true) (l16 : K.lookup f16 = some ⟨oc16, od16, .func (PySem.W.fnOf "__init__" "Pattern.__init__" (defArgs st_PatternX_initX) (defBody st_PatternX_initX) (defScope st_PatternX_initX) .none kV16 dc16 pm16 an16 cd16 ct16), sl16⟩)
    (c16 : PySem.W.codeIn K cd16 "Pattern.__init__" = true) (k16 : PySem.W.keepIn K (.ref f16) = true) (l17 : K.lookup f17 = some ⟨oc17, od17, .func (PySem.W.fnOf "check_count" "check_count" (defArgs st_check_count) (defBody st_check_count) (defScope st_check_count) .none kV17 dc17 pm17 an17 cd17 ct17), sl17⟩) (c17 : PySem.W.codeIn K cd17 "check_count" = true)
    (k17 : PySem.W.keepIn K (.ref f17) = true) (l18 : K.lookup f18 = some ⟨oc18, od18, .func (PySem.W.fnOf "led" "led" (defArgs st_led) (defBody st_led) (defScope st_led) .none kV18 dc18 pm18 an18 cd18 ct18), sl18⟩) (c18 : PySem.W.codeIn K cd18 "led" = true) (k18 : PySem.W.keepIn K (.ref f18) = true)
    (l19 : K.lookup f19 = some ⟨oc19, od19, .func (PySem.W.fnOf "shown" "shown" (defArgs st_shown) (defBody st_shown) (defScope st_shown) .none kV19 dc19 pm19 an19 cd19 ct19), sl19⟩) (c19 : PySem.W.codeIn K cd19 "shown" = true) (k19 : PySem.W.keepIn K (.ref f19) = true) (l20 : K.lookup f20 = some ⟨oc20, od20, .func (PySem.W.fnOf "slim" "slim" (defArgs st_slim) (defBody st_slim) (defScope st_slim) .none kV20 dc20 pm20 an20 cd20 ct20), sl20⟩)
    (c20 : PySem.W.codeIn K cd20 "slim" = true) (k20 : PySem.W.keepIn K (.ref f20) = true) (l21 : K.lookup f21 = some ⟨oc21, od21, .func (PySem.W.fnOf "repeated" "repeated" (defArgs st_repeated) (defBody st_repeated) (defScope st_repeated) .none kV21 dc21 pm21 an21 cd21 ct21), sl21⟩) (c21 : PySem.W.codeIn K cd21 "repeated" = true)
    (k21 : PySem.W.keepIn K (.ref f21) = true) (l22 : K.lookup f22 = some ⟨oc22, od22, .func (PySem.W.fnOf "value_at" "Ladder.value_at" (defArgs st_Ladder_value_at) (defBody st_Ladder_value_at) (defScope st_Ladder_value_at) .none kV22 dc22 pm22 an22 cd22 ct22), sl22⟩) (c22 : PySem.W.codeIn K cd22 "Ladder.value_at" = true) (l23 : K.lookup f23 = some ⟨oc23, od23, .func (PySem.W.fnOf "__call__" "Run.__call__" (defArgs st_RunX_callX) (defBody st_RunX_callX) (defScope st_RunX_callX) .none kV23 dc23 pm23 an23 cd23 ct23), sl23⟩)
    (c23 : PySem.W.codeIn K cd23 "Run.__call__" = true) (k23 : PySem.W.keepIn K (.ref f23) = true) (l43 : K.lookup f43 = some ⟨oc43, od43, .func (PySem.W.fnOf "_law_classes" "_law_classes" (defArgs st__law_classes) (defBody st__law_classes) (defScope st__law_classes) .none kV43 dc43 pm43 an43 cd43 ct43), sl43⟩) (c43 : PySem.W.codeIn K cd43 "_law_classes" = true)
    (k43 : PySem.W.keepIn K (.ref f43) = true) (l44 : K.lookup f44 = some ⟨oc44, od44, .func (PySem.W.fnOf "_law_caught" "_law_caught" (defArgs st__law_caught) (defBody st__law_caught) (defScope st__law_caught) .none kV44 dc44 pm44 an44 cd44 ct44), sl44⟩) (c44 : PySem.W.codeIn K cd44 "_law_caught" = true) (k44 : PySem.W.keepIn K (.ref f44) = true)
    (l24 : K.lookup f24 = some ⟨oc24, od24, .func (PySem.W.fnOf "_law_sip" "_law_sip" (defArgs st__law_sip) (defBody st__law_sip) (defScope st__law_sip) .none kV24 dc24 pm24 an24 cd24 ct24), sl24⟩) (c24 : PySem.W.codeIn K cd24 "_law_sip" = true) (k24 : PySem.W.keepIn K (.ref f24) = true) (l25 : K.lookup f25 = some ⟨oc25, od25, .func (PySem.W.fnOf "_law_pick" "_law_pick" (defArgs st__law_pick) (defBody st__law_pick) (defScope st__law_pick) .none kV25 dc25 pm25 an25 cd25 ct25), sl25⟩)
    (c25 : PySem.W.codeIn K cd25 "_law_pick" = true) (k25 : PySem.W.keepIn K (.ref f25) = true) (l26 : K.lookup f26 = some ⟨oc26, od26, .func (PySem.W.fnOf "_law_nothing" "_law_nothing" (defArgs st__law_nothing) (defBody st__law_nothing) (defScope st__law_nothing) .none kV26 dc26 pm26 an26 cd26 ct26), sl26⟩) (c26 : PySem.W.codeIn K cd26 "_law_nothing" = true)
    (k26 : PySem.W.keepIn K (.ref f26) = true) (l27 : K.lookup f27 = some ⟨oc27, od27, .func (PySem.W.fnOf "integer_in" "integer_in" (defArgs st_integer_in) (defBody st_integer_in) (defScope st_integer_in) .none kV27 dc27 pm27 an27 cd27 ct27), sl27⟩) (c27 : PySem.W.codeIn K cd27 "integer_in" = true) (k27 : PySem.W.keepIn K (.ref f27) = true)
    (l28 : K.lookup f28 = some ⟨oc28, od28, .func (PySem.W.fnOf "piece_in" "piece_in" (defArgs st_piece_in) (defBody st_piece_in) (defScope st_piece_in) .none kV28 dc28 pm28 an28 cd28 ct28), sl28⟩) (c28 : PySem.W.codeIn K cd28 "piece_in" = true) (k28 : PySem.W.keepIn K (.ref f28) = true) (l29 : K.lookup f29 = some ⟨oc29, od29, .func (PySem.W.fnOf "__init__" "Row.__init__" (defArgs st_RowX_initX) (defBody st_RowX_initX) (defScope st_RowX_initX) .none kV29 dc29 pm29 an29 cd29 ct29), sl29⟩)
    (c29 : PySem.W.codeIn K cd29 "Row.__init__" = true) (k29 : PySem.W.keepIn K (.ref f29) = true) (l30 : K.lookup f30 = some ⟨oc30, od30, .func (PySem.W.fnOf "pattern_in" "pattern_in" (defArgs st_pattern_in) (defBody st_pattern_in) (defScope st_pattern_in) .none kV30 dc30 pm30 an30 cd30 ct30), sl30⟩) (c30 : PySem.W.codeIn K cd30 "pattern_in" = true)
    (k30 : PySem.W.keepIn K (.ref f30) = true) (l31 : K.lookup f31 = some ⟨oc31, od31, .func (PySem.W.fnOf "read" "Pattern.read" (defArgs st_Pattern_read) (defBody st_Pattern_read) (defScope st_Pattern_read) .none kV31 dc31 pm31 an31 cd31 ct31), sl31⟩) (c31 : PySem.W.codeIn K cd31 "Pattern.read" = true) (k31 : PySem.W.keepIn K (.ref f31) = true)
    (l32 : K.lookup f32 = some ⟨oc32, od32, .func (PySem.W.fnOf "_law_words" "_law_words" (defArgs st__law_words) (defBody st__law_words) (defScope st__law_words) .none kV32 dc32 pm32 an32 cd32 ct32), sl32⟩) (c32 : PySem.W.codeIn K cd32 "_law_words" = true) (k32 : PySem.W.keepIn K (.ref f32) = true) (l33 : K.lookup f33 = some ⟨oc33, od33, .func (PySem.W.fnOf "_law_read" "_law_read" (defArgs st__law_read) (defBody st__law_read) (defScope st__law_read) .none kV33 dc33 pm33 an33 cd33 ct33), sl33⟩)
    (c33 : PySem.W.codeIn K cd33 "_law_read" = true) (k33 : PySem.W.keepIn K (.ref f33) = true) (l34 : K.lookup f34 = some ⟨oc34, od34, .func (PySem.W.fnOf "_law_row" "_law_row" (defArgs st__law_row) (defBody st__law_row) (defScope st__law_row) .none kV34 dc34 pm34 an34 cd34 ct34), sl34⟩) (c34 : PySem.W.codeIn K cd34 "_law_row" = true)
    (k34 : PySem.W.keepIn K (.ref f34) = true) (l35 : K.lookup f35 = some ⟨oc35, od35, .func (PySem.W.fnOf "pieces" "Pattern.pieces" (defArgs st_Pattern_pieces) (defBody st_Pattern_pieces) (defScope st_Pattern_pieces) .none kV35 dc35 pm35 an35 cd35 ct35), sl35⟩) (c35 : PySem.W.codeIn K cd35 "Pattern.pieces" = true) (k35 : PySem.W.keepIn K (.ref f35) = true)
    (l36 : K.lookup f36 = some ⟨oc36, od36, .func (PySem.W.fnOf "load" "Run.load" (defArgs st_Run_load) (defBody st_Run_load) (defScope st_Run_load) .none kV36 dc36 pm36 an36 cd36 ct36), sl36⟩) (c36 : PySem.W.codeIn K cd36 "Run.load" = true) (k36 : PySem.W.keepIn K (.ref f36) = true) (l37 : K.lookup f37 = some ⟨oc37, od37, .func (PySem.W.fnOf "__call__" "Pattern.__call__" (defArgs st_PatternX_callX) (defBody st_PatternX_callX) (defScope st_PatternX_callX) .none kV37 dc37 pm37 an37 cd37 ct37), sl37⟩)
    (c37 : PySem.W.codeIn K cd37 "Pattern.__call__" = true) (k37 : PySem.W.keepIn K (.ref f37) = true) (l38 : K.lookup f38 = some ⟨oc38, od38, .func (PySem.W.fnOf "next_of" "Ladder.next_of" (defArgs st_Ladder_next_of) (defBody st_Ladder_next_of) (defScope st_Ladder_next_of) .none kV38 dc38 pm38 an38 cd38 ct38), sl38⟩) (c38 : PySem.W.codeIn K cd38 "Ladder.next_of" = true)
    (l39 : K.lookup f39 = some ⟨oc39, od39, .func (PySem.W.fnOf "opening" "Run.opening" (defArgs st_Run_opening) (defBody st_Run_opening) (defScope st_Run_opening) .none kV39 dc39 pm39 an39 cd39 ct39), sl39⟩) (c39 : PySem.W.codeIn K cd39 "Run.opening" = true) (l40 : K.lookup f40 = some ⟨oc40, od40, .func (PySem.W.fnOf "_law_right" "_law_right" (defArgs st__law_right) (defBody st__law_right) (defScope st__law_right) .none kV40 dc40 pm40 an40 (.ref cc40) ct40), sl40⟩) (c40 : PySem.W.codeIn K (.ref cc40) "_law_right" = true)
    (k40 : PySem.W.keepIn K (.ref f40) = true) (lb40 : K.lookup cc40 = some ⟨gc40, gd40, .fields gv40, gs40⟩) (lp40 : gv40[11]? = some (.ref P40)) (hc40 : PySem.W.codeHdIn K cc40 P40 = true)
    (ht40 : h.get? P40 = some { cls := .none, data := .fields #[] }) (hn40 : K.lookup P40 = none) (l41 : K.lookup f41 = some ⟨oc41, od41, .func (PySem.W.fnOf "_law_cup" "_law_cup" (defArgs st__law_cup) (defBody st__law_cup) (defScope st__law_cup) .none kV41 dc41 pm41 an41 cd41 ct41), sl41⟩) (c41 : PySem.W.codeIn K cd41 "_law_cup" = true)
    (k41 : PySem.W.keepIn K (.ref f41) = true) (l42 : K.lookup f42 = some ⟨oc42, od42, .func (PySem.W.fnOf "law" "law" (defArgs st_law) (defBody st_law) (defScope st_law) .none kV42 dc42 pm42 an42 (.ref cc42) ct42), sl42⟩) (c42 : PySem.W.codeIn K (.ref cc42) "law" = true) (k42 : PySem.W.keepIn K (.ref f42) = true)
    (lb42 : K.lookup cc42 = some ⟨gc42, gd42, .fields gv42, gs42⟩) (lp42 : gv42[11]? = some (.ref P42)) (hc42 : PySem.W.codeHdIn K cc42 P42 = true) (ht42 : h.get? P42 = some { cls := .none, data := .fields #[] })
    (hn42 : K.lookup P42 = none) (z_abs : PySem.W.nsIn K mainGlobals "abs" = some none) (z_all : PySem.W.nsIn K mainGlobals "all" = some none) (z_any : PySem.W.nsIn K mainGlobals "any" = some none)
    (z_bool : PySem.W.nsIn K mainGlobals "bool" = some none) (z_divmod : PySem.W.nsIn K mainGlobals "divmod" = some none) (z_enumerate : PySem.W.nsIn K mainGlobals "enumerate" = some none) (z_int : PySem.W.nsIn K mainGlobals "int" = some none)
    (z_isinstance : PySem.W.nsIn K mainGlobals "isinstance" = some none) (z_len : PySem.W.nsIn K mainGlobals "len" = some none) (z_list : PySem.W.nsIn K mainGlobals "list" = some none) (z_max : PySem.W.nsIn K mainGlobals "max" = some none)
    (z_min : PySem.W.nsIn K mainGlobals "min" = some none) (z_range : PySem.W.nsIn K mainGlobals "range" = some none) (z_repr : PySem.W.nsIn K mainGlobals "repr" = some none) (z_str : PySem.W.nsIn K mainGlobals "str" = some none)
    (z_super : PySem.W.nsIn K mainGlobals "super" = some none) (z_tuple : PySem.W.nsIn K mainGlobals "tuple" = some none) (nX0 : PySem.W.nsIn K mainGlobals "NotAPattern" = some (some (.ref X0))) (nX1 : PySem.W.nsIn K mainGlobals "NotARun" = some (some (.ref X1)))
    (nX2 : PySem.W.nsIn K mainGlobals "InvalidResistance" = some (some (.ref X2))) (nX3 : PySem.W.nsIn K mainGlobals "InvalidCount" = some (some (.ref X3))) (nX4 : PySem.W.nsIn K mainGlobals "InvalidNumber" = some (some (.ref X4))) (nX5 : PySem.W.nsIn K mainGlobals "InvalidText" = some (some (.ref X5)))
    (nX6 : PySem.W.nsIn K mainGlobals "InvalidName" = some (some (.ref X6))) (nX7 : PySem.W.nsIn K mainGlobals "InvalidClaim" = some (some (.ref X7))) (nX8 : PySem.W.nsIn K mainGlobals "InvalidIndex" = some (some (.ref X8))) (nX9 : PySem.W.nsIn K mainGlobals "InvalidPieces" = some (some (.ref X9)))
    (nX10 : PySem.W.nsIn K mainGlobals "InvalidKinds" = some (some (.ref X10))) (nX11 : PySem.W.nsIn K mainGlobals "InvalidStretches" = some (some (.ref X11))) (nX12 : PySem.W.nsIn K mainGlobals "InvalidDeeds" = some (some (.ref X12))) (nX13 : PySem.W.nsIn K mainGlobals "UnknownName" = some (some (.ref X13)))
    (nX14 : PySem.W.nsIn K mainGlobals "InUse" = some (some (.ref X14))) (nX15 : PySem.W.nsIn K mainGlobals "TooMany" = some (some (.ref X15))) (nX16 : PySem.W.nsIn K mainGlobals "Broken" = some (some (.ref X16))) (nX17 : PySem.W.nsIn K mainGlobals "NoLimit" = some (some (.ref X17)))
    (nX18 : PySem.W.nsIn K mainGlobals "NothingToUndo" = some (some (.ref X18))) (nX20 : PySem.W.nsIn K mainGlobals "WrongValue" = some (some (.ref X20))) (nX21 : PySem.W.nsIn K mainGlobals "WrongName" = some (some (.ref X21))) (nX22 : PySem.W.nsIn K mainGlobals "NoAnswer" = some (some (.ref X22)))
    (zx_ValueError : PySem.W.nsIn K mainGlobals "ValueError" = some none) (zx_LookupError : PySem.W.nsIn K mainGlobals "LookupError" = some none) (zx_ArithmeticError : PySem.W.nsIn K mainGlobals "ArithmeticError" = some none) (oe0 : K.lookup X0 = some (excClassObj xN0 xq0 X0 xA0 xb0 xm0 true xt0 xs0 xa0 xc0 xd0 xv0_0 xv1_0 xv2_0 xv3_0 xv5_0 "ValueError.__new__"))
    (rv0 : refsT (tlE "ValueError") xm0 = true) (se0 : PySem.W.findIn K (.ref X0) "__setattr__" = some (some (.builtin "object.__setattr__"))) (eb0 : PySem.W.subIn K (.ref X0) (.type "BaseException") = some true) (et0 : PySem.W.typeIn K (.ref X0) = some (.type "type"))
    (ek0 : PySem.W.keepIn K (.ref X0) = true) (ei0 : PySem.W.findIn K (.ref X0) "__init__" = some (some (.ref xi0))) (ej0 : PySem.W.typeIn K (.ref xi0) = some (.type "function")) (xn0_given : PySem.W.findIn K (.ref X0) "given" = some none)
    (xn0_most : PySem.W.findIn K (.ref X0) "most" = some none) (xn0_index : PySem.W.findIn K (.ref X0) "index" = some none) (el0 : K.lookup xi0 = some ⟨eoc0, eod0, .func (PySem.W.fnOf "__init__" "NotAPattern.__init__" (defArgs st_NotAPatternX_initX) (defBody st_NotAPatternX_initX) (defScope st_NotAPatternX_initX) .none ekV0 edc0 epm0 ean0 ecd0 ect0), esl0⟩) (ec0 : PySem.W.codeIn K ecd0 "NotAPattern.__init__" = true)
    (ef0 : PySem.W.keepIn K (.ref xi0) = true) (eg0 : PySem.W.findIn K (.ref X0) "__getattribute__" = some (some (.builtin "BaseException.__getattribute__"))) (eh0 : PySem.W.findIn K (.ref X0) "__getattr__" = some none) (ed0 : PySem.W.hasDictIn K X0 = true)
    (ea0 : PySem.W.findIn K (.ref X0) "__class__" = some (some (.builtin "object.__class__"))) (em0 : PySem.W.mroIn K X0 (.type "object") = some true) (ks0 : ((List.range 23).all fun k => PySem.W.kitOne K (.ref X0) (.ref ([X0, X1, X2, X3, X4, X5, X6, X7, X8, X9, X10, X11, X12, X13, X14, X15, X16, X17, X18, X18, X20, X21, X22].getD k 0)) == some (decide (100 + k ∈ ([100, 120] : List Nat)))) = true) (kb0_23 : PySem.W.kitOne K (.ref X0) (.type "ValueError") = some true)
    (kb0_24 : PySem.W.kitOne K (.ref X0) (.type "LookupError") = some false) (kb0_25 : PySem.W.kitOne K (.ref X0) (.type "ArithmeticError") = some false) (ns0 : PySem.W.subIn K (.ref X0) (.type "StopIteration") = some false) (xa0_ : PySem.W.exmAny K (.ref X0) [.ref X20, .ref X21, .ref X22] = some true)
    (oe2 : K.lookup X2 = some (excClassObj xN2 xq2 X2 xA2 xb2 xm2 true xt2 xs2 xa2 xc2 xd2 xv0_2 xv1_2 xv2_2 xv3_2 xv5_2 "ValueError.__new__")) (rv2 : refsT (tlE "ValueError") xm2 = true) (se2 : PySem.W.findIn K (.ref X2) "__setattr__" = some (some (.builtin "object.__setattr__"))) (eb2 : PySem.W.subIn K (.ref X2) (.type "BaseException") = some true)
    (et2 : PySem.W.typeIn K (.ref X2) = some (.type "type")) (ek2 : PySem.W.keepIn K (.ref X2) = true) (ei2 : PySem.W.findIn K (.ref X2) "__init__" = some (some (.ref xi2))) (ej2 : PySem.W.typeIn K (.ref xi2) = some (.type "function"))
    (xn2_given : PySem.W.findIn K (.ref X2) "given" = some none) (xn2_most : PySem.W.findIn K (.ref X2) "most" = some none) (xn2_index : PySem.W.findIn K (.ref X2) "index" = some none) (el2 : K.lookup xi2 = some ⟨eoc2, eod2, .func (PySem.W.fnOf "__init__" "InvalidResistance.__init__" (defArgs st_InvalidResistanceX_initX) (defBody st_InvalidResistanceX_initX) (defScope st_InvalidResistanceX_initX) .none ekV2 edc2 epm2 ean2 ecd2 ect2), esl2⟩)
    (ec2 : PySem.W.codeIn K ecd2 "InvalidResistance.__init__" = true) (ef2 : PySem.W.keepIn K (.ref xi2) = true) (eg2 : PySem.W.findIn K (.ref X2) "__getattribute__" = some (some (.builtin "BaseException.__getattribute__"))) (eh2 : PySem.W.findIn K (.ref X2) "__getattr__" = some none)
    (ed2 : PySem.W.hasDictIn K X2 = true) (ea2 : PySem.W.findIn K (.ref X2) "__class__" = some (some (.builtin "object.__class__"))) (em2 : PySem.W.mroIn K X2 (.type "object") = some true) (ks2 : ((List.range 23).all fun k => PySem.W.kitOne K (.ref X2) (.ref ([X0, X1, X2, X3, X4, X5, X6, X7, X8, X9, X10, X11, X12, X13, X14, X15, X16, X17, X18, X18, X20, X21, X22].getD k 0)) == some (decide (100 + k ∈ ([102, 120] : List Nat)))) = true)
    (kb2_23 : PySem.W.kitOne K (.ref X2) (.type "ValueError") = some true) (kb2_24 : PySem.W.kitOne K (.ref X2) (.type "LookupError") = some false) (kb2_25 : PySem.W.kitOne K (.ref X2) (.type "ArithmeticError") = some false) (ns2 : PySem.W.subIn K (.ref X2) (.type "StopIteration") = some false)
    (xa2_ : PySem.W.exmAny K (.ref X2) [.ref X20, .ref X21, .ref X22] = some true) (oe9 : K.lookup X9 = some (excClassObj xN9 xq9 X9 xA9 xb9 xm9 true xt9 xs9 xa9 xc9 xd9 xv0_9 xv1_9 xv2_9 xv3_9 xv5_9 "ValueError.__new__")) (rv9 : refsT (tlE "ValueError") xm9 = true) (se9 : PySem.W.findIn K (.ref X9) "__setattr__" = some (some (.builtin "object.__setattr__")))
    (eb9 : PySem.W.subIn K (.ref X9) (.type "BaseException") = some true) (et9 : PySem.W.typeIn K (.ref X9) = some (.type "type")) (ek9 : PySem.W.keepIn K (.ref X9) = true) (ei9 : PySem.W.findIn K (.ref X9) "__init__" = some (some (.ref xi9)))
    (ej9 : PySem.W.typeIn K (.ref xi9) = some (.type "function")) (xn9_given : PySem.W.findIn K (.ref X9) "given" = some none) (xn9_most : PySem.W.findIn K (.ref X9) "most" = some none) (xn9_index : PySem.W.findIn K (.ref X9) "index" = some none)
    (el9 : K.lookup xi9 = some ⟨eoc9, eod9, .func (PySem.W.fnOf "__init__" "InvalidPieces.__init__" (defArgs st_InvalidPiecesX_initX) (defBody st_InvalidPiecesX_initX) (defScope st_InvalidPiecesX_initX) .none ekV9 edc9 epm9 ean9 ecd9 ect9), esl9⟩) (ec9 : PySem.W.codeIn K ecd9 "InvalidPieces.__init__" = true) (ef9 : PySem.W.keepIn K (.ref xi9) = true) (eg9 : PySem.W.findIn K (.ref X9) "__getattribute__" = some (some (.builtin "BaseException.__getattribute__")))
    (eh9 : PySem.W.findIn K (.ref X9) "__getattr__" = some none) (ed9 : PySem.W.hasDictIn K X9 = true) (ea9 : PySem.W.findIn K (.ref X9) "__class__" = some (some (.builtin "object.__class__"))) (em9 : PySem.W.mroIn K X9 (.type "object") = some true)
    (ks9 : ((List.range 23).all fun k => PySem.W.kitOne K (.ref X9) (.ref ([X0, X1, X2, X3, X4, X5, X6, X7, X8, X9, X10, X11, X12, X13, X14, X15, X16, X17, X18, X18, X20, X21, X22].getD k 0)) == some (decide (100 + k ∈ ([109, 120] : List Nat)))) = true) (kb9_23 : PySem.W.kitOne K (.ref X9) (.type "ValueError") = some true) (kb9_24 : PySem.W.kitOne K (.ref X9) (.type "LookupError") = some false) (kb9_25 : PySem.W.kitOne K (.ref X9) (.type "ArithmeticError") = some false)
    (ns9 : PySem.W.subIn K (.ref X9) (.type "StopIteration") = some false) (xa9_ : PySem.W.exmAny K (.ref X9) [.ref X20, .ref X21, .ref X22] = some true) (oe3 : K.lookup X3 = some (excClassObj xN3 xq3 X3 xA3 xb3 xm3 true xt3 xs3 xa3 xc3 xd3 xv0_3 xv1_3 xv2_3 xv3_3 xv5_3 "ValueError.__new__")) (rv3 : refsT (tlE "ValueError") xm3 = true)
    (se3 : PySem.W.findIn K (.ref X3) "__setattr__" = some (some (.builtin "object.__setattr__"))) (eb3 : PySem.W.subIn K (.ref X3) (.type "BaseException") = some true) (et3 : PySem.W.typeIn K (.ref X3) = some (.type "type")) (ek3 : PySem.W.keepIn K (.ref X3) = true)
    (ei3 : PySem.W.findIn K (.ref X3) "__init__" = some (some (.ref xi3))) (ej3 : PySem.W.typeIn K (.ref xi3) = some (.type "function")) (xn3_given : PySem.W.findIn K (.ref X3) "given" = some none) (xn3_most : PySem.W.findIn K (.ref X3) "most" = some none)
    (xn3_index : PySem.W.findIn K (.ref X3) "index" = some none) (el3 : K.lookup xi3 = some ⟨eoc3, eod3, .func (PySem.W.fnOf "__init__" "InvalidCount.__init__" (defArgs st_InvalidCountX_initX) (defBody st_InvalidCountX_initX) (defScope st_InvalidCountX_initX) .none ekV3 edc3 epm3 ean3 ecd3 ect3), esl3⟩) (ec3 : PySem.W.codeIn K ecd3 "InvalidCount.__init__" = true) (ef3 : PySem.W.keepIn K (.ref xi3) = true)
    (eg3 : PySem.W.findIn K (.ref X3) "__getattribute__" = some (some (.builtin "BaseException.__getattribute__"))) (eh3 : PySem.W.findIn K (.ref X3) "__getattr__" = some none) (ed3 : PySem.W.hasDictIn K X3 = true) (ea3 : PySem.W.findIn K (.ref X3) "__class__" = some (some (.builtin "object.__class__")))
    (em3 : PySem.W.mroIn K X3 (.type "object") = some true) (ks3 : ((List.range 23).all fun k => PySem.W.kitOne K (.ref X3) (.ref ([X0, X1, X2, X3, X4, X5, X6, X7, X8, X9, X10, X11, X12, X13, X14, X15, X16, X17, X18, X18, X20, X21, X22].getD k 0)) == some (decide (100 + k ∈ ([103, 120] : List Nat)))) = true) (kb3_23 : PySem.W.kitOne K (.ref X3) (.type "ValueError") = some true) (kb3_24 : PySem.W.kitOne K (.ref X3) (.type "LookupError") = some false)
    (kb3_25 : PySem.W.kitOne K (.ref X3) (.type "ArithmeticError") = some false) (ns3 : PySem.W.subIn K (.ref X3) (.type "StopIteration") = some false) (xa3_ : PySem.W.exmAny K (.ref X3) [.ref X20, .ref X21, .ref X22] = some true) (oe5 : K.lookup X5 = some (excClassObj xN5 xq5 X5 xA5 xb5 xm5 true xt5 xs5 xa5 xc5 xd5 xv0_5 xv1_5 xv2_5 xv3_5 xv5_5 "ValueError.__new__"))
    (rv5 : refsT (tlE "ValueError") xm5 = true) (se5 : PySem.W.findIn K (.ref X5) "__setattr__" = some (some (.builtin "object.__setattr__"))) (eb5 : PySem.W.subIn K (.ref X5) (.type "BaseException") = some true) (et5 : PySem.W.typeIn K (.ref X5) = some (.type "type"))
    (ek5 : PySem.W.keepIn K (.ref X5) = true) (ei5 : PySem.W.findIn K (.ref X5) "__init__" = some (some (.ref xi5))) (ej5 : PySem.W.typeIn K (.ref xi5) = some (.type "function")) (xn5_given : PySem.W.findIn K (.ref X5) "given" = some none)
    (xn5_most : PySem.W.findIn K (.ref X5) "most" = some none) (xn5_index : PySem.W.findIn K (.ref X5) "index" = some none) (el5 : K.lookup xi5 = some ⟨eoc5, eod5, .func (PySem.W.fnOf "__init__" "InvalidText.__init__" (defArgs st_InvalidTextX_initX) (defBody st_InvalidTextX_initX) (defScope st_InvalidTextX_initX) .none ekV5 edc5 epm5 ean5 ecd5 ect5), esl5⟩) (ec5 : PySem.W.codeIn K ecd5 "InvalidText.__init__" = true)
    (ef5 : PySem.W.keepIn K (.ref xi5) = true) (eg5 : PySem.W.findIn K (.ref X5) "__getattribute__" = some (some (.builtin "BaseException.__getattribute__"))) (eh5 : PySem.W.findIn K (.ref X5) "__getattr__" = some none) (ed5 : PySem.W.hasDictIn K X5 = true)
    (ea5 : PySem.W.findIn K (.ref X5) "__class__" = some (some (.builtin "object.__class__"))) (em5 : PySem.W.mroIn K X5 (.type "object") = some true) (ks5 : ((List.range 23).all fun k => PySem.W.kitOne K (.ref X5) (.ref ([X0, X1, X2, X3, X4, X5, X6, X7, X8, X9, X10, X11, X12, X13, X14, X15, X16, X17, X18, X18, X20, X21, X22].getD k 0)) == some (decide (100 + k ∈ ([105, 120] : List Nat)))) = true) (kb5_23 : PySem.W.kitOne K (.ref X5) (.type "ValueError") = some true)
    (kb5_24 : PySem.W.kitOne K (.ref X5) (.type "LookupError") = some false) (kb5_25 : PySem.W.kitOne K (.ref X5) (.type "ArithmeticError") = some false) (ns5 : PySem.W.subIn K (.ref X5) (.type "StopIteration") = some false) (xa5_ : PySem.W.exmAny K (.ref X5) [.ref X20, .ref X21, .ref X22] = some true)
    (v_OPEN : PySem.W.nsIn K mainGlobals "OPEN" = some (some (.ref T_OPEN))) (w_OPEN : K.lookup T_OPEN = some ⟨.type "tuple", o_OPEN, .seq its_OPEN u_OPEN, sl_OPEN⟩) (r_OPEN : Vals [V.int 1, V.int 0] its_OPEN.toList) (v_GREATEST : PySem.W.nsIn K mainGlobals "GREATEST" = some (some (.int  1000000000000 t_GREATEST)))
    (v_MOST_PIECES : PySem.W.nsIn K mainGlobals "MOST_PIECES" = some (some (.int  4 t_MOST_PIECES))) (v_MOST_OHMS : PySem.W.nsIn K mainGlobals "MOST_OHMS" = some (some (.int  12 t_MOST_OHMS))) (v_WORDS : PySem.W.nsIn K mainGlobals "WORDS" = some (some (.ref T_WORDS))) (w_WORDS : K.lookup T_WORDS = some ⟨.type "tuple", o_WORDS, .seq its_WORDS u_WORDS, sl_WORDS⟩)
    (r_WORDS : Vals [V.str "rail", V.str "rung"] its_WORDS.toList) (v_NOTHING : PySem.W.nsIn K mainGlobals "NOTHING" = some (some (.ref T_NOTHING))) (w_NOTHING : K.lookup T_NOTHING = some ⟨.type "tuple", o_NOTHING, .seq its_NOTHING u_NOTHING, sl_NOTHING⟩) (r_NOTHING : Vals [V.int 1, V.int 0, V.int 0, V.int 1] its_NOTHING.toList)
    (v_MOST_SECTIONS : PySem.W.nsIn K mainGlobals "MOST_SECTIONS" = some (some (.int  100 t_MOST_SECTIONS))) (v_DIGITS : PySem.W.nsIn K mainGlobals "DIGITS" = some (some (.str  "0123456789" t_DIGITS))) (v_MOST_DIGITS : PySem.W.nsIn K mainGlobals "MOST_DIGITS" = some (some (.int  13 t_MOST_DIGITS))) (v_MOST_JOINED : PySem.W.nsIn K mainGlobals "MOST_JOINED" = some (some (.int  8 t_MOST_JOINED)))
    (ihn : PySem.W.specialIn K (.builtin "object.__class__") "__get__" = some (some (.builtin "getset_descriptor.__get__"))) (iht : PySem.W.takesIn K (.builtin "object.__class__") = some true) (ic0 : PySem.W.isClsIn K C0 = true) (ty0 : PySem.W.typeIn K (.ref C0) = some (.type "type"))
    (kk0_0 : PySem.W.subIn K (.ref C0) (.ref C0) = some true) (kk0_1 : PySem.W.subIn K (.ref C0) (.ref C1) = some false) (ct0_none_ : PySem.W.subIn K (.ref C0) (.type "NoneType") = some false) (tc0_none_ : PySem.W.subIn K (.type "NoneType") (.ref C0) = some false)
    (ct0_bool : PySem.W.subIn K (.ref C0) (.type "bool") = some false) (tc0_bool : PySem.W.subIn K (.type "bool") (.ref C0) = some false) (ct0_int : PySem.W.subIn K (.ref C0) (.type "int") = some false) (tc0_int : PySem.W.subIn K (.type "int") (.ref C0) = some false)
    (ct0_str : PySem.W.subIn K (.ref C0) (.type "str") = some false) (tc0_str : PySem.W.subIn K (.type "str") (.ref C0) = some false) (ct0_tuple : PySem.W.subIn K (.ref C0) (.type "tuple") = some false) (tc0_tuple : PySem.W.subIn K (.type "tuple") (.ref C0) = some false)
    (ct0_list : PySem.W.subIn K (.ref C0) (.type "list") = some false) (tc0_list : PySem.W.subIn K (.type "list") (.ref C0) = some false) (ct0_dict : PySem.W.subIn K (.ref C0) (.type "dict") = some false) (tc0_dict : PySem.W.subIn K (.type "dict") (.ref C0) = some false)
    (ic1 : PySem.W.isClsIn K C1 = true) (ty1 : PySem.W.typeIn K (.ref C1) = some (.type "type")) (kk1_1 : PySem.W.subIn K (.ref C1) (.ref C1) = some true) (kk1_0 : PySem.W.subIn K (.ref C1) (.ref C0) = some false)
    (ct1_none_ : PySem.W.subIn K (.ref C1) (.type "NoneType") = some false) (tc1_none_ : PySem.W.subIn K (.type "NoneType") (.ref C1) = some false) (ct1_bool : PySem.W.subIn K (.ref C1) (.type "bool") = some false) (tc1_bool : PySem.W.subIn K (.type "bool") (.ref C1) = some false)
    (ct1_int : PySem.W.subIn K (.ref C1) (.type "int") = some false) (tc1_int : PySem.W.subIn K (.type "int") (.ref C1) = some false) (ct1_str : PySem.W.subIn K (.ref C1) (.type "str") = some false) (tc1_str : PySem.W.subIn K (.type "str") (.ref C1) = some false)
    (ct1_tuple : PySem.W.subIn K (.ref C1) (.type "tuple") = some false) (tc1_tuple : PySem.W.subIn K (.type "tuple") (.ref C1) = some false) (ct1_list : PySem.W.subIn K (.ref C1) (.type "list") = some false) (tc1_list : PySem.W.subIn K (.type "list") (.ref C1) = some false)
    (ct1_dict : PySem.W.subIn K (.ref C1) (.type "dict") = some false) (tc1_dict : PySem.W.subIn K (.type "dict") (.ref C1) = some false) (ic5 : PySem.W.isClsIn K C5 = true) (ty5 : PySem.W.typeIn K (.ref C5) = some (.type "type"))
    (kk5_5 : PySem.W.subIn K (.ref C5) (.ref C5) = some true) (kk5_1 : PySem.W.subIn K (.ref C5) (.ref C1) = some false) (kk5_0 : PySem.W.subIn K (.ref C5) (.ref C0) = some false) (ct5_none_ : PySem.W.subIn K (.ref C5) (.type "NoneType") = some false)
    (tc5_none_ : PySem.W.subIn K (.type "NoneType") (.ref C5) = some false) (ct5_bool : PySem.W.subIn K (.ref C5) (.type "bool") = some false) (tc5_bool : PySem.W.subIn K (.type "bool") (.ref C5) = some false) (ct5_int : PySem.W.subIn K (.ref C5) (.type "int") = some false)
    (tc5_int : PySem.W.subIn K (.type "int") (.ref C5) = some false) (ct5_str : PySem.W.subIn K (.ref C5) (.type "str") = some false) (tc5_str : PySem.W.subIn K (.type "str") (.ref C5) = some false) (ct5_tuple : PySem.W.subIn K (.ref C5) (.type "tuple") = some false)
    (tc5_tuple : PySem.W.subIn K (.type "tuple") (.ref C5) = some false) (ct5_list : PySem.W.subIn K (.ref C5) (.type "list") = some false) (tc5_list : PySem.W.subIn K (.type "list") (.ref C5) = some false) (ct5_dict : PySem.W.subIn K (.ref C5) (.type "dict") = some false)
    (tc5_dict : PySem.W.subIn K (.type "dict") (.ref C5) = some false)
    (nd : [P42, P40].Nodup)
    : ∃ (K : PySem.W.Frag) (G : Sg) (cs : List (Addr × Addr)), K.In h ∧ G.K = K ∧ cs.length = 2 ∧ (∀ p ∈ cs, h.get? p.2 = some { cls := .none, data := .fields #[] }) ∧ (∀ p ∈ cs, K.lookup p.2 = none) ∧ (∀ p ∈ cs, PySem.W.CodeHd h p.1 p.2) ∧ (cs.map (·.2)).Nodup ∧ (∀ n (p : Addr × Addr), cs[n]? = some p → G.ta n = p.2) ∧ ∀ base : Heap, K.In base → base.Ns mainGlobals mg → (∀ p ∈ cs, LamX.TabB base mg p.1 p.2) → FnA l.prog w K mg base G 20 fa sem_law := by
  have e := hfa.symm.trans (PySem.W.mg_of X G a42)
  cases e
  let AD : Nat → Addr := adOf [(1000, C0), (1001, C1), (1005, C5), (0, f0), (1, f1), (2, f2), (3, f3), (4, f4), (5, f5), (6, f6), (7, f7), (8, f8), (9, f9), (10, f10), (11, f11), (12, f12), (13, f13), (14, f14), (15, f15), (16, f16), (17, f17), (18, f18), (19, f19), (20, f20), (21, f21), (22, f22), (23, f23), (43, f43), (44, f44), (24, f24), (25, f25), (26, f26), (27, f27), (28, f28), (29, f29), (30, f30), (31, f31), (32, f32), (33, f33), (34, f34), (35, f35), (36, f36), (37, f37), (38, f38), (39, f39), (40, f40), (41, f41), (42, fa), (2010, cc10), (3010, cda10), (8001, cc40), (8101, P40), (8000, cc42), (8100, P42), (1100, X0), (1101, X1), (1102, X2), (1103, X3), (1104, X4), (1105, X5), (1106, X6), (1107, X7), (1108, X8), (1109, X9), (1110, X10), (1111, X11), (1112, X12), (1113, X13), (1114, X14), (1115, X15), (1116, X16), (1117, X17), (1118, X18), (1120, X20), (1121, X21), (1122, X22), (1119, X18)]
  have keyX : ∀ k, k < 23 → AD (1000 + (100 + k)) = [X0, X1, X2, X3, X4, X5, X6, X7, X8, X9, X10, X11, X12, X13, X14, X15, X16, X17, X18, X18, X20, X21, X22].getD k 0 := by
    intro k hk
    iterate 23 (rcases k with _ | k; · rfl)
    omega
  have keyT : ∀ n (p : Addr × Addr), ([(cc42, P42), (cc40, P40)] : List (Addr × Addr))[n]? = some p → (GG true K AD).ta n = p.2 := by
    intro n p hp
    iterate 2 (rcases n with _ | n; · cases hp; rfl)
    cases hp
  refine ⟨K, GG true K AD, [(cc42, P42), (cc40, P40)], X, rfl, rfl, (fun p hp => by
      simp only [List.mem_cons, List.mem_nil_iff, or_false] at hp
      rcases hp with rfl | rfl
      · exact ht42
      · exact ht40), (fun p hp => by
      simp only [List.mem_cons, List.mem_nil_iff, or_false] at hp
      rcases hp with rfl | rfl
      · exact hn42
      · exact hn40), (fun p hp => by
      simp only [List.mem_cons, List.mem_nil_iff, or_false] at hp
      rcases hp with rfl | rfl
      · exact PySem.W.codeHd_of_K X hc42
      · exact PySem.W.codeHd_of_K X hc40), nd, keyT, fun base _ _ hTB => ?_⟩
  have T : Facts l.prog w K mg base AD :=
    { k_Row := PySem.W.mg_of X G nC0
      cl_Row := ⟨pgC0, hdC0, poC0, saC0⟩
      na_Row_told := naC0_told
      k_Pattern := PySem.W.mg_of X G nC1
      cl_Pattern := ⟨pgC1, hdC1, poC1, saC1⟩
      na_Pattern_row := naC1_row
      na_Pattern_chain := naC1_chain
      na_Pattern_scale := naC1_scale
      k_Ladder := PySem.W.mg_of X G nC5
      cl_Ladder := ⟨pgC5, hdC5, poC5, saC5⟩
      na_Ladder_first := naC5_first
      na_Ladder_pattern := naC5_pattern
      g_check_pattern := PySem.W.mg_of X G a0
      g_is_integer := PySem.W.mg_of X G a1
      g_is_fraction := PySem.W.mg_of X G a2
      g_is_number := PySem.W.mg_of X G a3
      g_is_resistance := PySem.W.mg_of X G a4
      g_check_resistance := PySem.W.mg_of X G a5
      g_common := PySem.W.mg_of X G a7
      g_lowest := PySem.W.mg_of X G a8
      g_pair_of := PySem.W.mg_of X G a9
      g_is_between := PySem.W.mg_of X G a11
      g_is_piece := PySem.W.mg_of X G a12
      g_check_pieces := PySem.W.mg_of X G a13
      g_joined := PySem.W.mg_of X G a14
      g_chain_of := PySem.W.mg_of X G a15
      g_check_count := PySem.W.mg_of X G a17
      g_led := PySem.W.mg_of X G a18
      g_shown := PySem.W.mg_of X G a19
      g_slim := PySem.W.mg_of X G a20
      g_repeated := PySem.W.mg_of X G a21
      g__law_classes := PySem.W.mg_of X G a43
      g__law_caught := PySem.W.mg_of X G a44
      g__law_sip := PySem.W.mg_of X G a24
      g__law_pick := PySem.W.mg_of X G a25
      g__law_nothing := PySem.W.mg_of X G a26
      g_integer_in := PySem.W.mg_of X G a27
      g_piece_in := PySem.W.mg_of X G a28
      g_pattern_in := PySem.W.mg_of X G a30
      g__law_words := PySem.W.mg_of X G a32
      g__law_read := PySem.W.mg_of X G a33
      g__law_row := PySem.W.mg_of X G a34
      g__law_right := PySem.W.mg_of X G a40
      g__law_cup := PySem.W.mg_of X G a41
      g_law := PySem.W.mg_of X G a42
      m_Ladder := ⟨mkC5, a10_5, i10, kpC5⟩
      m_Pattern := ⟨mkC1, a16_1, i16, kpC1⟩
      m_Row := ⟨mkC0, a29_0, i29, kpC0⟩
      t_Ladder_Ladder_value_at := ⟨a22_5, i22, k22⟩
      o_Ladder_RunX_callX := ⟨a23_5, i23, x23⟩
      p_Pattern_Pattern_pieces := ⟨_, ⟨a35_1, b35_1, d35_1, ⟨_, e35_1⟩⟩⟩
      p_Ladder_Run_load := ⟨_, ⟨a36_5, b36_5, d36_5, ⟨_, e36_5⟩⟩⟩
      o_Pattern_PatternX_callX := ⟨a37_1, i37, x37⟩
      t_Ladder_Ladder_next_of := ⟨a38_5, i38, k38⟩
      t_Ladder_Run_opening := ⟨a39_5, i39, k39⟩
      s_Pattern_read := ⟨_, _, _, ⟨b31, d31⟩, a31, e31⟩
      f_check_pattern := ⟨_, fun_mk (st := st_check_pattern) l0 c0 k0⟩
      f_is_integer := ⟨_, fun_mk (st := st_is_integer) l1 c1 k1⟩
      f_is_fraction := ⟨_, fun_mk (st := st_is_fraction) l2 c2 k2⟩
      f_is_number := ⟨_, fun_mk (st := st_is_number) l3 c3 k3⟩
      f_is_resistance := ⟨_, fun_mk (st := st_is_resistance) l4 c4 k4⟩
      f_check_resistance := ⟨_, fun_mk (st := st_check_resistance) l5 c5 k5⟩
      f_RunX_initX := ⟨_, fun_mk (st := st_RunX_initX) l6 c6 k6⟩
      f_common := ⟨_, fun_mk (st := st_common) l7 c7 k7⟩
      f_lowest := ⟨_, fun_mk (st := st_lowest) l8 c8 k8⟩
      f_pair_of := ⟨_, fun_mk (st := st_pair_of) l9 c9 k9⟩
      u_LadderX_initX := ⟨⟨_, _, _, _, _, _, _, _, l10⟩, c10, k10, ⟨_, _, _, la10⟩, ⟨_, _, _, _, _, _, lb10, lc10, ld10⟩, ⟨_, le10⟩, lf10, lg10, lh10, li10, tpa, tsn⟩
      f_is_between := ⟨_, fun_mk (st := st_is_between) l11 c11 k11⟩
      f_is_piece := ⟨_, fun_mk (st := st_is_piece) l12 c12 k12⟩
      f_check_pieces := ⟨_, fun_mk (st := st_check_pieces) l13 c13 k13⟩
      f_joined := ⟨_, fun_mk (st := st_joined) l14 c14 k14⟩
      f_chain_of := ⟨_, fun_mk (st := st_chain_of) l15 c15 k15⟩
      f_PatternX_initX := ⟨_, fun_mk (st := st_PatternX_initX) l16 c16 k16⟩
      f_check_count := ⟨_, fun_mk (st := st_check_count) l17 c17 k17⟩
      f_led := ⟨_, fun_mk (st := st_led) l18 c18 k18⟩
      f_shown := ⟨_, fun_mk (st := st_shown) l19 c19 k19⟩
      f_slim := ⟨_, fun_mk (st := st_slim) l20 c20 k20⟩
      f_repeated := ⟨_, fun_mk (st := st_repeated) l21 c21 k21⟩
      f_Ladder_value_at := ⟨_, fun_mk (st := st_Ladder_value_at) l22 c22 k22⟩
      f_RunX_callX := ⟨_, fun_mk (st := st_RunX_callX) l23 c23 k23⟩
      f__law_classes := ⟨_, fun_mk (st := st__law_classes) l43 c43 k43⟩
      f__law_caught := ⟨_, fun_mk (st := st__law_caught) l44 c44 k44⟩
      f__law_sip := ⟨_, fun_mk (st := st__law_sip) l24 c24 k24⟩
      f__law_pick := ⟨_, fun_mk (st := st__law_pick) l25 c25 k25⟩
      f__law_nothing := ⟨_, fun_mk (st := st__law_nothing) l26 c26 k26⟩
      f_integer_in := ⟨_, fun_mk (st := st_integer_in) l27 c27 k27⟩
      f_piece_in := ⟨_, fun_mk (st := st_piece_in) l28 c28 k28⟩
      f_RowX_initX := ⟨_, fun_mk (st := st_RowX_initX) l29 c29 k29⟩
      f_pattern_in := ⟨_, fun_mk (st := st_pattern_in) l30 c30 k30⟩
      f_Pattern_read := ⟨_, fun_mk (st := st_Pattern_read) l31 c31 k31⟩
      f__law_words := ⟨_, fun_mk (st := st__law_words) l32 c32 k32⟩
      f__law_read := ⟨_, fun_mk (st := st__law_read) l33 c33 k33⟩
      f__law_row := ⟨_, fun_mk (st := st__law_row) l34 c34 k34⟩
      f_Pattern_pieces := ⟨_, fun_mk (st := st_Pattern_pieces) l35 c35 k35⟩
      f_Run_load := ⟨_, fun_mk (st := st_Run_load) l36 c36 k36⟩
      f_PatternX_callX := ⟨_, fun_mk (st := st_PatternX_callX) l37 c37 k37⟩
      f_Ladder_next_of := ⟨_, fun_mk (st := st_Ladder_next_of) l38 c38 k38⟩
      f_Run_opening := ⟨_, fun_mk (st := st_Run_opening) l39 c39 k39⟩
      f__law_right := ⟨_, ⟨fun_mk (st := st__law_right) l40 c40 k40, ⟨_, _, _, _, _, _, _, _, rfl, l40, c40⟩⟩⟩
      tb_1 := hTB (cc40, P40) (by simp)
      f__law_cup := ⟨_, fun_mk (st := st__law_cup) l41 c41 k41⟩
      f_law := ⟨_, ⟨fun_mk (st := st_law) l42 c42 k42, ⟨_, _, _, _, _, _, _, _, rfl, l42, c42⟩⟩⟩
      tb_0 := hTB (cc42, P42) (by simp)
      z_abs := PySem.W.mg_none_of X G z_abs
      z_all := PySem.W.mg_none_of X G z_all
      z_any := PySem.W.mg_none_of X G z_any
      z_bool := PySem.W.mg_none_of X G z_bool
      z_divmod := PySem.W.mg_none_of X G z_divmod
      z_enumerate := PySem.W.mg_none_of X G z_enumerate
      z_int := PySem.W.mg_none_of X G z_int
      z_isinstance := PySem.W.mg_none_of X G z_isinstance
      z_len := PySem.W.mg_none_of X G z_len
      z_list := PySem.W.mg_none_of X G z_list
      z_max := PySem.W.mg_none_of X G z_max
      z_min := PySem.W.mg_none_of X G z_min
      z_range := PySem.W.mg_none_of X G z_range
      z_repr := PySem.W.mg_none_of X G z_repr
      z_str := PySem.W.mg_none_of X G z_str
      z_super := PySem.W.mg_none_of X G z_super
      z_tuple := PySem.W.mg_none_of X G z_tuple
      kx_NotAPattern := PySem.W.mg_of X G nX0
      kx_NotARun := PySem.W.mg_of X G nX1
      kx_InvalidResistance := PySem.W.mg_of X G nX2
      kx_InvalidCount := PySem.W.mg_of X G nX3
      kx_InvalidNumber := PySem.W.mg_of X G nX4
      kx_InvalidText := PySem.W.mg_of X G nX5
      kx_InvalidName := PySem.W.mg_of X G nX6
      kx_InvalidClaim := PySem.W.mg_of X G nX7
      kx_InvalidIndex := PySem.W.mg_of X G nX8
      kx_InvalidPieces := PySem.W.mg_of X G nX9
      kx_InvalidKinds := PySem.W.mg_of X G nX10
      kx_InvalidStretches := PySem.W.mg_of X G nX11
      kx_InvalidDeeds := PySem.W.mg_of X G nX12
      kx_UnknownName := PySem.W.mg_of X G nX13
      kx_InUse := PySem.W.mg_of X G nX14
      kx_TooMany := PySem.W.mg_of X G nX15
      kx_Broken := PySem.W.mg_of X G nX16
      kx_NoLimit := PySem.W.mg_of X G nX17
      kx_NothingToUndo := PySem.W.mg_of X G nX18
      kx_WrongValue := PySem.W.mg_of X G nX20
      kx_WrongName := PySem.W.mg_of X G nX21
      kx_NoAnswer := PySem.W.mg_of X G nX22
      zx_ValueError := PySem.W.mg_none_of X G zx_ValueError
      zx_LookupError := PySem.W.mg_none_of X G zx_LookupError
      zx_ArithmeticError := PySem.W.mg_none_of X G zx_ArithmeticError
      xn_NotAPattern_given := xn0_given
      xn_NotAPattern_most := xn0_most
      xn_NotAPattern_index := xn0_index
      er_NotAPattern := fun b => errT_of (slf := "self") (par := "given") (f := "given") rfl (PySem.W.mg_of X G nX0) rfl ⟨⟨_, _, _, _, _, _, _, _, _, _, _, _, _, _, _, _, _, _, _, PySem.F.excBase_ValueError, rfl, by decide +kernel, pas_V, oe0, rv0⟩, se0, eb0, et0, ek0⟩ ei0 ej0 xn0_given (fun_mk (st := st_NotAPatternX_initX) el0 ec0 ef0) ((fun_mk (st := st_NotAPatternX_initX) el0 ec0 ef0).binds fun _ _ _ _ _ _ us hl => match us, hl with | [_, _], _ => rfl) sc_NotAPatternX_initX ⟨_, _, _, _, rfl⟩ rfl rfl rfl rfl
      xf_NotAPattern := ⟨eg0, eh0, eb0, ed0⟩
      xh_NotAPattern := fun b => ⟨⟨eg0, eh0, eb0, ed0, ea0, ihn, iht, em0⟩, fun c b h => by
        obtain ⟨k, hk, rfl, rfl⟩ := isS_of h
        show PySem.W.kitOne K (.ref X0) (.ref (AD (1000 + (100 + k)))) = _
        rw [keyX k hk]
        exact eq_of_beq (List.all_eq_true.mp ks0 k (List.mem_range.mpr hk)), fun n b h => by
        unfold isB at h
        split at h
        · next q => cases h; rw [q]; exact kb0_23
        · split at h
          · next q => cases h; rw [q]; exact kb0_24
          · split at h
            · next q => cases h; rw [q]; exact kb0_25
            · cases h⟩
      ns_NotAPattern := ns0
      xm_NotAPattern := xa0_
      xn_InvalidResistance_given := xn2_given
      xn_InvalidResistance_most := xn2_most
      xn_InvalidResistance_index := xn2_index
      er_InvalidResistance := fun b => errT_of (slf := "self") (par := "given") (f := "given") rfl (PySem.W.mg_of X G nX2) rfl ⟨⟨_, _, _, _, _, _, _, _, _, _, _, _, _, _, _, _, _, _, _, PySem.F.excBase_ValueError, rfl, by decide +kernel, pas_V, oe2, rv2⟩, se2, eb2, et2, ek2⟩ ei2 ej2 xn2_given (fun_mk (st := st_InvalidResistanceX_initX) el2 ec2 ef2) ((fun_mk (st := st_InvalidResistanceX_initX) el2 ec2 ef2).binds fun _ _ _ _ _ _ us hl => match us, hl with | [_, _], _ => rfl) sc_InvalidResistanceX_initX ⟨_, _, _, _, rfl⟩ rfl rfl rfl rfl
      xf_InvalidResistance := ⟨eg2, eh2, eb2, ed2⟩
      xh_InvalidResistance := fun b => ⟨⟨eg2, eh2, eb2, ed2, ea2, ihn, iht, em2⟩, fun c b h => by
        obtain ⟨k, hk, rfl, rfl⟩ := isS_of h
        show PySem.W.kitOne K (.ref X2) (.ref (AD (1000 + (100 + k)))) = _
        rw [keyX k hk]
        exact eq_of_beq (List.all_eq_true.mp ks2 k (List.mem_range.mpr hk)), fun n b h => by
        unfold isB at h
        split at h
        · next q => cases h; rw [q]; exact kb2_23
        · split at h
          · next q => cases h; rw [q]; exact kb2_24
          · split at h
            · next q => cases h; rw [q]; exact kb2_25
            · cases h⟩
      ns_InvalidResistance := ns2
      xm_InvalidResistance := xa2_
      xn_InvalidPieces_given := xn9_given
      xn_InvalidPieces_most := xn9_most
      xn_InvalidPieces_index := xn9_index
      er_InvalidPieces := fun b => errT_of (slf := "self") (par := "index") (f := "index") rfl (PySem.W.mg_of X G nX9) rfl ⟨⟨_, _, _, _, _, _, _, _, _, _, _, _, _, _, _, _, _, _, _, PySem.F.excBase_ValueError, rfl, by decide +kernel, pas_V, oe9, rv9⟩, se9, eb9, et9, ek9⟩ ei9 ej9 xn9_index (fun_mk (st := st_InvalidPiecesX_initX) el9 ec9 ef9) ((fun_mk (st := st_InvalidPiecesX_initX) el9 ec9 ef9).binds fun _ _ _ _ _ _ us hl => match us, hl with | [_, _], _ => rfl) sc_InvalidPiecesX_initX ⟨_, _, _, _, rfl⟩ rfl rfl rfl rfl
      xf_InvalidPieces := ⟨eg9, eh9, eb9, ed9⟩
      xh_InvalidPieces := fun b => ⟨⟨eg9, eh9, eb9, ed9, ea9, ihn, iht, em9⟩, fun c b h => by
        obtain ⟨k, hk, rfl, rfl⟩ := isS_of h
        show PySem.W.kitOne K (.ref X9) (.ref (AD (1000 + (100 + k)))) = _
        rw [keyX k hk]
        exact eq_of_beq (List.all_eq_true.mp ks9 k (List.mem_range.mpr hk)), fun n b h => by
        unfold isB at h
        split at h
        · next q => cases h; rw [q]; exact kb9_23
        · split at h
          · next q => cases h; rw [q]; exact kb9_24
          · split at h
            · next q => cases h; rw [q]; exact kb9_25
            · cases h⟩
      ns_InvalidPieces := ns9
      xm_InvalidPieces := xa9_
      xn_InvalidCount_given := xn3_given
      xn_InvalidCount_most := xn3_most
      xn_InvalidCount_index := xn3_index
      er_InvalidCount := fun b => errT_of (slf := "self") (par := "given") (f := "given") rfl (PySem.W.mg_of X G nX3) rfl ⟨⟨_, _, _, _, _, _, _, _, _, _, _, _, _, _, _, _, _, _, _, PySem.F.excBase_ValueError, rfl, by decide +kernel, pas_V, oe3, rv3⟩, se3, eb3, et3, ek3⟩ ei3 ej3 xn3_given (fun_mk (st := st_InvalidCountX_initX) el3 ec3 ef3) ((fun_mk (st := st_InvalidCountX_initX) el3 ec3 ef3).binds fun _ _ _ _ _ _ us hl => match us, hl with | [_, _], _ => rfl) sc_InvalidCountX_initX ⟨_, _, _, _, rfl⟩ rfl rfl rfl rfl
      xf_InvalidCount := ⟨eg3, eh3, eb3, ed3⟩
      xh_InvalidCount := fun b => ⟨⟨eg3, eh3, eb3, ed3, ea3, ihn, iht, em3⟩, fun c b h => by
        obtain ⟨k, hk, rfl, rfl⟩ := isS_of h
        show PySem.W.kitOne K (.ref X3) (.ref (AD (1000 + (100 + k)))) = _
        rw [keyX k hk]
        exact eq_of_beq (List.all_eq_true.mp ks3 k (List.mem_range.mpr hk)), fun n b h => by
        unfold isB at h
        split at h
        · next q => cases h; rw [q]; exact kb3_23
        · split at h
          · next q => cases h; rw [q]; exact kb3_24
          · split at h
            · next q => cases h; rw [q]; exact kb3_25
            · cases h⟩
      ns_InvalidCount := ns3
      xm_InvalidCount := xa3_
      xn_InvalidText_given := xn5_given
      xn_InvalidText_most := xn5_most
      xn_InvalidText_index := xn5_index
      er_InvalidText := fun b => errT_of (slf := "self") (par := "given") (f := "given") rfl (PySem.W.mg_of X G nX5) rfl ⟨⟨_, _, _, _, _, _, _, _, _, _, _, _, _, _, _, _, _, _, _, PySem.F.excBase_ValueError, rfl, by decide +kernel, pas_V, oe5, rv5⟩, se5, eb5, et5, ek5⟩ ei5 ej5 xn5_given (fun_mk (st := st_InvalidTextX_initX) el5 ec5 ef5) ((fun_mk (st := st_InvalidTextX_initX) el5 ec5 ef5).binds fun _ _ _ _ _ _ us hl => match us, hl with | [_, _], _ => rfl) sc_InvalidTextX_initX ⟨_, _, _, _, rfl⟩ rfl rfl rfl rfl
      xf_InvalidText := ⟨eg5, eh5, eb5, ed5⟩
      xh_InvalidText := fun b => ⟨⟨eg5, eh5, eb5, ed5, ea5, ihn, iht, em5⟩, fun c b h => by
        obtain ⟨k, hk, rfl, rfl⟩ := isS_of h
        show PySem.W.kitOne K (.ref X5) (.ref (AD (1000 + (100 + k)))) = _
        rw [keyX k hk]
        exact eq_of_beq (List.all_eq_true.mp ks5 k (List.mem_range.mpr hk)), fun n b h => by
        unfold isB at h
        split at h
        · next q => cases h; rw [q]; exact kb5_23
        · split at h
          · next q => cases h; rw [q]; exact kb5_24
          · split at h
            · next q => cases h; rw [q]; exact kb5_25
            · cases h⟩
      ns_InvalidText := ns5
      xm_InvalidText := xa5_
      c_OPEN := fun _ => glob_tup (PySem.W.mg_of X G v_OPEN) ⟨_, _, _, w_OPEN, rfl, rfl, (by have := r_OPEN.length; rw [← Array.length_toList, ← this]; decide), r_OPEN⟩ (fun _ => ⟨_, _, rfl, rfl, ⟨_, _, rfl, rfl, rfl⟩⟩)
      c_GREATEST := fun _ => glob_int (PySem.W.mg_of X G v_GREATEST)
      c_MOST_PIECES := fun _ => glob_int (PySem.W.mg_of X G v_MOST_PIECES)
      c_MOST_OHMS := fun _ => glob_int (PySem.W.mg_of X G v_MOST_OHMS)
      c_WORDS := fun _ => glob_tup (PySem.W.mg_of X G v_WORDS) ⟨_, _, _, w_WORDS, rfl, rfl, (by have := r_WORDS.length; rw [← Array.length_toList, ← this]; decide), r_WORDS⟩ (fun _ => ⟨_, _, rfl, rfl, ⟨_, _, rfl, rfl, rfl⟩⟩)
      c_NOTHING := fun _ => glob_tup (PySem.W.mg_of X G v_NOTHING) ⟨_, _, _, w_NOTHING, rfl, rfl, (by have := r_NOTHING.length; rw [← Array.length_toList, ← this]; decide), r_NOTHING⟩ (fun _ => ⟨_, _, rfl, rfl, ⟨_, _, rfl, rfl, ⟨_, _, rfl, rfl, ⟨_, _, rfl, rfl, rfl⟩⟩⟩⟩)
      c_MOST_SECTIONS := fun _ => glob_int (PySem.W.mg_of X G v_MOST_SECTIONS)
      c_DIGITS := fun _ => glob_str (PySem.W.mg_of X G v_DIGITS)
      c_MOST_DIGITS := fun _ => glob_int (PySem.W.mg_of X G v_MOST_DIGITS)
      c_MOST_JOINED := fun _ => glob_int (PySem.W.mg_of X G v_MOST_JOINED)
      isa := fun _ Y hY => by
        subst hY
        refine ⟨fun c hc => ?_, ihn, iht, fun c c' b hb => ?_, fun c t hc => ?_, fun t c hc => ?_⟩
        · have hc := of_decide_eq_true hc
          simp only [List.mem_cons, List.mem_nil_iff, or_false] at hc
          rcases hc with rfl | rfl | rfl
          · exact ⟨⟨pgC0, hdC0, poC0, saC0⟩, ccC0, moC0⟩
          · exact ⟨⟨pgC1, hdC1, poC1, saC1⟩, ccC1, moC1⟩
          · exact ⟨⟨pgC5, hdC5, poC5, saC5⟩, ccC5, moC5⟩
        · split at hb
          · next hh =>
            obtain ⟨h1, h2⟩ := hh
            simp only [List.mem_cons, List.mem_nil_iff, or_false] at h1 h2
            rcases h1 with rfl | rfl | rfl <;> rcases h2 with rfl | rfl <;> cases hb
            · exact Ev.kit_cc ic1 ty1 kk0_1 kk1_1
            · exact Ev.kit_cc ic0 ty0 kk0_0 kk0_0
            · exact Ev.kit_cc ic1 ty1 kk1_1 kk1_1
            · exact Ev.kit_cc ic0 ty0 kk1_0 kk0_0
            · exact Ev.kit_cc ic1 ty1 kk5_1 kk1_1
            · exact Ev.kit_cc ic0 ty0 kk5_0 kk0_0
          · cases hb
        · have hc := of_decide_eq_true hc
          simp only [List.mem_cons, List.mem_nil_iff, or_false] at hc
          rcases hc with rfl | rfl | rfl <;> cases t
          · exact Ev.kit_ct (by decide +kernel) ct0_none_
          · exact Ev.kit_ct (by decide +kernel) ct0_bool
          · exact Ev.kit_ct (by decide +kernel) ct0_int
          · exact Ev.kit_ct (by decide +kernel) ct0_str
          · exact Ev.kit_ct (by decide +kernel) ct0_tuple
          · exact Ev.kit_ct (by decide +kernel) ct0_list
          · exact Ev.kit_ct (by decide +kernel) ct0_dict
          · exact Ev.kit_ct (by decide +kernel) ct1_none_
          · exact Ev.kit_ct (by decide +kernel) ct1_bool
          · exact Ev.kit_ct (by decide +kernel) ct1_int
          · exact Ev.kit_ct (by decide +kernel) ct1_str
          · exact Ev.kit_ct (by decide +kernel) ct1_tuple
          · exact Ev.kit_ct (by decide +kernel) ct1_list
          · exact Ev.kit_ct (by decide +kernel) ct1_dict
          · exact Ev.kit_ct (by decide +kernel) ct5_none_
          · exact Ev.kit_ct (by decide +kernel) ct5_bool
          · exact Ev.kit_ct (by decide +kernel) ct5_int
          · exact Ev.kit_ct (by decide +kernel) ct5_str
          · exact Ev.kit_ct (by decide +kernel) ct5_tuple
          · exact Ev.kit_ct (by decide +kernel) ct5_list
          · exact Ev.kit_ct (by decide +kernel) ct5_dict
        · have hc := of_decide_eq_true hc
          simp only [List.mem_cons, List.mem_nil_iff, or_false] at hc
          rcases hc with rfl | rfl | rfl <;> cases t
          · exact Ev.kit_cc ic0 ty0 tc0_none_ kk0_0
          · exact Ev.kit_cc ic0 ty0 tc0_bool kk0_0
          · exact Ev.kit_cc ic0 ty0 tc0_int kk0_0
          · exact Ev.kit_cc ic0 ty0 tc0_str kk0_0
          · exact Ev.kit_cc ic0 ty0 tc0_tuple kk0_0
          · exact Ev.kit_cc ic0 ty0 tc0_list kk0_0
          · exact Ev.kit_cc ic0 ty0 tc0_dict kk0_0
          · exact Ev.kit_cc ic1 ty1 tc1_none_ kk1_1
          · exact Ev.kit_cc ic1 ty1 tc1_bool kk1_1
          · exact Ev.kit_cc ic1 ty1 tc1_int kk1_1
          · exact Ev.kit_cc ic1 ty1 tc1_str kk1_1
          · exact Ev.kit_cc ic1 ty1 tc1_tuple kk1_1
          · exact Ev.kit_cc ic1 ty1 tc1_list kk1_1
          · exact Ev.kit_cc ic1 ty1 tc1_dict kk1_1
          · exact Ev.kit_cc ic5 ty5 tc5_none_ kk5_5
          · exact Ev.kit_cc ic5 ty5 tc5_bool kk5_5
          · exact Ev.kit_cc ic5 ty5 tc5_int kk5_5
          · exact Ev.kit_cc ic5 ty5 tc5_str kk5_5
          · exact Ev.kit_cc ic5 ty5 tc5_tuple kk5_5
          · exact Ev.kit_cc ic5 ty5 tc5_list kk5_5
          · exact Ev.kit_cc ic5 ty5 tc5_dict kk5_5 }
  exact ok_law T
end K14
open PySem PySem.W PyProof.Rows
set_option maxHeartbeats 0 in
theorem PySem.Challenge.cw_rungladders_k14_ladders_refused_holds : PySem.Challenge.rw_rungladders_k14_ladders_refused.Holds := by
  refine hd14 ?_
  k_fill
  refine Ev.end_walkT (l := PySem.Challenge.rw_rungladders_k14_ladders_refused) (n := 63) (k := 20) (m := 2) rfl (by decide) rfl ⟨rfl, by decide, by decide⟩ ?F K14.law_true
  case F =>
    intro w mg fa h Y G hmg
    have KX := PySem.W.km_in_of Y
    refine' K14.all_mk (l := PySem.Challenge.rw_rungladders_k14_ladders_refused) (w := w) KX G hmg ?nC0 ?pgC0 ?hdC0 ?poC0 ?saC0 ?ccC0 ?moC0 ?naC0_told ?nC1 ?pgC1 ?hdC1 ?poC1 ?saC1 ?ccC1 ?moC1 ?naC1_row ?naC1_chain ?naC1_scale ?nC5 ?pgC5 ?hdC5 ?poC5 ?saC5 ?ccC5 ?moC5 ?naC5_first ?naC5_pattern ?a0 ?a1 ?a2 ?a3 ?a4 ?a5 ?a7 ?a8 ?a9 ?a11 ?a12 ?a13 ?a14 ?a15 ?a17 ?a18 ?a19 ?a20 ?a21 ?a43 ?a44 ?a24 ?a25 ?a26 ?a27 ?a28 ?a30 ?a32 ?a33 ?a34 ?a40 ?a41 ?a42 ?a10_5 ?mkC5 ?kpC5 ?i10 ?a16_1 ?mkC1 ?kpC1 ?i16 ?a29_0 ?mkC0 ?kpC0 ?i29 ?a22_5 ?i22 ?k22 ?a23_5 ?i23 ?x23 ?a35_1 ?b35_1 ?d35_1 ?e35_1 ?a36_5 ?b36_5 ?d36_5 ?e36_5 ?a37_1 ?i37 ?x37 ?a38_5 ?i38 ?k38 ?a39_5 ?i39 ?k39 ?t31 ?b31 ?d31 ?a31 ?e31 ?l0 ?c0 ?k0 ?l1 ?c1 ?k1 ?l2 ?c2 ?k2 ?l3 ?c3 ?k3 ?l4 ?c4 ?k4 ?l5 ?c5 ?k5 ?l6 ?c6 ?k6 ?l7 ?c7 ?k7 ?l8 ?c8 ?k8 ?l9 ?c9 ?k9 ?l10 ?c10 ?k10 ?la10 ?lb10 ?lc10 ?ld10 ?le10 ?lf10 ?lg10 ?lh10 ?li10 ?tpa ?tsn ?l11 ?c11 ?k11 ?l12 ?c12 ?k12 ?l13 ?c13 ?k13 ?l14 ?c14 ?k14 ?l15 ?c15 ?k15 ?l16 ?c16 ?k16 ?l17 ?c17 ?k17 ?l18 ?c18 ?k18 ?l19 ?c19 ?k19 ?l20 ?c20 ?k20 ?l21 ?c21 ?k21 ?l22 ?c22 ?l23 ?c23 ?k23 ?l43 ?c43 ?k43 ?l44 ?c44 ?k44 ?l24 ?c24 ?k24 ?l25 ?c25 ?k25 ?l26 ?c26 ?k26 ?l27 ?c27 ?k27 ?l28 ?c28 ?k28 ?l29 ?c29 ?k29 ?l30 ?c30 ?k30 ?l31 ?c31 ?k31 ?l32 ?c32 ?k32 ?l33 ?c33 ?k33 ?l34 ?c34 ?k34 ?l35 ?c35 ?k35 ?l36 ?c36 ?k36 ?l37 ?c37 ?k37 ?l38 ?c38 ?l39 ?c39 ?l40 ?c40 ?k40 ?lb40 ?lp40 ?hc40 ?ht40 ?hn40 ?l41 ?c41 ?k41 ?l42 ?c42 ?k42 ?lb42 ?lp42 ?hc42 ?ht42 ?hn42 ?z_abs ?z_all ?z_any ?z_bool ?z_divmod ?z_enumerate ?z_int ?z_isinstance ?z_len ?z_list ?z_max ?z_min ?z_range ?z_repr ?z_str ?z_super ?z_tuple ?nX0 ?nX1 ?nX2 ?nX3 ?nX4 ?nX5 ?nX6 ?nX7 ?nX8 ?nX9 ?nX10 ?nX11 ?nX12 ?nX13 ?nX14 ?nX15 ?nX16 ?nX17 ?nX18 ?nX20 ?nX21 ?nX22 ?zx_ValueError ?zx_LookupError ?zx_ArithmeticError ?oe0 ?rv0 ?se0 ?eb0 ?et0 ?ek0 ?ei0 ?ej0 ?xn0_given ?xn0_most ?xn0_index ?el0 ?ec0 ?ef0 ?eg0 ?eh0 ?ed0 ?ea0 ?em0 ?ks0 ?kb0_23 ?kb0_24 ?kb0_25 ?ns0 ?xa0_ ?oe2 ?rv2 ?se2 ?eb2 ?et2 ?ek2 ?ei2 ?ej2 ?xn2_given ?xn2_most ?xn2_index ?el2 ?ec2 ?ef2 ?eg2 ?eh2 ?ed2 ?ea2 ?em2 ?ks2 ?kb2_23 ?kb2_24 ?kb2_25 ?ns2 ?xa2_ ?oe9 ?rv9 ?se9 ?eb9 ?et9 ?ek9 ?ei9 ?ej9 ?xn9_given ?xn9_most ?xn9_index ?el9 ?ec9 ?ef9 ?eg9 ?eh9 ?ed9 ?ea9 ?em9 ?ks9 ?kb9_23 ?kb9_24 ?kb9_25 ?ns9 ?xa9_ ?oe3 ?rv3 ?se3 ?eb3 ?et3 ?ek3 ?ei3 ?ej3 ?xn3_given ?xn3_most ?xn3_index ?el3 ?ec3 ?ef3 ?eg3 ?eh3 ?ed3 ?ea3 ?em3 ?ks3 ?kb3_23 ?kb3_24 ?kb3_25 ?ns3 ?xa3_ ?oe5 ?rv5 ?se5 ?eb5 ?et5 ?ek5 ?ei5 ?ej5 ?xn5_given ?xn5_most ?xn5_index ?el5 ?ec5 ?ef5 ?eg5 ?eh5 ?ed5 ?ea5 ?em5 ?ks5 ?kb5_23 ?kb5_24 ?kb5_25 ?ns5 ?xa5_ ?v_OPEN ?w_OPEN ?r_OPEN ?v_GREATEST ?v_MOST_PIECES ?v_MOST_OHMS ?v_WORDS ?w_WORDS ?r_WORDS ?v_NOTHING ?w_NOTHING ?r_NOTHING ?v_MOST_SECTIONS ?v_DIGITS ?v_MOST_DIGITS ?v_MOST_JOINED ?ihn ?iht ?ic0 ?ty0 ?kk0_0 ?kk0_1 ?ct0_none_ ?tc0_none_ ?ct0_bool ?tc0_bool ?ct0_int ?tc0_int ?ct0_str ?tc0_str ?ct0_tuple ?tc0_tuple ?ct0_list ?tc0_list ?ct0_dict ?tc0_dict ?ic1 ?ty1 ?kk1_1 ?kk1_0 ?ct1_none_ ?tc1_none_ ?ct1_bool ?tc1_bool ?ct1_int ?tc1_int ?ct1_str ?tc1_str ?ct1_tuple ?tc1_tuple ?ct1_list ?tc1_list ?ct1_dict ?tc1_dict ?ic5 ?ty5 ?kk5_5 ?kk5_1 ?kk5_0 ?ct5_none_ ?tc5_none_ ?ct5_bool ?tc5_bool ?ct5_int ?tc5_int ?ct5_str ?tc5_str ?ct5_tuple ?tc5_tuple ?ct5_list ?tc5_list ?ct5_dict ?tc5_dict ?nd
    (case nC0 => k_is); (case nC1 => k_is); (case nC5 => k_is); (case nX0 => k_is); (case nX1 => k_is); (case nX2 => k_is)
    (case nX3 => k_is); (case nX4 => k_is); (case nX5 => k_is); (case nX6 => k_is); (case nX7 => k_is); (case nX8 => k_is)
    (case nX9 => k_is); (case nX10 => k_is); (case nX11 => k_is); (case nX12 => k_is); (case nX13 => k_is); (case nX14 => k_is)
    (case nX15 => k_is); (case nX16 => k_is); (case nX17 => k_is); (case nX18 => k_is); (case nX20 => k_is); (case nX21 => k_is)
    (case nX22 => k_is); (case lg10 => ks_is); (case pgC0 => k_is); (case hdC0 => k_is); (case poC0 => k_is); (case saC0 => k_is)
    (case ccC0 => k_is); (case moC0 => k_is); (case naC0_told => k_is); (case pgC1 => k_is); (case hdC1 => k_is); (case poC1 => k_is)
    (case saC1 => k_is); (case ccC1 => k_is); (case moC1 => k_is); (case naC1_row => k_is); (case naC1_chain => k_is); (case naC1_scale => k_is)
    (case pgC5 => k_is); (case hdC5 => k_is); (case poC5 => k_is); (case saC5 => k_is); (case ccC5 => k_is); (case moC5 => k_is)
    (case naC5_first => k_is); (case naC5_pattern => k_is); (case a0 => k_is); (case a1 => k_is); (case a2 => k_is); (case a3 => k_is)
    (case a4 => k_is); (case a5 => k_is); (case a7 => k_is); (case a8 => k_is); (case a9 => k_is); (case a11 => k_is)
    (case a12 => k_is); (case a13 => k_is); (case a14 => k_is); (case a15 => k_is); (case a17 => k_is); (case a18 => k_is)
    (case a19 => k_is); (case a20 => k_is); (case a21 => k_is); (case a43 => k_is); (case a44 => k_is); (case a24 => k_is)
    (case a25 => k_is); (case a26 => k_is); (case a27 => k_is); (case a28 => k_is); (case a30 => k_is); (case a32 => k_is)
    (case a33 => k_is); (case a34 => k_is); (case a40 => k_is); (case a41 => k_is); (case a42 => k_is); (case a10_5 => k_is)
    (case mkC5 => k_is); (case kpC5 => k_is); (case i10 => k_is); (case a16_1 => k_is); (case mkC1 => k_is); (case kpC1 => k_is)
    (case i16 => k_is); (case a29_0 => k_is); (case mkC0 => k_is); (case kpC0 => k_is); (case i29 => k_is); (case a22_5 => k_is)
    (case i22 => k_is); (case k22 => k_is); (case a23_5 => k_is); (case i23 => k_is); (case x23 => k_is); (case a35_1 => k_is)
    (case b35_1 => k_is); (case d35_1 => k_is); (case e35_1 => k_is); (case a36_5 => k_is); (case b36_5 => k_is); (case d36_5 => k_is)
    (case e36_5 => k_is); (case a37_1 => k_is); (case i37 => k_is); (case x37 => k_is); (case a38_5 => k_is); (case i38 => k_is)
    (case k38 => k_is); (case a39_5 => k_is); (case i39 => k_is); (case k39 => k_is); (case t31 => k_is); (case b31 => k_is)
    (case d31 => k_is); (case a31 => k_is); (case e31 => k_is); (case l0 => k_is); (case c0 => k_is); (case k0 => k_is)
    (case l1 => k_is); (case c1 => k_is); (case k1 => k_is); (case l2 => k_is); (case c2 => k_is); (case k2 => k_is)
    (case l3 => k_is); (case c3 => k_is); (case k3 => k_is); (case l4 => k_is); (case c4 => k_is); (case k4 => k_is)
    (case l5 => k_is); (case c5 => k_is); (case k5 => k_is); (case l6 => k_is); (case c6 => k_is); (case k6 => k_is)
    (case l7 => k_is); (case c7 => k_is); (case k7 => k_is); (case l8 => k_is); (case c8 => k_is); (case k8 => k_is)
    (case l9 => k_is); (case c9 => k_is); (case k9 => k_is); (case l10 => k_is); (case c10 => k_is); (case k10 => k_is)
    (case la10 => k_is); (case lb10 => k_is); (case lc10 => first | rfl | k_is | decide +kernel); (case ld10 => first | rfl | decide +kernel | k_is); (case le10 => k_is); (case lf10 => k_is)
    (case lh10 => k_is); (case li10 => k_is); (case tpa => k_is); (case tsn => first | rfl | decide +kernel); (case l11 => k_is); (case c11 => k_is)
    (case k11 => k_is); (case l12 => k_is); (case c12 => k_is); (case k12 => k_is); (case l13 => k_is); (case c13 => k_is)
    (case k13 => k_is); (case l14 => k_is); (case c14 => k_is); (case k14 => k_is); (case l15 => k_is); (case c15 => k_is)
    (case k15 => k_is); (case l16 => k_is); (case c16 => k_is); (case k16 => k_is); (case l17 => k_is); (case c17 => k_is)
    (case k17 => k_is); (case l18 => k_is); (case c18 => k_is); (case k18 => k_is); (case l19 => k_is); (case c19 => k_is)
    (case k19 => k_is); (case l20 => k_is); (case c20 => k_is); (case k20 => k_is); (case l21 => k_is); (case c21 => k_is)
    (case k21 => k_is); (case l22 => k_is); (case c22 => k_is); (case l23 => k_is); (case c23 => k_is); (case k23 => k_is)
    (case l43 => k_is); (case c43 => k_is); (case k43 => k_is); (case l44 => k_is); (case c44 => k_is); (case k44 => k_is)
    (case l24 => k_is); (case c24 => k_is); (case k24 => k_is); (case l25 => k_is); (case c25 => k_is); (case k25 => k_is)
    (case l26 => k_is); (case c26 => k_is); (case k26 => k_is); (case l27 => k_is); (case c27 => k_is); (case k27 => k_is)
    (case l28 => k_is); (case c28 => k_is); (case k28 => k_is); (case l29 => k_is); (case c29 => k_is); (case k29 => k_is)
    (case l30 => k_is); (case c30 => k_is); (case k30 => k_is); (case l31 => k_is); (case c31 => k_is); (case k31 => k_is)
    (case l32 => k_is); (case c32 => k_is); (case k32 => k_is); (case l33 => k_is); (case c33 => k_is); (case k33 => k_is)
    (case l34 => k_is); (case c34 => k_is); (case k34 => k_is); (case l35 => k_is); (case c35 => k_is); (case k35 => k_is)
    (case l36 => k_is); (case c36 => k_is); (case k36 => k_is); (case l37 => k_is); (case c37 => k_is); (case k37 => k_is)
    (case l38 => k_is); (case c38 => k_is); (case l39 => k_is); (case c39 => k_is); (case l40 => k_is); (case c40 => k_is)
    (case k40 => k_is); (case lb40 => k_is); (case lp40 => first | rfl | k_is | decide +kernel); (case hc40 => kernel_rfl); (case ht40 => exact PySem.W.km_tabs_of Y _ (by first | decide | simp)); (case hn40 => kernel_rfl)
    (case l41 => k_is); (case c41 => k_is); (case k41 => k_is); (case l42 => k_is); (case c42 => k_is); (case k42 => k_is)
    (case lb42 => k_is); (case lp42 => first | rfl | k_is | decide +kernel); (case hc42 => kernel_rfl); (case ht42 => exact PySem.W.km_tabs_of Y _ (by first | decide | simp)); (case hn42 => kernel_rfl); (case z_abs => k_is)
    (case z_all => k_is); (case z_any => k_is); (case z_bool => k_is); (case z_divmod => k_is); (case z_enumerate => k_is); (case z_int => k_is)
    (case z_isinstance => k_is); (case z_len => k_is); (case z_list => k_is); (case z_max => k_is); (case z_min => k_is); (case z_range => k_is)
    (case z_repr => k_is); (case z_str => k_is); (case z_super => k_is); (case z_tuple => k_is); (case zx_ValueError => k_is); (case zx_LookupError => k_is)
    (case zx_ArithmeticError => k_is); (case oe0 => k_is); (case rv0 => first | rfl | decide +kernel); (case se0 => k_is); (case eb0 => k_is); (case et0 => k_is)
    (case ek0 => k_is); (case ei0 => k_is); (case ej0 => k_is); (case xn0_given => k_is); (case xn0_most => k_is); (case xn0_index => k_is)
    (case el0 => k_is); (case ec0 => k_is); (case ef0 => k_is); (case eg0 => k_is); (case eh0 => k_is); (case ed0 => k_is)
    (case ea0 => k_is); (case em0 => k_is); (case ks0 => kernel_rfl); (case kb0_23 => kernel_rfl); (case kb0_24 => kernel_rfl); (case kb0_25 => kernel_rfl)
    (case ns0 => k_is); (case xa0_ => kernel_rfl); (case oe2 => k_is); (case rv2 => first | rfl | decide +kernel); (case se2 => k_is); (case eb2 => k_is)
    (case et2 => k_is); (case ek2 => k_is); (case ei2 => k_is); (case ej2 => k_is); (case xn2_given => k_is); (case xn2_most => k_is)
    (case xn2_index => k_is); (case el2 => k_is); (case ec2 => k_is); (case ef2 => k_is); (case eg2 => k_is); (case eh2 => k_is)
    (case ed2 => k_is); (case ea2 => k_is); (case em2 => k_is); (case ks2 => kernel_rfl); (case kb2_23 => kernel_rfl); (case kb2_24 => kernel_rfl)
    (case kb2_25 => kernel_rfl); (case ns2 => k_is); (case xa2_ => kernel_rfl); (case oe9 => k_is); (case rv9 => first | rfl | decide +kernel); (case se9 => k_is)
    (case eb9 => k_is); (case et9 => k_is); (case ek9 => k_is); (case ei9 => k_is); (case ej9 => k_is); (case xn9_given => k_is)
    (case xn9_most => k_is); (case xn9_index => k_is); (case el9 => k_is); (case ec9 => k_is); (case ef9 => k_is); (case eg9 => k_is)
    (case eh9 => k_is); (case ed9 => k_is); (case ea9 => k_is); (case em9 => k_is); (case ks9 => kernel_rfl); (case kb9_23 => kernel_rfl)
    (case kb9_24 => kernel_rfl); (case kb9_25 => kernel_rfl); (case ns9 => k_is); (case xa9_ => kernel_rfl); (case oe3 => k_is); (case rv3 => first | rfl | decide +kernel)
    (case se3 => k_is); (case eb3 => k_is); (case et3 => k_is); (case ek3 => k_is); (case ei3 => k_is); (case ej3 => k_is)
    (case xn3_given => k_is); (case xn3_most => k_is); (case xn3_index => k_is); (case el3 => k_is); (case ec3 => k_is); (case ef3 => k_is)
    (case eg3 => k_is); (case eh3 => k_is); (case ed3 => k_is); (case ea3 => k_is); (case em3 => k_is); (case ks3 => kernel_rfl)
    (case kb3_23 => kernel_rfl); (case kb3_24 => kernel_rfl); (case kb3_25 => kernel_rfl); (case ns3 => k_is); (case xa3_ => kernel_rfl); (case oe5 => k_is)
    (case rv5 => first | rfl | decide +kernel); (case se5 => k_is); (case eb5 => k_is); (case et5 => k_is); (case ek5 => k_is); (case ei5 => k_is)
    (case ej5 => k_is); (case xn5_given => k_is); (case xn5_most => k_is); (case xn5_index => k_is); (case el5 => k_is); (case ec5 => k_is)
    (case ef5 => k_is); (case eg5 => k_is); (case eh5 => k_is); (case ed5 => k_is); (case ea5 => k_is); (case em5 => k_is)
    (case ks5 => kernel_rfl); (case kb5_23 => kernel_rfl); (case kb5_24 => kernel_rfl); (case kb5_25 => kernel_rfl); (case ns5 => k_is); (case xa5_ => kernel_rfl)
    (case v_OPEN => k_is); (case w_OPEN => k_is); (case r_OPEN => repeat first | exact .nil | refine .cons ⟨_, rfl⟩ ?_); (case v_GREATEST => k_is); (case v_MOST_PIECES => k_is); (case v_MOST_OHMS => k_is)
    (case v_WORDS => k_is); (case w_WORDS => k_is); (case r_WORDS => repeat first | exact .nil | refine .cons ⟨_, rfl⟩ ?_); (case v_NOTHING => k_is); (case w_NOTHING => k_is); (case r_NOTHING => repeat first | exact .nil | refine .cons ⟨_, rfl⟩ ?_)
    (case v_MOST_SECTIONS => k_is); (case v_DIGITS => k_is); (case v_MOST_DIGITS => k_is); (case v_MOST_JOINED => k_is); (case ihn => k_is); (case iht => k_is)
    (case ic0 => k_is); (case ty0 => k_is); (case kk0_0 => k_is); (case kk0_1 => k_is); (case ct0_none_ => k_is); (case tc0_none_ => k_is)
    (case ct0_bool => k_is); (case tc0_bool => k_is); (case ct0_int => k_is); (case tc0_int => k_is); (case ct0_str => k_is); (case tc0_str => k_is)
    (case ct0_tuple => k_is); (case tc0_tuple => k_is); (case ct0_list => k_is); (case tc0_list => k_is); (case ct0_dict => k_is); (case tc0_dict => k_is)
    (case ic1 => k_is); (case ty1 => k_is); (case kk1_1 => k_is); (case kk1_0 => k_is); (case ct1_none_ => k_is); (case tc1_none_ => k_is)
    (case ct1_bool => k_is); (case tc1_bool => k_is); (case ct1_int => k_is); (case tc1_int => k_is); (case ct1_str => k_is); (case tc1_str => k_is)
    (case ct1_tuple => k_is); (case tc1_tuple => k_is); (case ct1_list => k_is); (case tc1_list => k_is); (case ct1_dict => k_is); (case tc1_dict => k_is)
    (case ic5 => k_is); (case ty5 => k_is); (case kk5_5 => k_is); (case kk5_1 => k_is); (case kk5_0 => k_is); (case ct5_none_ => k_is)
    (case tc5_none_ => k_is); (case ct5_bool => k_is); (case tc5_bool => k_is); (case ct5_int => k_is); (case tc5_int => k_is); (case ct5_str => k_is)
    (case tc5_str => k_is); (case ct5_tuple => k_is); (case tc5_tuple => k_is); (case ct5_list => k_is); (case tc5_list => k_is); (case ct5_dict => k_is)
    (case tc5_dict => k_is); (case nd => decide)
