import PyProof.Rows.All
import Wide.All
import OpenK.AllK
import Wide.FinOn
import HandS.Text
import HandS.Comp
import HandS.Iter
import HandS.Ends
import HandS.ExcOwn
import HandS.WideBits
import HandS.Wide
import HandS.TupAny
import HandS.TupMul
import HandS.Words
import HandS.Property
import HandS.TryOnly
import HandS.IsInst
import HandS.FStr
import HandS.RaiseMore
import PyProof.ReprRoads
import HandS.Deep
import HandS.Style
import HandS.Star
import HandS.ClsMeth
import HandS.SlotsOwn
import KE.GoesEnum
import HandS.EndBits
import PyProof.InstNe
import KE.KCallOwn
import KE.KFmtOwn
import HandS.Nested
import KE.KSuper
import HandS.Flt
import KE.DatumOrd
import HandS.More
import PyProof.NeKinds
import HandS.GenList
import PyProof.FactsAll.dict
import HandS.HeadHook3
import KE.RegKSuper
import HandS.Zip
import HandS.SortInts
import PyProof.SliceList
import HandS.Lambda
import HandS.ExcCtx
import HandS.HotCalls
import HandS.ExcIs
import HandS.ExcField
import HandS.ExcInit
import HandS.EndTab
import PyProof.P3In
import HandS.Small
import PyProof.Rows.Range3
import PyProof.EqAt
import KE.KIsAll
import KE.KExcInit
import HandS.Dict
import HandS.Conv
import PySem.Challenge.RW_rungladders_k61_patterns_under_names
set_option Elab.async false
set_option linter.all false
local macro_rules | `(tactic| leaf_len) => `(tactic| first | exact Or.inl rfl | exact Or.inr (Or.inl rfl) | exact Or.inr (Or.inr rfl))
local macro_rules | `(tactic| mem_news) => `(tactic| first | exact Or.inl rfl | exact Or.inr rfl)
set_option maxRecDepth 100000
set_option maxHeartbeats 0
namespace Hk
open PySem PySem.W
noncomputable def pk (os : List Obj) : List Nat → Nat → List (Option Obj) :=
  List.rec (motive := fun _ => List Nat → Nat → List (Option Obj)) (fun _ _ => []) (fun o _ ih as i => match as with
    | [] => []
    | a :: as' => match Nat.beq a i with
      | true => alive o :: ih as' (Nat.succ i)
      | false => ih (a :: as') (Nat.succ i)) os
theorem pk_of : ∀ (os : List Obj) (as : List Nat) (i : Nat) (pre : List Obj), pre.length = i → (pk os as i).length = as.length → as.map (fun a => (pre ++ os)[a]?.bind alive) = pk os as i
  | [], as, i, pre, _, h => by
    have h : 0 = as.length := h
    obtain rfl : as = [] := List.length_eq_zero_iff.mp h.symm
    rfl
  | o :: os, [], i, pre, _, _ => rfl
  | o :: os, a :: as, i, pre, hp, h => by
    have e : pk (o :: os) (a :: as) i = match Nat.beq a i with
      | true => alive o :: pk os as (Nat.succ i)
      | false => pk os (a :: as) (Nat.succ i) := rfl
    rw [e] at h ⊢
    have ap : pre ++ o :: os = (pre ++ [o]) ++ os := by rw [List.append_assoc]; rfl
    cases q : Nat.beq a i with
    | true =>
      rw [q] at h
      have ai : a = i := Nat.eq_of_beq_eq_true q
      subst ai hp
      have ih := pk_of os as (Nat.succ pre.length) (pre ++ [o]) (by rw [List.length_append]; rfl) (Nat.succ.inj h)
      show _ :: _ = alive o :: pk os as (Nat.succ pre.length)
      rw [← ih, ap]
      congr 1
      rw [← ap]
      show (pre ++ o :: os)[pre.length]?.bind alive = alive o
      rw [List.getElem?_append_right (Nat.le_refl _), Nat.sub_self]
      rfl
    | false =>
      rw [q] at h
      have ih := pk_of os (a :: as) (Nat.succ i) (pre ++ [o]) (by rw [List.length_append, hp]; rfl) h
      show _ = pk os (a :: as) (Nat.succ i)
      rw [← ih, ap]
theorem get_alive (h : Heap) (a : Nat) : h.get? a = h.objs.toList[a]?.bind alive := by
  unfold Heap.get?
  rw [Array.getElem?_toList]
  rcases h.objs[a]? with _ | ⟨c, d, dt, sl⟩
  · rfl
  · cases dt <;> rfl
theorem hk_of {K : Params → Frag} {as : List Addr} (w : World) (s : Shared) (x : pk s.heap.objs.toList as 0 = (K w.params).map fun p => some p.2) : (∀ P, as = (K P).map (·.1)) → InK K w s.heap := by
  intro e
  refine InK.of e w s ?_
  have l : (pk s.heap.objs.toList as 0).length = as.length := by
    rw [x, List.length_map]
    conv => rhs; rw [e w.params]
    rw [List.length_map]
  rw [← x, ← pk_of s.heap.objs.toList as 0 [] rfl l]
  exact List.map_congr_left fun a _ => get_alive _ a
noncomputable def dHook (K : Params → Frag) (as : List Addr) : Hook :=
  ⟨List (Option Obj), fun s => pk s.heap.objs.toList as 0, fun w => (K w.params).map fun p => some p.2, fun w h => (∀ P, as = (K P).map (·.1)) → InK K w h, hk_of, fun w h h' q k e => InK.keeps w h h' (q e) k⟩
theorem dIn_of {K : Params → Frag} {as : List Addr} {w : World} {h : Heap} (e : ∀ P, as = (K P).map (·.1)) (Y : (dHook K as).says w h) : (K w.params).In h := Y e
noncomputable def mHook (K : Params → Frag) (as ts : List Addr) : Hook :=
  ⟨List (Option Obj) × List (Option Obj), fun s => (pk s.heap.objs.toList as 0, ts.map s.heap.get?), fun w => ((K w.params).map fun p => some p.2, ts.map fun _ => some (tabObj #[])), fun w h => ((∀ P, as = (K P).map (·.1)) → InK K w h) ∧ ∀ P ∈ ts, h.get? P = some (tabObj #[]), fun w s x => ⟨hk_of w s (Prod.mk.inj x).1, List.map_inj_left.mp (Prod.mk.inj x).2⟩, fun w h h' q k => ⟨fun e => InK.keeps w h h' (q.1 e) k, fun P hP => k _ _ (q.2 P hP)⟩⟩
theorem mIn_of {K : Params → Frag} {as ts : List Addr} {w : World} {h : Heap} (e : ∀ P, as = (K P).map (·.1)) (Y : (mHook K as ts).says w h) : (K w.params).In h := Y.1 e
theorem mTabs_of {K : Params → Frag} {as ts : List Addr} {w : World} {h : Heap} (Y : (mHook K as ts).says w h) : ∀ P ∈ ts, h.get? P = some (tabObj #[]) := Y.2
end Hk
local macro_rules
  | `(tactic| o_head ($f:ident $k $a $p)) => if f.getId.eraseMacroScopes == `Hk.mHook then Lean.Macro.throwUnsupported else `(tactic| o_head (Hk.dHook $k $a))
local macro_rules
  | `(tactic| o_head ($f:ident $k $a $p $ts)) => `(tactic| o_head (Hk.mHook $k $a $ts))
def PySem.W.Fast.tw16383003097219521536 : Nat := 0
def PySem.W.Fast.tw11633304524813575232 : Nat := 0
def PySem.W.Fast.tw17836363182891370592 : Nat := 0
def PySem.W.Fast.tw10346894994341867616 : Nat := 0
def PySem.W.Fast.tw2487028025098722464 : Nat := 0
def PySem.W.Fast.tw15948694335122152640 : Nat := 0
def PySem.W.Fast.tw15361087049633251520 : Nat := 0
def PySem.W.Fast.tw4735312524915196096 : Nat := 0
def PySem.W.Fast.tw13721950131907834112 : Nat := 0
def PySem.W.Fast.tw10317346264357081408 : Nat := 0
def PySem.W.Fast.tw2757801667571411264 : Nat := 0
def PySem.W.Fast.tw8785367170383159648 : Nat := 0
def PySem.W.Fast.tw7212505729756741984 : Nat := 0
def PySem.W.Fast.tw9974347966539054464 : Nat := 0
def PySem.W.Fast.tw5804214336011224448 : Nat := 0
def PySem.W.Fast.tw8981778303868917120 : Nat := 0
def PySem.W.Fast.tw9034467319284196768 : Nat := 0
def PySem.W.Fast.tw706506477412545952 : Nat := 0
def PySem.W.Fast.tw16110344407106167232 : Nat := 0
def PySem.W.Fast.tw8286476325578484160 : Nat := 0
def PySem.W.Fast.tw3339031132901471680 : Nat := 0
def PySem.W.Fast.tw11733958365760290240 : Nat := 0
def PySem.W.Fast.tw5057291174268157408 : Nat := 0
def PySem.W.Fast.tw3358797663146967584 : Nat := 0
def PySem.W.Fast.tw3249345354740078112 : Nat := 0
def PySem.W.Fast.tw8719835937486771776 : Nat := 0
def PySem.W.Fast.tw7243164758669088320 : Nat := 0
def PySem.W.Fast.tw13864735416058927680 : Nat := 0
def PySem.W.Fast.tw1624312329362912864 : Nat := 0
def PySem.W.Fast.tw12311833283761400416 : Nat := 0
def PySem.W.Fast.tw12527247469251586688 : Nat := 0
def PySem.W.Fast.tw15667449490246603424 : Nat := 0
def PySem.W.Fast.tw3820123555116631744 : Nat := 0
def PySem.W.Fast.tw1594924433968327360 : Nat := 0
def PySem.W.Fast.tw6940317535338066624 : Nat := 0
def PySem.W.Fast.tw9403832168043471584 : Nat := 0
def PySem.W.Fast.tw15921494275539709728 : Nat := 0
def PySem.W.Fast.tw18360334246962119520 : Nat := 0
def PySem.W.Fast.tw7145975566947956608 : Nat := 0
def PySem.W.Fast.tw6154171390771528608 : Nat := 0
def PySem.W.Fast.tw1179143479888765856 : Nat := 0
def PySem.W.Fast.tw5503315592967384992 : Nat := 0
def PySem.W.Fast.tw17305529802853039072 : Nat := 0
def PySem.W.Fast.tw8419403059404035137 : Nat := 0
def PySem.W.Fast.tw16571401103720537153 : Nat := 0
def PySem.W.Fast.tw12066771199502239841 : Nat := 0
def PySem.W.Fast.tw9595028483206320257 : Nat := 0
def PySem.W.Fast.tw6266148845296035969 : Nat := 0
def PySem.W.Fast.tw10096235547106269345 : Nat := 0
def PySem.W.Fast.tw14773000486287634593 : Nat := 0
def PySem.W.Fast.tw11322845701199178945 : Nat := 0
def PySem.W.Fast.tw3649437189890533569 : Nat := 0
def PySem.W.Fast.tw5017626265790679265 : Nat := 0
def PySem.W.Fast.tw340597566498985217 : Nat := 0
def PySem.W.Fast.tw15041267929325520193 : Nat := 0
def PySem.W.Fast.tw445530717315223873 : Nat := 0
def PySem.W.Fast.tw8507673567236937057 : Nat := 0
def PySem.W.Fast.tw11578522041965787521 : Nat := 0
def PySem.W.Fast.tw1164009114139049345 : Nat := 0
def PySem.W.Fast.tw18164068313278801281 : Nat := 0
def PySem.W.Fast.tw3144386445223525761 : Nat := 0
def PySem.W.Fast.tw7385512575658427841 : Nat := 0
def PySem.W.Fast.tw5180340524462809537 : Nat := 0
def PySem.W.Fast.tw14286284654380897729 : Nat := 0
def PySem.W.Fast.tw1886986359755536833 : Nat := 0
def PySem.W.Fast.tw5168748483465414113 : Nat := 0
def PySem.W.Fast.tw6407720858160390625 : Nat := 0
def PySem.W.Fast.tw8689970773834085889 : Nat := 0
def PySem.W.Fast.tw9165812442924046849 : Nat := 0
def PySem.W.Fast.tw10222566166029432321 : Nat := 0
def PySem.W.Fast.tw16241677673456608801 : Nat := 0
def PySem.W.Fast.tw1353967364592740897 : Nat := 0
def PySem.W.Fast.tw16616106386681222689 : Nat := 0
def PySem.W.Fast.tw9837886698411942465 : Nat := 0
def PySem.W.Fast.tw9343858094861184577 : Nat := 0
def PySem.W.Fast.tw711823929322544737 : Nat := 0
def PySem.W.Fast.tw13909291401827184225 : Nat := 0
def PySem.W.Fast.tw14539564499379113601 : Nat := 0
def PySem.W.Fast.tw7294892887300506273 : Nat := 0
def PySem.W.Fast.tw779602906093565633 : Nat := 0
def PySem.W.Fast.tw8135233413216106177 : Nat := 0
def PySem.W.Fast.tw1453868900779044577 : Nat := 0
def PySem.W.Fast.tw17441538679637824225 : Nat := 0
def PySem.W.Fast.tw16552385299676341089 : Nat := 0
def PySem.W.Fast.tw16919975241799933857 : Nat := 0
def PySem.W.Fast.tw9313853640391375777 : Nat := 0
def PySem.W.Fast.tw11504762088013289409 : Nat := 0
def PySem.W.Fast.tw12322287515584324545 : Nat := 0
def PySem.W.Fast.tw1328830181880927201 : Nat := 0
def PySem.W.Fast.tw6568402860358539298 : Nat := 0
def PySem.W.Fast.tw4276636815865271394 : Nat := 0
def PySem.W.Fast.tw6405733590162471010 : Nat := 0
def PySem.W.Fast.tw7381693092776456354 : Nat := 0
def PySem.W.Fast.tw16746429733406689442 : Nat := 0
def PySem.W.Fast.tw17180955316443290818 : Nat := 0
def PySem.W.Fast.tw10046105176114535650 : Nat := 0
def PySem.W.Fast.tw5207919547804014818 : Nat := 0
def PySem.W.Fast.tw6300250733010345186 : Nat := 0
def PySem.W.Fast.tw13575484512232820994 : Nat := 0
def PySem.W.Fast.tw5614162363505109250 : Nat := 0
def PySem.W.Fast.tw11999375562030542114 : Nat := 0
def PySem.W.Fast.tw13798816550041984322 : Nat := 0
def PySem.W.Fast.tw3174931609320223042 : Nat := 0
def PySem.W.Fast.tw9139644693827949922 : Nat := 0
def PySem.W.Fast.tw17945784077958212962 : Nat := 0
def PySem.W.Fast.tw6996601556812429666 : Nat := 0
def PySem.W.Fast.tw6775370604664036802 : Nat := 0
def PySem.W.Fast.tw7629095420407684546 : Nat := 0
def PySem.W.Fast.tw6182388788154940866 : Nat := 0
def PySem.W.Fast.tw14325595649811759554 : Nat := 0
def PySem.W.Fast.tw17334330268714682818 : Nat := 0
def PySem.W.Fast.tw15699130288939136450 : Nat := 0
def PySem.W.Fast.tw7714452909049261538 : Nat := 0
def PySem.W.Fast.tw18436170319358550530 : Nat := 0
def PySem.W.Fast.tw15663480322425487906 : Nat := 0
def PySem.W.Fast.tw16407653429335863842 : Nat := 0
def PySem.W.Fast.tw10168673573661972034 : Nat := 0
def PySem.W.Fast.tw11177469458095259234 : Nat := 0
def PySem.W.Fast.tw17243732742384021090 : Nat := 0
def PySem.W.Fast.tw3850985185007357570 : Nat := 0
def PySem.W.Fast.tw12460753625461121666 : Nat := 0
def PySem.W.Fast.tw2259394047267502722 : Nat := 0
def PySem.W.Fast.tw2746478186010780322 : Nat := 0
def PySem.W.Fast.tw16654444796085789378 : Nat := 0
def PySem.W.Fast.tw16979161225287955138 : Nat := 0
def PySem.W.Fast.tw9970165769659629282 : Nat := 0
def PySem.W.Fast.tw18086965618066665218 : Nat := 0
def PySem.W.Fast.tw4897882855349348098 : Nat := 0
def PySem.W.Fast.tw10916632655359867650 : Nat := 0
def PySem.W.Fast.tw14412502693095676706 : Nat := 0
def PySem.W.Fast.tw2169205365161655074 : Nat := 0
def PySem.W.Fast.tw3736415599665802050 : Nat := 0
def PySem.W.Fast.tw15931359499410205506 : Nat := 0
def PySem.W.Fast.tw7645225812628338498 : Nat := 0
def PySem.W.Fast.tw4775553577831176034 : Nat := 0
def PySem.W.Fast.tw1082587202622797698 : Nat := 0
def PySem.W.Fast.tw11554358013038094242 : Nat := 0
def PySem.W.Fast.tw1287781082979528610 : Nat := 0
def PySem.W.Fast.tw10937755797142117314 : Nat := 0
def PySem.W.Fast.tw11773322857571742658 : Nat := 0
def PySem.W.Fast.tw7801764932020088802 : Nat := 0
def PySem.W.Fast.tw9345403376234194914 : Nat := 0
def PySem.W.Fast.tw986440395842882563 : Nat := 0
def PySem.W.Fast.tw10270459995753748515 : Nat := 0
def PySem.W.Fast.tw2136044403225628771 : Nat := 0
def PySem.W.Fast.tw8378353965531573379 : Nat := 0
def PySem.W.Fast.tw13127859459202429059 : Nat := 0
def PySem.W.Fast.tw1357034778143167651 : Nat := 0
def PySem.W.Fast.tw8026933048656427171 : Nat := 0
def PySem.W.Fast.tw15903451809401051331 : Nat := 0
def PySem.W.Fast.tw1031405405011365059 : Nat := 0
def PySem.W.Fast.tw2615179280168792291 : Nat := 0
def PySem.W.Fast.tw8577932600721020163 : Nat := 0
def PySem.W.Fast.tw7336123543589078275 : Nat := 0
def PySem.W.Fast.tw15241642192999889187 : Nat := 0
def PySem.W.Fast.tw249135500344249635 : Nat := 0
def PySem.W.Fast.tw6307216429513467203 : Nat := 0
def PySem.W.Fast.tw16495015717848217923 : Nat := 0
def PySem.W.Fast.tw5683673812023580003 : Nat := 0
def PySem.W.Fast.tw5163626253317956963 : Nat := 0
def PySem.W.Fast.tw18358972707188771235 : Nat := 0
def PySem.W.Fast.tw13500269190491540899 : Nat := 0
def PySem.W.Fast.tw1312770440171393443 : Nat := 0
def PySem.W.Fast.tw9879522834716407203 : Nat := 0
def PySem.W.Fast.tw3317853134608990659 : Nat := 0
def PySem.W.Fast.tw9866179082009187779 : Nat := 0
def PySem.W.Fast.tw13402825441805693379 : Nat := 0
def PySem.W.Fast.tw16440175641961998819 : Nat := 0
def PySem.W.Fast.tw4601981553801966051 : Nat := 0
def PySem.W.Fast.tw7325755480841115107 : Nat := 0
def PySem.W.Fast.tw10825511259648249347 : Nat := 0
def PySem.W.Fast.tw11286760709835127395 : Nat := 0
def PySem.W.Fast.tw6148001880913111683 : Nat := 0
def PySem.W.Fast.tw5035077548461279907 : Nat := 0
def PySem.W.Fast.tw6267364630787139267 : Nat := 0
def PySem.W.Fast.tw2697878588958783171 : Nat := 0
def PySem.W.Fast.tw17881277369678629635 : Nat := 0
def PySem.W.Fast.tw858398967585296131 : Nat := 0
def PySem.W.Fast.tw10185502693318667043 : Nat := 0
def PySem.W.Fast.tw1307215780892178243 : Nat := 0
def PySem.W.Fast.tw10905557779569729379 : Nat := 0
def PySem.W.Fast.tw8244765411394462595 : Nat := 0
def PySem.W.Fast.tw2604275119243602819 : Nat := 0
def PySem.W.Fast.tw9439530546244269955 : Nat := 0
def PySem.W.Fast.tw6295820175968902051 : Nat := 0
def PySem.W.Fast.tw13856279643907784611 : Nat := 0
def PySem.W.Fast.tw14880354631204656099 : Nat := 0
def PySem.W.Fast.tw5043614126919379939 : Nat := 0
def PySem.W.Fast.tw15939732817882908676 : Nat := 0
def PySem.W.Fast.tw6031872095656946756 : Nat := 0
def PySem.W.Fast.tw3635615292398185540 : Nat := 0
def PySem.W.Fast.tw17727435165721881732 : Nat := 0
def PySem.W.Fast.tw7463448145864673476 : Nat := 0
def PySem.W.Fast.tw5035331486509591748 : Nat := 0
def PySem.W.Fast.tw15344695055088320772 : Nat := 0
def PySem.W.Fast.tw6248587654040979748 : Nat := 0
def PySem.W.Fast.tw193901354221579556 : Nat := 0
def PySem.W.Fast.tw5898410600863481124 : Nat := 0
def PySem.W.Fast.tw8506261030525487396 : Nat := 0
def PySem.W.Fast.tw3529845824109178148 : Nat := 0
def PySem.W.Fast.tw5251816866515318052 : Nat := 0
def PySem.W.Fast.tw3327488753170842948 : Nat := 0
def PySem.W.Fast.tw14984972460792088900 : Nat := 0
def PySem.W.Fast.tw8031662427627630916 : Nat := 0
def PySem.W.Fast.tw16257810440405351748 : Nat := 0
def PySem.W.Fast.tw5383273985032421732 : Nat := 0
def PySem.W.Fast.tw5905736354238482788 : Nat := 0
def PySem.W.Fast.tw4027786079248273764 : Nat := 0
def PySem.W.Fast.tw11091715966731355524 : Nat := 0
def PySem.W.Fast.tw3425378575339368836 : Nat := 0
def PySem.W.Fast.tw14757023206291730820 : Nat := 0
def PySem.W.Fast.tw4194329060312675748 : Nat := 0
def PySem.W.Fast.tw5552881979581419972 : Nat := 0
def PySem.W.Fast.tw3576848231363615204 : Nat := 0
def PySem.W.Fast.tw15379910201594130980 : Nat := 0
def PySem.W.Fast.tw15195118974510873124 : Nat := 0
def PySem.W.Fast.tw16440482435629691492 : Nat := 0
def PySem.W.Fast.tw1468104716247796388 : Nat := 0
def PySem.W.Fast.tw3775558446148036260 : Nat := 0
def PySem.W.Fast.tw18105358001508670116 : Nat := 0
def PySem.W.Fast.tw9094023038558218948 : Nat := 0
def PySem.W.Fast.tw13546583685444906692 : Nat := 0
def PySem.W.Fast.tw11619674058282069700 : Nat := 0
def PySem.W.Fast.tw5103455625244151556 : Nat := 0
def PySem.W.Fast.tw15695763929141430020 : Nat := 0
def PySem.W.Fast.tw8796737738737067812 : Nat := 0
def PySem.W.Fast.tw5040738184632707876 : Nat := 0
def PySem.W.Fast.tw8654007315782001444 : Nat := 0
def PySem.W.Fast.tw17428150134624501572 : Nat := 0
def PySem.W.Fast.tw1276793524549900100 : Nat := 0
def PySem.W.Fast.tw17484745402102981476 : Nat := 0
def PySem.W.Fast.tw16476907336406710116 : Nat := 0
def PySem.W.Fast.tw13361273072423281540 : Nat := 0
def PySem.W.Fast.tw3962997404139828164 : Nat := 0
def PySem.W.Fast.tw11780846874360264644 : Nat := 0
def PySem.W.Fast.tw5388679545355592644 : Nat := 0
def PySem.W.Fast.tw13502292392349951940 : Nat := 0
def PySem.W.Fast.tw7195914222017258533 : Nat := 0
def PySem.W.Fast.tw12805591269953942565 : Nat := 0
def PySem.W.Fast.tw17268444304919423013 : Nat := 0
def PySem.W.Fast.tw10981163250069748805 : Nat := 0
def PySem.W.Fast.tw7431267909790693509 : Nat := 0
def PySem.W.Fast.tw16807974571304098981 : Nat := 0
def PySem.W.Fast.tw46146874448856229 : Nat := 0
def PySem.W.Fast.tw8916988481037812901 : Nat := 0
def PySem.W.Fast.tw1464371493375240421 : Nat := 0
def PySem.W.Fast.tw18156019111410287877 : Nat := 0
def PySem.W.Fast.tw12622741264568635685 : Nat := 0
def PySem.W.Fast.tw5646738027067544933 : Nat := 0
def PySem.W.Fast.tw5458137377588426085 : Nat := 0
def PySem.W.Fast.tw15483137647469447525 : Nat := 0
def PySem.W.Fast.tw8827793397409829221 : Nat := 0
def PySem.W.Fast.tw14437196243223585157 : Nat := 0
def PySem.W.Fast.tw9385470145840167301 : Nat := 0
def PySem.W.Fast.tw17008243820559422853 : Nat := 0
def PySem.W.Fast.tw13649715908113455493 : Nat := 0
def PySem.W.Fast.tw11714774970744806821 : Nat := 0
def PySem.W.Fast.tw980485169774695877 : Nat := 0
def PySem.W.Fast.tw3202841938548904389 : Nat := 0
def PySem.W.Fast.tw2485262411823970757 : Nat := 0
def PySem.W.Fast.tw12268517860514834981 : Nat := 0
def PySem.W.Fast.tw13847545893481212517 : Nat := 0
def PySem.W.Fast.tw8768337867388277381 : Nat := 0
def PySem.W.Fast.tw17429540543854176901 : Nat := 0
def PySem.W.Fast.tw15040323798714909349 : Nat := 0
def PySem.W.Fast.tw12937984856252691109 : Nat := 0
def PySem.W.Fast.tw860696957536778917 : Nat := 0
def PySem.W.Fast.tw5574510003922787013 : Nat := 0
def PySem.W.Fast.tw2159554990636952261 : Nat := 0
def PySem.W.Fast.tw18090425228706812677 : Nat := 0
def PySem.W.Fast.tw12477660011113433893 : Nat := 0
def PySem.W.Fast.tw2408665473527876421 : Nat := 0
def PySem.W.Fast.tw4105789404559462245 : Nat := 0
def PySem.W.Fast.tw11686347603338279813 : Nat := 0
def PySem.W.Fast.tw1030201503770963845 : Nat := 0
def PySem.W.Fast.tw1395251432868554693 : Nat := 0
def PySem.W.Fast.tw17068208357895090117 : Nat := 0
def PySem.W.Fast.tw12617807363921319909 : Nat := 0
def PySem.W.Fast.tw7012416011453879269 : Nat := 0
def PySem.W.Fast.tw7328357281270205446 : Nat := 0
def PySem.W.Fast.tw17481618868700483590 : Nat := 0
def PySem.W.Fast.tw15544864027265504262 : Nat := 0
def PySem.W.Fast.tw15935649799222007814 : Nat := 0
def PySem.W.Fast.tw2393456730151470086 : Nat := 0
def PySem.W.Fast.tw14111258184909621286 : Nat := 0
def PySem.W.Fast.tw17553680727806284902 : Nat := 0
def PySem.W.Fast.tw9915111757302667398 : Nat := 0
def PySem.W.Fast.tw1477329288506221734 : Nat := 0
def PySem.W.Fast.tw7922213370744094886 : Nat := 0
def PySem.W.Fast.tw8086476600360503494 : Nat := 0
def PySem.W.Fast.tw11479940654550122726 : Nat := 0
def PySem.W.Fast.tw3744430651693381862 : Nat := 0
def PySem.W.Fast.tw8317331459035099366 : Nat := 0
def PySem.W.Fast.tw9721908008324405510 : Nat := 0
def PySem.W.Fast.tw17809641595250547974 : Nat := 0
def PySem.W.Fast.tw6318494486193613062 : Nat := 0
def PySem.W.Fast.tw17592454525414684966 : Nat := 0
def PySem.W.Fast.tw11473346987570876774 : Nat := 0
def PySem.W.Fast.tw801216038106135910 : Nat := 0
def PySem.W.Fast.tw13697631159829847430 : Nat := 0
def PySem.W.Fast.tw7631346879503455654 : Nat := 0
def PySem.W.Fast.tw10122511918588751270 : Nat := 0
def PySem.W.Fast.tw724634864438650310 : Nat := 0
def PySem.W.Fast.tw16365764291557960134 : Nat := 0
def PySem.W.Fast.tw1308648184725503430 : Nat := 0
def PySem.W.Fast.tw9205235057289414118 : Nat := 0
def PySem.W.Fast.tw6150009408870335974 : Nat := 0
def PySem.W.Fast.tw9319421405820439014 : Nat := 0
def PySem.W.Fast.tw11008185120655020550 : Nat := 0
def PySem.W.Fast.tw13027535738525089286 : Nat := 0
def PySem.W.Fast.tw17585922069803929158 : Nat := 0
def PySem.W.Fast.tw7511518929570775622 : Nat := 0
def PySem.W.Fast.tw2889214426564772422 : Nat := 0
def PySem.W.Fast.tw9616806414362575462 : Nat := 0
def PySem.W.Fast.tw9223414154438063718 : Nat := 0
def PySem.W.Fast.tw647639391353353830 : Nat := 0
def PySem.W.Fast.tw3995849432636869222 : Nat := 0
def PySem.W.Fast.tw7235531287958087270 : Nat := 0
def PySem.W.Fast.tw3821718856418016902 : Nat := 0
def PySem.W.Fast.tw7910936451747838694 : Nat := 0
def PySem.W.Fast.tw3640158973669803782 : Nat := 0
def PySem.W.Fast.tw495458542066610950 : Nat := 0
def PySem.W.Fast.tw3431610424801807142 : Nat := 0
def PySem.W.Fast.tw13233382132414043974 : Nat := 0
def PySem.W.Fast.tw14000361894960428902 : Nat := 0
def PySem.W.Fast.tw528740671182839686 : Nat := 0
def PySem.W.Fast.tw17412327423120852870 : Nat := 0
def PySem.W.Fast.tw466565273595928454 : Nat := 0
def PySem.W.Fast.tw17735499268098799526 : Nat := 0
def PySem.W.Fast.tw3126748533970953158 : Nat := 0
def PySem.W.Fast.tw2853135887294632039 : Nat := 0
def PySem.W.Fast.tw5482552383931790439 : Nat := 0
def PySem.W.Fast.tw141398016121650279 : Nat := 0
def PySem.W.Fast.tw1569490877667645607 : Nat := 0
def PySem.W.Fast.tw17599900405645606055 : Nat := 0
def PySem.W.Fast.tw3510005705953745095 : Nat := 0
def PySem.W.Fast.tw17948878715020483783 : Nat := 0
def PySem.W.Fast.tw2421990178046195911 : Nat := 0
def PySem.W.Fast.tw17543495327976270055 : Nat := 0
def PySem.W.Fast.tw17771487360267584807 : Nat := 0
def PySem.W.Fast.tw4181112625522355495 : Nat := 0
def PySem.W.Fast.tw8093300474369128775 : Nat := 0
def PySem.W.Fast.tw14168014836944750023 : Nat := 0
def PySem.W.Fast.tw13030619405738906119 : Nat := 0
def PySem.W.Fast.tw18099956469885737511 : Nat := 0
def PySem.W.Fast.tw12393855002910054983 : Nat := 0
def PySem.W.Fast.tw6404225898965209703 : Nat := 0
def PySem.W.Fast.tw10970634356217258631 : Nat := 0
def PySem.W.Fast.tw13413535779629229703 : Nat := 0
def PySem.W.Fast.tw1103204265226204839 : Nat := 0
def PySem.W.Fast.tw822691617499219655 : Nat := 0
def PySem.W.Fast.tw10074936099627049767 : Nat := 0
def PySem.W.Fast.tw1598221809559754535 : Nat := 0
def PySem.W.Fast.tw5818926933340191527 : Nat := 0
def PySem.W.Fast.tw2597076822955457319 : Nat := 0
def PySem.W.Fast.tw377149824410305351 : Nat := 0
def PySem.W.Fast.tw12170350166551728999 : Nat := 0
def PySem.W.Fast.tw11207008652073772903 : Nat := 0
def PySem.W.Fast.tw18241822818007008167 : Nat := 0
def PySem.W.Fast.tw11143165440327452615 : Nat := 0
def PySem.W.Fast.tw18181960645906698183 : Nat := 0
def PySem.W.Fast.tw4169046166675741639 : Nat := 0
def PySem.W.Fast.tw10742234041060032455 : Nat := 0
def PySem.W.Fast.tw9760686439101843464 : Nat := 0
def PySem.W.Fast.tw16673734668443307048 : Nat := 0
def PySem.W.Fast.tw6829311780964619304 : Nat := 0
def PySem.W.Fast.tw7537724324695006248 : Nat := 0
def PySem.W.Fast.tw11327022642580523080 : Nat := 0
def PySem.W.Fast.tw12335706719365214280 : Nat := 0
def PySem.W.Fast.tw13995920378810952776 : Nat := 0
def PySem.W.Fast.tw1402954740224818248 : Nat := 0
def PySem.W.Fast.tw10354185951048373384 : Nat := 0
def PySem.W.Fast.tw4937251085102227592 : Nat := 0
def PySem.W.Fast.tw5894247649629818024 : Nat := 0
def PySem.W.Fast.tw9433803566954213544 : Nat := 0
def PySem.W.Fast.tw12065131672553232584 : Nat := 0
def PySem.W.Fast.tw3831243560295996648 : Nat := 0
def PySem.W.Fast.tw8641349110886974728 : Nat := 0
def PySem.W.Fast.tw14759501020491440392 : Nat := 0
def PySem.W.Fast.tw15031716048482279720 : Nat := 0
def PySem.W.Fast.tw17134505371186091304 : Nat := 0
def PySem.W.Fast.tw16249578849411325256 : Nat := 0
def PySem.W.Fast.tw2032571557018865032 : Nat := 0
def PySem.W.Fast.tw861406273249906056 : Nat := 0
def PySem.W.Fast.tw8633516781714097544 : Nat := 0
def PySem.W.Fast.tw18074030934475135368 : Nat := 0
def PySem.W.Fast.tw16470256817347756456 : Nat := 0
def PySem.W.Fast.tw16937261114424803816 : Nat := 0
def PySem.W.Fast.tw1811831228574814696 : Nat := 0
def PySem.W.Fast.tw433293139652522504 : Nat := 0
def PySem.W.Fast.tw7680668809818056232 : Nat := 0
def PySem.W.Fast.tw9944624251188311592 : Nat := 0
def PySem.W.Fast.tw7167696574357019208 : Nat := 0
def PySem.W.Fast.tw7972613322319395400 : Nat := 0
def PySem.W.Fast.tw6277768809877809800 : Nat := 0
def PySem.W.Fast.tw13613220239028654824 : Nat := 0
def PySem.W.Fast.tw11956073569363349224 : Nat := 0
def PySem.W.Fast.tw18126312097987408648 : Nat := 0
def PySem.W.Fast.tw8094938399139218184 : Nat := 0
def PySem.W.Fast.tw10726577388083960616 : Nat := 0
def PySem.W.Fast.tw11653747190313281320 : Nat := 0
def PySem.W.Fast.tw16910280268668409672 : Nat := 0
def PySem.W.Fast.tw6211082441392627528 : Nat := 0
def PySem.W.Fast.tw12014975688215764808 : Nat := 0
def PySem.W.Fast.tw17729030111245120328 : Nat := 0
def PySem.W.Fast.tw305805805307154248 : Nat := 0
def PySem.W.Fast.tw14164312996225197928 : Nat := 0
def PySem.W.Fast.tw7666232423019556744 : Nat := 0
def PySem.W.Fast.tw16021399976625246120 : Nat := 0
def PySem.W.Fast.tw2776233737807846312 : Nat := 0
def PySem.W.Fast.tw15951039393231104936 : Nat := 0
def PySem.W.Fast.tw3352062430014217160 : Nat := 0
def PySem.W.Fast.tw3543181921567429576 : Nat := 0
def PySem.W.Fast.tw4514038106728279049 : Nat := 0
def PySem.W.Fast.tw6581157241855375369 : Nat := 0
def PySem.W.Fast.tw14471618418049197097 : Nat := 0
def PySem.W.Fast.tw17067726444040437833 : Nat := 0
def PySem.W.Fast.tw9683848926636846185 : Nat := 0
def PySem.W.Fast.tw5070769575521322121 : Nat := 0
def PySem.W.Fast.tw10332364225982906505 : Nat := 0
def PySem.W.Fast.tw8847492998219236521 : Nat := 0
def PySem.W.Fast.tw4199916023916269737 : Nat := 0
def PySem.W.Fast.tw14731150120454557897 : Nat := 0
def PySem.W.Fast.tw1079302791330280649 : Nat := 0
def PySem.W.Fast.tw12413753015916169449 : Nat := 0
def PySem.W.Fast.tw8866927332592101609 : Nat := 0
def PySem.W.Fast.tw15570066981817010441 : Nat := 0
def PySem.W.Fast.tw3093269573982321929 : Nat := 0
def PySem.W.Fast.tw16986935879854371113 : Nat := 0
def PySem.W.Fast.tw14843776164062967145 : Nat := 0
def PySem.W.Fast.tw304572023794525545 : Nat := 0
def PySem.W.Fast.tw1650156317066399113 : Nat := 0
def PySem.W.Fast.tw10313044446484946313 : Nat := 0
def PySem.W.Fast.tw9392682200620331401 : Nat := 0
def PySem.W.Fast.tw7936598973662298537 : Nat := 0
def PySem.W.Fast.tw9301738950750701001 : Nat := 0
def PySem.W.Fast.tw16770189788641155529 : Nat := 0
def PySem.W.Fast.tw5767649753515719113 : Nat := 0
def PySem.W.Fast.tw4616913374038690281 : Nat := 0
def PySem.W.Fast.tw5810336661465998825 : Nat := 0
def PySem.W.Fast.tw9827614997205906953 : Nat := 0
def PySem.W.Fast.tw8934071812612717065 : Nat := 0
def PySem.W.Fast.tw1105073350869643817 : Nat := 0
def PySem.W.Fast.tw3647188048643881545 : Nat := 0
def PySem.W.Fast.tw15243301045554284137 : Nat := 0
def PySem.W.Fast.tw14347295942027090537 : Nat := 0
def PySem.W.Fast.tw10617749697372559977 : Nat := 0
def PySem.W.Fast.tw12495607185367256681 : Nat := 0
def PySem.W.Fast.tw6211686265047849609 : Nat := 0
def PySem.W.Fast.tw6171963529716953769 : Nat := 0
def PySem.W.Fast.tw10316482744963491561 : Nat := 0
def PySem.W.Fast.tw3518983085372044009 : Nat := 0
def PySem.W.Fast.tw3468235415469757193 : Nat := 0
def PySem.W.Fast.tw12689479077584543497 : Nat := 0
def PySem.W.Fast.tw2536086620128821033 : Nat := 0
def PySem.W.Fast.tw15926567041185038153 : Nat := 0
def PySem.W.Fast.tw12298647649242104649 : Nat := 0
def PySem.W.Fast.tw6450702588387529577 : Nat := 0
def PySem.W.Fast.tw3811329484659370889 : Nat := 0
def PySem.W.Fast.tw15865471730367132553 : Nat := 0
def PySem.W.Fast.tw15188770531000150985 : Nat := 0
def PySem.W.Fast.tw2419503912287573993 : Nat := 0
def PySem.W.Fast.tw11787513527292732393 : Nat := 0
def PySem.W.Fast.tw5305430594237891594 : Nat := 0
def PySem.W.Fast.tw2010851102707128362 : Nat := 0
def PySem.W.Fast.tw267828535776788522 : Nat := 0
def PySem.W.Fast.tw9169173726477314122 : Nat := 0
def PySem.W.Fast.tw15418835388240396394 : Nat := 0
def PySem.W.Fast.tw1519819004581647466 : Nat := 0
def PySem.W.Fast.tw9583799259115813002 : Nat := 0
def PySem.W.Fast.tw4849418960879166666 : Nat := 0
def PySem.W.Fast.tw12624242460536640746 : Nat := 0
def PySem.W.Fast.tw8212331895055652106 : Nat := 0
def PySem.W.Fast.tw6552606843643276554 : Nat := 0
def PySem.W.Fast.tw7092096890100603146 : Nat := 0
def PySem.W.Fast.tw7823916275838486826 : Nat := 0
def PySem.W.Fast.tw13277107629916929354 : Nat := 0
def PySem.W.Fast.tw14773597509705715018 : Nat := 0
def PySem.W.Fast.tw9039517836970809674 : Nat := 0
def PySem.W.Fast.tw15698657232282173802 : Nat := 0
def PySem.W.Fast.tw12152115781464835434 : Nat := 0
def PySem.W.Fast.tw9974195999166069098 : Nat := 0
def PySem.W.Fast.tw4191940533724102026 : Nat := 0
def PySem.W.Fast.tw3570066674233919882 : Nat := 0
def PySem.W.Fast.tw1508077895215543690 : Nat := 0
def PySem.W.Fast.tw8534087398586374634 : Nat := 0
def PySem.W.Fast.tw7785171745826298410 : Nat := 0
def PySem.W.Fast.tw6031896801288953482 : Nat := 0
def PySem.W.Fast.tw16902271711487107722 : Nat := 0
def PySem.W.Fast.tw8723503003005920906 : Nat := 0
def PySem.W.Fast.tw15811755386666823306 : Nat := 0
def PySem.W.Fast.tw17965813919907102378 : Nat := 0
def PySem.W.Fast.tw2205639320026571434 : Nat := 0
def PySem.W.Fast.tw2324077121424389802 : Nat := 0
def PySem.W.Fast.tw5717800055179979466 : Nat := 0
def PySem.W.Fast.tw14301668788083452650 : Nat := 0
def PySem.W.Fast.tw948511173449071370 : Nat := 0
def PySem.W.Fast.tw7808202060511298314 : Nat := 0
def PySem.W.Fast.tw16186215590630552330 : Nat := 0
def PySem.W.Fast.tw610929174066786090 : Nat := 0
def PySem.W.Fast.tw8814995987178262378 : Nat := 0
def PySem.W.Fast.tw4461153908771593066 : Nat := 0
def PySem.W.Fast.tw7067052993569111914 : Nat := 0
def PySem.W.Fast.tw10859052760789475178 : Nat := 0
def PySem.W.Fast.tw7619226238254878602 : Nat := 0
def PySem.W.Fast.tw1400117735946022858 : Nat := 0
def PySem.W.Fast.tw15695042434042287082 : Nat := 0
def PySem.W.Fast.tw1993245441867576298 : Nat := 0
def PySem.W.Fast.tw10206912430109229067 : Nat := 0
def PySem.W.Fast.tw2583780606925735947 : Nat := 0
def PySem.W.Fast.tw1051279120785118219 : Nat := 0
def PySem.W.Fast.tw14721084619488108555 : Nat := 0
def PySem.W.Fast.tw13495538122789485579 : Nat := 0
def PySem.W.Fast.tw3137471559889911851 : Nat := 0
def PySem.W.Fast.tw12694409431680322603 : Nat := 0
def PySem.W.Fast.tw9533179585562332203 : Nat := 0
def PySem.W.Fast.tw13560355145532786763 : Nat := 0
def PySem.W.Fast.tw712839214947556427 : Nat := 0
def PySem.W.Fast.tw16188303299541428299 : Nat := 0
def PySem.W.Fast.tw6880791106353162315 : Nat := 0
def PySem.W.Fast.tw3890727263635733579 : Nat := 0
def PySem.W.Fast.tw10340442849598857323 : Nat := 0
def PySem.W.Fast.tw15667377505967532139 : Nat := 0
def PySem.W.Fast.tw9719676873398024299 : Nat := 0
def PySem.W.Fast.tw14486251819975016587 : Nat := 0
def PySem.W.Fast.tw186358125461480619 : Nat := 0
def PySem.W.Fast.tw13452705552522065067 : Nat := 0
def PySem.W.Fast.tw10805245876120673451 : Nat := 0
def PySem.W.Fast.tw10601799948640505035 : Nat := 0
def PySem.W.Fast.tw2264498465228704971 : Nat := 0
def PySem.W.Fast.tw13973748684071949515 : Nat := 0
def PySem.W.Fast.tw4807635024313768139 : Nat := 0
def PySem.W.Fast.tw5164983882117620971 : Nat := 0
def PySem.W.Fast.tw17631486950539151595 : Nat := 0
def PySem.W.Fast.tw15085016858090830059 : Nat := 0
def PySem.W.Fast.tw12965599987075225867 : Nat := 0
def PySem.W.Fast.tw3487648414121131307 : Nat := 0
def PySem.W.Fast.tw17864947176199392587 : Nat := 0
def PySem.W.Fast.tw5999197978156382539 : Nat := 0
def PySem.W.Fast.tw676514583420170603 : Nat := 0
def PySem.W.Fast.tw304553193268648363 : Nat := 0
def PySem.W.Fast.tw17610203958693050795 : Nat := 0
def PySem.W.Fast.tw16565884561698451883 : Nat := 0
def PySem.W.Fast.tw3469964869072068043 : Nat := 0
def PySem.W.Fast.tw6229857921044998603 : Nat := 0
def PySem.W.Fast.tw13718088789022863851 : Nat := 0
def PySem.W.Fast.tw9825833382823953931 : Nat := 0
def PySem.W.Fast.tw2114777667081376299 : Nat := 0
def PySem.W.Fast.tw13656619969798378027 : Nat := 0
def PySem.W.Fast.tw15680327890555627051 : Nat := 0
def PySem.W.Fast.tw13756822830036646443 : Nat := 0
def PySem.W.Fast.tw7352722221492969035 : Nat := 0
def PySem.W.Fast.tw2370236781602002507 : Nat := 0
def PySem.W.Fast.tw4454773925094024811 : Nat := 0
def PySem.W.Fast.tw8232924974669353675 : Nat := 0
def PySem.W.Fast.tw12758456859251008203 : Nat := 0
def PySem.W.Fast.tw1780038327060792043 : Nat := 0
def PySem.W.Fast.tw14413039038006086379 : Nat := 0
def PySem.W.Fast.tw11179267411966199563 : Nat := 0
def PySem.W.Fast.tw9553375510622232331 : Nat := 0
def PySem.W.Fast.tw9878725426830443307 : Nat := 0
def PySem.W.Fast.tw8603701199140735787 : Nat := 0
def PySem.W.Fast.tw1342816265332736843 : Nat := 0
def PySem.W.Fast.tw586594222810225483 : Nat := 0
def PySem.W.Fast.tw2043513101301298027 : Nat := 0
def PySem.W.Fast.tw15863635668980355947 : Nat := 0
def PySem.W.Fast.tw13695124090052041611 : Nat := 0
def PySem.W.Fast.tw16059721356827028363 : Nat := 0
def PySem.W.Fast.tw12247279770054288299 : Nat := 0
def PySem.W.Fast.tw14172304225986548683 : Nat := 0
def PySem.W.Fast.tw11925440519640100811 : Nat := 0
def PySem.W.Fast.tw9729233485829626827 : Nat := 0
def PySem.W.Fast.tw17248268798446067659 : Nat := 0
def PySem.W.Fast.tw260290328781007916 : Nat := 0
def PySem.W.Fast.tw13693038581670299692 : Nat := 0
def PySem.W.Fast.tw16845939359873127468 : Nat := 0
def PySem.W.Fast.tw938714826411130956 : Nat := 0
def PySem.W.Fast.tw1017889837943137388 : Nat := 0
def PySem.W.Fast.tw15157652664665549004 : Nat := 0
def PySem.W.Fast.tw15103690171344440524 : Nat := 0
def PySem.W.Fast.tw13131158560970130668 : Nat := 0
def PySem.W.Fast.tw14470512616268753132 : Nat := 0
def PySem.W.Fast.tw12336350670125859116 : Nat := 0
def PySem.W.Fast.tw17511991799131055436 : Nat := 0
def PySem.W.Fast.tw8935134150975152460 : Nat := 0
def PySem.W.Fast.tw12508137213757565356 : Nat := 0
def PySem.W.Fast.tw9845621373770299820 : Nat := 0
def PySem.W.Fast.tw12286205321115631020 : Nat := 0
def PySem.W.Fast.tw15723446010624828876 : Nat := 0
def PySem.W.Fast.tw15328335992993780204 : Nat := 0
def PySem.W.Fast.tw15470043822590615020 : Nat := 0
def PySem.W.Fast.tw16389301655250770444 : Nat := 0
def PySem.W.Fast.tw16013461934667264524 : Nat := 0
def PySem.W.Fast.tw18227034329457964588 : Nat := 0
def PySem.W.Fast.tw5000699257463193132 : Nat := 0
def PySem.W.Fast.tw17920126364573385260 : Nat := 0
def PySem.W.Fast.tw10295157134404795084 : Nat := 0
def PySem.W.Fast.tw11161316952910645964 : Nat := 0
def PySem.W.Fast.tw17727201795541673708 : Nat := 0
def PySem.W.Fast.tw6642302908413880076 : Nat := 0
def PySem.W.Fast.tw2521771227657175852 : Nat := 0
def PySem.W.Fast.tw3730306904305313580 : Nat := 0
def PySem.W.Fast.tw354479728803944268 : Nat := 0
def PySem.W.Fast.tw3112808764767379276 : Nat := 0
def PySem.W.Fast.tw15070113764569702220 : Nat := 0
def PySem.W.Fast.tw10245803019155006284 : Nat := 0
def PySem.W.Fast.tw17695860560765907788 : Nat := 0
def PySem.W.Fast.tw10692946678406645773 : Nat := 0
def PySem.W.Fast.tw2485868457432969229 : Nat := 0
def PySem.W.Fast.tw9218004548764073005 : Nat := 0
def PySem.W.Fast.tw7067971456290209869 : Nat := 0
def PySem.W.Fast.tw4246879910477831277 : Nat := 0
def PySem.W.Fast.tw7152239255766976621 : Nat := 0
def PySem.W.Fast.tw6660972760948684973 : Nat := 0
def PySem.W.Fast.tw10293488042074780909 : Nat := 0
def PySem.W.Fast.tw12495467642628017421 : Nat := 0
def PySem.W.Fast.tw17438927363784457485 : Nat := 0
def PySem.W.Fast.tw4811278969296045325 : Nat := 0
def PySem.W.Fast.tw11343175483690915149 : Nat := 0
def PySem.W.Fast.tw7716378419104773485 : Nat := 0
def PySem.W.Fast.tw3712687907716426125 : Nat := 0
def PySem.W.Fast.tw8321570130015724973 : Nat := 0
def PySem.W.Fast.tw14972864559141305773 : Nat := 0
def PySem.W.Fast.tw6149333732029129133 : Nat := 0
def PySem.W.Fast.tw11532417878686263725 : Nat := 0
def PySem.W.Fast.tw10643569644997773773 : Nat := 0
def PySem.W.Fast.tw6885821423467146701 : Nat := 0
def PySem.W.Fast.tw3828999841307457997 : Nat := 0
def PySem.W.Fast.tw8743896532652725741 : Nat := 0
def PySem.W.Fast.tw2110144890777409005 : Nat := 0
def PySem.W.Fast.tw12314785537123110381 : Nat := 0
def PySem.W.Fast.tw8072368580095858157 : Nat := 0
def PySem.W.Fast.tw16802167332899488301 : Nat := 0
def PySem.W.Fast.tw5880199838482008621 : Nat := 0
def PySem.W.Fast.tw17428544104718566989 : Nat := 0
def PySem.W.Fast.tw9138569038780599885 : Nat := 0
def PySem.W.Fast.tw7823463586109791821 : Nat := 0
def PySem.W.Fast.tw10158096861351978573 : Nat := 0
def PySem.W.Fast.tw17862995329071001165 : Nat := 0
def PySem.W.Fast.tw13665563356972466765 : Nat := 0
def PySem.W.Fast.tw5511813283033335373 : Nat := 0
def PySem.W.Fast.tw8388865573013085805 : Nat := 0
def PySem.W.Fast.tw16189486835144395405 : Nat := 0
def PySem.W.Fast.tw4334445828485310093 : Nat := 0
def PySem.W.Fast.tw11074684548377229 : Nat := 0
def PySem.W.Fast.tw12124794703514743469 : Nat := 0
def PySem.W.Fast.tw2153990204220555949 : Nat := 0
def PySem.W.Fast.tw14213491621161958061 : Nat := 0
def PySem.W.Fast.tw11506523499817505485 : Nat := 0
def PySem.W.Fast.tw6659842821094445773 : Nat := 0
def PySem.W.Fast.tw8174004817290869485 : Nat := 0
def PySem.W.Fast.tw8865272435173676781 : Nat := 0
def PySem.W.Fast.tw7850447675211926285 : Nat := 0
def PySem.W.Fast.tw15501956255977389869 : Nat := 0
def PySem.W.Fast.tw7503514158937084749 : Nat := 0
def PySem.W.Fast.tw10395501231378411405 : Nat := 0
def PySem.W.Fast.tw9050802170981659533 : Nat := 0
def PySem.W.Fast.tw5492539780843844493 : Nat := 0
def PySem.W.Fast.tw11512070212918986637 : Nat := 0
def PySem.W.Fast.tw14317269091020807117 : Nat := 0
def PySem.W.Fast.tw11292883763573203917 : Nat := 0
def PySem.W.Fast.tw16943798337052234701 : Nat := 0
def PySem.W.Fast.tw12227792339093354445 : Nat := 0
def PySem.W.Fast.tw1069345858681863117 : Nat := 0
def PySem.W.Fast.tw17797390441718824941 : Nat := 0
def PySem.W.Fast.tw9176517508659971118 : Nat := 0
def PySem.W.Fast.tw15412554870674463822 : Nat := 0
def PySem.W.Fast.tw266630745757565006 : Nat := 0
def PySem.W.Fast.tw17953466699704263790 : Nat := 0
def PySem.W.Fast.tw3583158988390191246 : Nat := 0
def PySem.W.Fast.tw3532977881129406638 : Nat := 0
def PySem.W.Fast.tw3287445964067334318 : Nat := 0
def PySem.W.Fast.tw3535013265211946158 : Nat := 0
def PySem.W.Fast.tw8106062415374760174 : Nat := 0
def PySem.W.Fast.tw17973191816479203598 : Nat := 0
def PySem.W.Fast.tw5262293144968105262 : Nat := 0
def PySem.W.Fast.tw10617010573505375534 : Nat := 0
def PySem.W.Fast.tw6822543652147649934 : Nat := 0
def PySem.W.Fast.tw17111328078825458094 : Nat := 0
def PySem.W.Fast.tw10152104481003380142 : Nat := 0
def PySem.W.Fast.tw4671337885171584462 : Nat := 0
def PySem.W.Fast.tw9545564444264337870 : Nat := 0
def PySem.W.Fast.tw6653081647031139790 : Nat := 0
def PySem.W.Fast.tw3868691833097804238 : Nat := 0
def PySem.W.Fast.tw68017600414987822 : Nat := 0
def PySem.W.Fast.tw8519357238827543086 : Nat := 0
def PySem.W.Fast.tw1980381353554569806 : Nat := 0
def PySem.W.Fast.tw91790965081683566 : Nat := 0
def PySem.W.Fast.tw14910000533440474766 : Nat := 0
def PySem.W.Fast.tw4240170837695288974 : Nat := 0
def PySem.W.Fast.tw2485570377111590574 : Nat := 0
def PySem.W.Fast.tw6070038115865742030 : Nat := 0
def PySem.W.Fast.tw18435199517353305806 : Nat := 0
def PySem.W.Fast.tw381096883307084494 : Nat := 0
def PySem.W.Fast.tw17564979138278435566 : Nat := 0
def PySem.W.Fast.tw17646138259233427182 : Nat := 0
def PySem.W.Fast.tw10292470973368394510 : Nat := 0
def PySem.W.Fast.tw15534263699845981998 : Nat := 0
def PySem.W.Fast.tw12241091850030398254 : Nat := 0
def PySem.W.Fast.tw991228776736672558 : Nat := 0
def PySem.W.Fast.tw13792538208315306798 : Nat := 0
def PySem.W.Fast.tw1395028473773629326 : Nat := 0
def PySem.W.Fast.tw4541188292162946990 : Nat := 0
def PySem.W.Fast.tw17178688326992286638 : Nat := 0
def PySem.W.Fast.tw12733714542926427086 : Nat := 0
def PySem.W.Fast.tw6316818880773103631 : Nat := 0
def PySem.W.Fast.tw5138635613627102255 : Nat := 0
def PySem.W.Fast.tw10023410368672875631 : Nat := 0
def PySem.W.Fast.tw2426847996822833295 : Nat := 0
def PySem.W.Fast.tw12949982794025185455 : Nat := 0
def PySem.W.Fast.tw10156930181876413647 : Nat := 0
def PySem.W.Fast.tw9232756412800165103 : Nat := 0
def PySem.W.Fast.tw12770666103267098959 : Nat := 0
def PySem.W.Fast.tw16266147660481893711 : Nat := 0
def PySem.W.Fast.tw17638671020432665935 : Nat := 0
def PySem.W.Fast.tw5401330965804271951 : Nat := 0
def PySem.W.Fast.tw7785100707951701327 : Nat := 0
def PySem.W.Fast.tw17269106507293423951 : Nat := 0
def PySem.W.Fast.tw16822805680621916527 : Nat := 0
def PySem.W.Fast.tw13479282816024865135 : Nat := 0
def PySem.W.Fast.tw8828717033817275791 : Nat := 0
def PySem.W.Fast.tw123657603964648879 : Nat := 0
def PySem.W.Fast.tw1259265361540743631 : Nat := 0
def PySem.W.Fast.tw15357582977185912271 : Nat := 0
def PySem.W.Fast.tw3444725586517054927 : Nat := 0
def PySem.W.Fast.tw4490069097430893039 : Nat := 0
def PySem.W.Fast.tw17659350449199437295 : Nat := 0
def PySem.W.Fast.tw5365636787712715247 : Nat := 0
def PySem.W.Fast.tw778329936029484559 : Nat := 0
def PySem.W.Fast.tw15497515425343515151 : Nat := 0
def PySem.W.Fast.tw8869493469392945679 : Nat := 0
def PySem.W.Fast.tw7071190884732871247 : Nat := 0
def PySem.W.Fast.tw15613017331962330703 : Nat := 0
def PySem.W.Fast.tw5115945354813988431 : Nat := 0
def PySem.W.Fast.tw5656383118175761999 : Nat := 0
def PySem.W.Fast.tw4658228988223423087 : Nat := 0
def PySem.W.Fast.tw9261705279694826095 : Nat := 0
def PySem.W.Fast.tw331248966450932431 : Nat := 0
def PySem.W.Fast.tw6472415285965400815 : Nat := 0
def PySem.W.Fast.tw9906857153508661039 : Nat := 0
def PySem.W.Fast.tw9916892904704801679 : Nat := 0
def PySem.W.Fast.tw5716410936001705935 : Nat := 0
def PySem.W.Fast.tw15867927770575571951 : Nat := 0
def PySem.W.Fast.tw13328507456254193647 : Nat := 0
def PySem.W.Fast.tw4409442073762805743 : Nat := 0
def PySem.W.Fast.tw13755899234102123536 : Nat := 0
def PySem.W.Fast.tw16162081468646878224 : Nat := 0
def PySem.W.Fast.tw1682427656986557456 : Nat := 0
def PySem.W.Fast.tw5113568885848277040 : Nat := 0
def PySem.W.Fast.tw11926756032047883376 : Nat := 0
def PySem.W.Fast.tw12400250255516069008 : Nat := 0
def PySem.W.Fast.tw13688009237815268528 : Nat := 0
def PySem.W.Fast.tw4074087204022691056 : Nat := 0
def PySem.W.Fast.tw17911519873181330672 : Nat := 0
def PySem.W.Fast.tw18259169776453895440 : Nat := 0
def PySem.W.Fast.tw14801434073720313104 : Nat := 0
def PySem.W.Fast.tw8724977834887491888 : Nat := 0
def PySem.W.Fast.tw11237040069625528624 : Nat := 0
def PySem.W.Fast.tw2238454208082951632 : Nat := 0
def PySem.W.Fast.tw17520191735662510608 : Nat := 0
def PySem.W.Fast.tw7794325089085086224 : Nat := 0
def PySem.W.Fast.tw11801530271985097232 : Nat := 0
def PySem.W.Fast.tw13589065335380697616 : Nat := 0
def PySem.W.Fast.tw3525143391009052208 : Nat := 0
def PySem.W.Fast.tw1499029931208682064 : Nat := 0
def PySem.W.Fast.tw637274484979111568 : Nat := 0
def PySem.W.Fast.tw8218677370693784272 : Nat := 0
def PySem.W.Fast.tw14462675262097408720 : Nat := 0
def PySem.W.Fast.tw9127066621138957008 : Nat := 0
def PySem.W.Fast.tw2551512190883442416 : Nat := 0
def PySem.W.Fast.tw16840276994616027888 : Nat := 0
def PySem.W.Fast.tw13255842912643188496 : Nat := 0
def PySem.W.Fast.tw15926998677205535504 : Nat := 0
def PySem.W.Fast.tw417061261591488304 : Nat := 0
def PySem.W.Fast.tw2041609400434945840 : Nat := 0
def PySem.W.Fast.tw14043284102020592432 : Nat := 0
def PySem.W.Fast.tw16832600113675773808 : Nat := 0
def PySem.W.Fast.tw15279771404734348240 : Nat := 0
def PySem.W.Fast.tw10746477383695171601 : Nat := 0
def PySem.W.Fast.tw16010648420700294193 : Nat := 0
def PySem.W.Fast.tw14805943694586339409 : Nat := 0
def PySem.W.Fast.tw12773131539365037169 : Nat := 0
def PySem.W.Fast.tw2681951788912168113 : Nat := 0
def PySem.W.Fast.tw9025486416985474289 : Nat := 0
def PySem.W.Fast.tw18131853700548770097 : Nat := 0
def PySem.W.Fast.tw11858145508100689233 : Nat := 0
def PySem.W.Fast.tw13211255265092206993 : Nat := 0
def PySem.W.Fast.tw16125884180010581425 : Nat := 0
def PySem.W.Fast.tw6935889696693068305 : Nat := 0
def PySem.W.Fast.tw14743417111613567537 : Nat := 0
def PySem.W.Fast.tw4588693996009165393 : Nat := 0
def PySem.W.Fast.tw18005950909470890577 : Nat := 0
def PySem.W.Fast.tw11185497419786473073 : Nat := 0
def PySem.W.Fast.tw11691418382846680689 : Nat := 0
def PySem.W.Fast.tw11267605677251745457 : Nat := 0
def PySem.W.Fast.tw74173032494686929 : Nat := 0
def PySem.W.Fast.tw6242604107598980817 : Nat := 0
def PySem.W.Fast.tw10029895831928803057 : Nat := 0
def PySem.W.Fast.tw17154314940049071921 : Nat := 0
def PySem.W.Fast.tw1062413093836966705 : Nat := 0
def PySem.W.Fast.tw1092353284726384433 : Nat := 0
def PySem.W.Fast.tw7162837982325143345 : Nat := 0
def PySem.W.Fast.tw8928426767718497105 : Nat := 0
def PySem.W.Fast.tw4457202991403948913 : Nat := 0
def PySem.W.Fast.tw17423900643381677969 : Nat := 0
def PySem.W.Fast.tw6732504396152348561 : Nat := 0
def PySem.W.Fast.tw6767834352544356273 : Nat := 0
def PySem.W.Fast.tw6281020552157121554 : Nat := 0
def PySem.W.Fast.tw10734790427881107474 : Nat := 0
def PySem.W.Fast.tw11914234483686418514 : Nat := 0
def PySem.W.Fast.tw1307776240651251794 : Nat := 0
def PySem.W.Fast.tw947126369893731410 : Nat := 0
def PySem.W.Fast.tw4701245608726056050 : Nat := 0
def PySem.W.Fast.tw15112608324466462834 : Nat := 0
def PySem.W.Fast.tw3243586801956161682 : Nat := 0
def PySem.W.Fast.tw2023106694600659090 : Nat := 0
def PySem.W.Fast.tw3271605582639573138 : Nat := 0
def PySem.W.Fast.tw6930085751606020274 : Nat := 0
def PySem.W.Fast.tw170539985570157746 : Nat := 0
def PySem.W.Fast.tw5660901975872872658 : Nat := 0
def PySem.W.Fast.tw7934878145995924722 : Nat := 0
def PySem.W.Fast.tw9703245670408789266 : Nat := 0
def PySem.W.Fast.tw2731840920270459154 : Nat := 0
def PySem.W.Fast.tw735006022146694482 : Nat := 0
def PySem.W.Fast.tw11831267219424226642 : Nat := 0
def PySem.W.Fast.tw11383262300324043186 : Nat := 0
def PySem.W.Fast.tw14477384962931769778 : Nat := 0
def PySem.W.Fast.tw2977443701812940210 : Nat := 0
def PySem.W.Fast.tw11027660291539952050 : Nat := 0
def PySem.W.Fast.tw3814270186783349202 : Nat := 0
def PySem.W.Fast.tw5885378448794038738 : Nat := 0
def PySem.W.Fast.tw10767173298759513586 : Nat := 0
def PySem.W.Fast.tw15977768610084330002 : Nat := 0
def PySem.W.Fast.tw6385742570274464274 : Nat := 0
def PySem.W.Fast.tw14072854741786887730 : Nat := 0
def PySem.W.Fast.tw6174416457897258546 : Nat := 0
def PySem.W.Fast.tw9165071528989651570 : Nat := 0
def PySem.W.Fast.tw18237438624303250034 : Nat := 0
def PySem.W.Fast.tw7304904463316771474 : Nat := 0
def PySem.W.Fast.tw9983264719830382226 : Nat := 0
def PySem.W.Fast.tw17560183621503129298 : Nat := 0
def PySem.W.Fast.tw6368770635809765074 : Nat := 0
def PySem.W.Fast.tw13015838443920408274 : Nat := 0
def PySem.W.Fast.tw351381945980737234 : Nat := 0
def PySem.W.Fast.tw14248981411093911282 : Nat := 0
def PySem.W.Fast.tw11453784870526649106 : Nat := 0
def PySem.W.Fast.tw1439214238011884306 : Nat := 0
def PySem.W.Fast.tw14259524662553643858 : Nat := 0
def PySem.W.Fast.tw10875502401635460978 : Nat := 0
def PySem.W.Fast.tw2651661815444520818 : Nat := 0
def PySem.W.Fast.tw2750500559634980754 : Nat := 0
def PySem.W.Fast.tw7107194329795749778 : Nat := 0
def PySem.W.Fast.tw11768639882300878738 : Nat := 0
def PySem.W.Fast.tw18197991101693763506 : Nat := 0
def PySem.W.Fast.tw6670476289654415282 : Nat := 0
def PySem.W.Fast.tw2219680787216534482 : Nat := 0
def PySem.W.Fast.tw2001690456853541842 : Nat := 0
def PySem.W.Fast.tw17776356891909112851 : Nat := 0
def PySem.W.Fast.tw12522542796583957555 : Nat := 0
def PySem.W.Fast.tw9800014667563576403 : Nat := 0
def PySem.W.Fast.tw11410578257103735891 : Nat := 0
def PySem.W.Fast.tw8742820680994029715 : Nat := 0
def PySem.W.Fast.tw14541985259738923155 : Nat := 0
def PySem.W.Fast.tw2936681966771249331 : Nat := 0
def PySem.W.Fast.tw4267915727019292851 : Nat := 0
def PySem.W.Fast.tw840692777656023219 : Nat := 0
def PySem.W.Fast.tw7594863911220379859 : Nat := 0
def PySem.W.Fast.tw14625447419715310803 : Nat := 0
def PySem.W.Fast.tw2886122621420287251 : Nat := 0
def PySem.W.Fast.tw13485947831088528659 : Nat := 0
def PySem.W.Fast.tw16420089523023854899 : Nat := 0
def PySem.W.Fast.tw4252113687994738003 : Nat := 0
def PySem.W.Fast.tw15301853510633082195 : Nat := 0
def PySem.W.Fast.tw931115741833514323 : Nat := 0
def PySem.W.Fast.tw13635633619698876787 : Nat := 0
def PySem.W.Fast.tw14079736725473161587 : Nat := 0
def PySem.W.Fast.tw10280143254144892307 : Nat := 0
def PySem.W.Fast.tw10801562998986163603 : Nat := 0
def PySem.W.Fast.tw8984554255150048659 : Nat := 0
def PySem.W.Fast.tw11488035535879569875 : Nat := 0
def PySem.W.Fast.tw11817249618619510259 : Nat := 0
def PySem.W.Fast.tw4135531094566027763 : Nat := 0
def PySem.W.Fast.tw6390556156400094739 : Nat := 0
def PySem.W.Fast.tw8090962144729770579 : Nat := 0
def PySem.W.Fast.tw4214856618482002515 : Nat := 0
def PySem.W.Fast.tw7234099059622152851 : Nat := 0
def PySem.W.Fast.tw3540179476679782067 : Nat := 0
def PySem.W.Fast.tw14250969025766231763 : Nat := 0
def PySem.W.Fast.tw15099369829912322771 : Nat := 0
def PySem.W.Fast.tw2832050647827370707 : Nat := 0
def PySem.W.Fast.tw14113751875213577971 : Nat := 0
def PySem.W.Fast.tw15531089312805265203 : Nat := 0
def PySem.W.Fast.tw9544462525491703603 : Nat := 0
def PySem.W.Fast.tw1378770265912651635 : Nat := 0
def PySem.W.Fast.tw7045045839175052179 : Nat := 0
def PySem.W.Fast.tw12587142313939802035 : Nat := 0
def PySem.W.Fast.tw12766934007589989331 : Nat := 0
def PySem.W.Fast.tw799672926317769683 : Nat := 0
def PySem.W.Fast.tw13593993391078002675 : Nat := 0
def PySem.W.Fast.tw5260323207408015347 : Nat := 0
def PySem.W.Fast.tw1927528011803676692 : Nat := 0
def PySem.W.Fast.tw7118058911621967892 : Nat := 0
def PySem.W.Fast.tw18141564854392041524 : Nat := 0
def PySem.W.Fast.tw3227209482166517844 : Nat := 0
def PySem.W.Fast.tw7502499172774776948 : Nat := 0
def PySem.W.Fast.tw14004620120342406260 : Nat := 0
def PySem.W.Fast.tw11330782082169962644 : Nat := 0
def PySem.W.Fast.tw9358948413678111892 : Nat := 0
def PySem.W.Fast.tw16599386020289940660 : Nat := 0
def PySem.W.Fast.tw4824237194545978548 : Nat := 0
def PySem.W.Fast.tw8618154393717739732 : Nat := 0
def PySem.W.Fast.tw1019181929363655892 : Nat := 0
def PySem.W.Fast.tw7214006836059399380 : Nat := 0
def PySem.W.Fast.tw16125903078574987508 : Nat := 0
def PySem.W.Fast.tw12464541052298180852 : Nat := 0
def PySem.W.Fast.tw16219472657243849972 : Nat := 0
def PySem.W.Fast.tw3548817911284915444 : Nat := 0
def PySem.W.Fast.tw1680828819466876180 : Nat := 0
def PySem.W.Fast.tw10786458105497858356 : Nat := 0
def PySem.W.Fast.tw15103711395218771284 : Nat := 0
def PySem.W.Fast.tw9456367206144163220 : Nat := 0
def PySem.W.Fast.tw445405553887743412 : Nat := 0
def PySem.W.Fast.tw2315140459643049396 : Nat := 0
def PySem.W.Fast.tw4925107602313825716 : Nat := 0
def PySem.W.Fast.tw8348734132699691444 : Nat := 0
def PySem.W.Fast.tw7497574040003901908 : Nat := 0
def PySem.W.Fast.tw16000384535262365172 : Nat := 0
def PySem.W.Fast.tw8536718200376483316 : Nat := 0
def PySem.W.Fast.tw1708565496105345556 : Nat := 0
def PySem.W.Fast.tw1954464641246747156 : Nat := 0
def PySem.W.Fast.tw11215666670185252436 : Nat := 0
def PySem.W.Fast.tw10517406378867749460 : Nat := 0
def PySem.W.Fast.tw3245234592979110548 : Nat := 0
def PySem.W.Fast.tw13864556689624901364 : Nat := 0
def PySem.W.Fast.tw11817008789286417140 : Nat := 0
def PySem.W.Fast.tw12692778264026391348 : Nat := 0
def PySem.W.Fast.tw10754935541862635380 : Nat := 0
def PySem.W.Fast.tw11361211549314158484 : Nat := 0
def PySem.W.Fast.tw3118649947014944660 : Nat := 0
def PySem.W.Fast.tw17538215018184216500 : Nat := 0
def PySem.W.Fast.tw16319476974802286516 : Nat := 0
def PySem.W.Fast.tw9423245150805314484 : Nat := 0
def PySem.W.Fast.tw12106199874805635028 : Nat := 0
def PySem.W.Fast.tw6847033347754236884 : Nat := 0
def PySem.W.Fast.tw7253192955231988692 : Nat := 0
def PySem.W.Fast.tw7766415765199618004 : Nat := 0
def PySem.W.Fast.tw11133555640574167028 : Nat := 0
def PySem.W.Fast.tw5778287136490057716 : Nat := 0
def PySem.W.Fast.tw3751330279158157333 : Nat := 0
def PySem.W.Fast.tw16319115922748132373 : Nat := 0
def PySem.W.Fast.tw5085520470912956437 : Nat := 0
def PySem.W.Fast.tw16014926064193278005 : Nat := 0
def PySem.W.Fast.tw16489270022211218549 : Nat := 0
def PySem.W.Fast.tw5996400068327237749 : Nat := 0
def PySem.W.Fast.tw2453142593464613013 : Nat := 0
def PySem.W.Fast.tw10218606610362784917 : Nat := 0
def PySem.W.Fast.tw8132371385344595125 : Nat := 0
def PySem.W.Fast.tw4812872127649816789 : Nat := 0
def PySem.W.Fast.tw5704141696350056661 : Nat := 0
def PySem.W.Fast.tw3926952340284995797 : Nat := 0
def PySem.W.Fast.tw5888839583344222517 : Nat := 0
def PySem.W.Fast.tw741610859027265845 : Nat := 0
def PySem.W.Fast.tw12585515102415073621 : Nat := 0
def PySem.W.Fast.tw281375257345738069 : Nat := 0
def PySem.W.Fast.tw14387919863879627093 : Nat := 0
def PySem.W.Fast.tw7628265041361474933 : Nat := 0
def PySem.W.Fast.tw10035614137721599349 : Nat := 0
def PySem.W.Fast.tw15242196680341407093 : Nat := 0
def PySem.W.Fast.tw6306436606746715509 : Nat := 0
def PySem.W.Fast.tw3110410252705261973 : Nat := 0
def PySem.W.Fast.tw9275226437980352917 : Nat := 0
def PySem.W.Fast.tw14764517456363678165 : Nat := 0
def PySem.W.Fast.tw5669093715748889077 : Nat := 0
def PySem.W.Fast.tw17266363534790272533 : Nat := 0
def PySem.W.Fast.tw79690729443651093 : Nat := 0
def PySem.W.Fast.tw11984601252101978645 : Nat := 0
def PySem.W.Fast.tw8468107410368992821 : Nat := 0
def PySem.W.Fast.tw953649805136049781 : Nat := 0
def PySem.W.Fast.tw9113085821801374357 : Nat := 0
def PySem.W.Fast.tw12559764882979221141 : Nat := 0
def PySem.W.Fast.tw4112478860043004597 : Nat := 0
def PySem.W.Fast.tw14450141925922228917 : Nat := 0
def PySem.W.Fast.tw8865974930089447125 : Nat := 0
def PySem.W.Fast.tw11851286036665657045 : Nat := 0
def PySem.W.Fast.tw4299636764743652085 : Nat := 0
def PySem.W.Fast.tw10881924961320036117 : Nat := 0
def PySem.W.Fast.tw9539358064844026709 : Nat := 0
def PySem.W.Fast.tw177878022752515925 : Nat := 0
def PySem.W.Fast.tw12529936682030294869 : Nat := 0
def PySem.W.Fast.tw2342976663529112437 : Nat := 0
def PySem.W.Fast.tw13260468815920416629 : Nat := 0
def PySem.W.Fast.tw3035979913915561845 : Nat := 0
def PySem.W.Fast.tw959072758561012597 : Nat := 0
def PySem.W.Fast.tw4366473438332093333 : Nat := 0
def PySem.W.Fast.tw5574144813622595509 : Nat := 0
def PySem.W.Fast.tw11980712881332822005 : Nat := 0
def PySem.W.Fast.tw3472867704525651990 : Nat := 0
def PySem.W.Fast.tw10674023110493816982 : Nat := 0
def PySem.W.Fast.tw13230551050961156246 : Nat := 0
def PySem.W.Fast.tw15383203993905749174 : Nat := 0
def PySem.W.Fast.tw9290855541945896150 : Nat := 0
def PySem.W.Fast.tw8825539356515150038 : Nat := 0
def PySem.W.Fast.tw1105574084069416182 : Nat := 0
def PySem.W.Fast.tw2415850379729308950 : Nat := 0
def PySem.W.Fast.tw14738347363993429270 : Nat := 0
def PySem.W.Fast.tw2563690341001462070 : Nat := 0
def PySem.W.Fast.tw1615129131844231478 : Nat := 0
def PySem.W.Fast.tw14759660546193321270 : Nat := 0
def PySem.W.Fast.tw1827214699159392598 : Nat := 0
def PySem.W.Fast.tw8922632667753685334 : Nat := 0
def PySem.W.Fast.tw17672595055161288022 : Nat := 0
def PySem.W.Fast.tw6075801703488373078 : Nat := 0
def PySem.W.Fast.tw13669155234987548022 : Nat := 0
def PySem.W.Fast.tw9922868911443226998 : Nat := 0
def PySem.W.Fast.tw17974012909770330486 : Nat := 0
def PySem.W.Fast.tw17646115469510968758 : Nat := 0
def PySem.W.Fast.tw15085661035943219638 : Nat := 0
def PySem.W.Fast.tw792950341800287670 : Nat := 0
def PySem.W.Fast.tw14539770566399497686 : Nat := 0
def PySem.W.Fast.tw10897846619192541654 : Nat := 0
def PySem.W.Fast.tw13519491371191264726 : Nat := 0
def PySem.W.Fast.tw12315467703867359734 : Nat := 0
def PySem.W.Fast.tw18004765141942197750 : Nat := 0
def PySem.W.Fast.tw9680289186652927510 : Nat := 0
def PySem.W.Fast.tw18004373335746173462 : Nat := 0
def PySem.W.Fast.tw11748109600841404022 : Nat := 0
def PySem.W.Fast.tw1059665683967294070 : Nat := 0
def PySem.W.Fast.tw5690667608679631478 : Nat := 0
def PySem.W.Fast.tw17359718870333263510 : Nat := 0
def PySem.W.Fast.tw10184263755261388438 : Nat := 0
def PySem.W.Fast.tw14203937531391554198 : Nat := 0
def PySem.W.Fast.tw17873510067036152470 : Nat := 0
def PySem.W.Fast.tw10472406696180543126 : Nat := 0
def PySem.W.Fast.tw12807973533599419062 : Nat := 0
def PySem.W.Fast.tw18192562779543293622 : Nat := 0
def PySem.W.Fast.tw5507617673469622 : Nat := 0
def PySem.W.Fast.tw10388471785582780086 : Nat := 0
def PySem.W.Fast.tw2419432202543464118 : Nat := 0
def PySem.W.Fast.tw5380735684325710550 : Nat := 0
def PySem.W.Fast.tw6765232520801083094 : Nat := 0
def PySem.W.Fast.tw11443158163701659350 : Nat := 0
def PySem.W.Fast.tw3981047428144733942 : Nat := 0
def PySem.W.Fast.tw2744052701885324054 : Nat := 0
def PySem.W.Fast.tw5550551711989785366 : Nat := 0
def PySem.W.Fast.tw4621268058611207990 : Nat := 0
def PySem.W.Fast.tw3027798155996128054 : Nat := 0
def PySem.W.Fast.tw7992903620059718454 : Nat := 0
def PySem.W.Fast.tw112527678580869974 : Nat := 0
def PySem.W.Fast.tw1188522193537654614 : Nat := 0
def PySem.W.Fast.tw1700527505569097590 : Nat := 0
def PySem.W.Fast.tw3105282655923225462 : Nat := 0
def PySem.W.Fast.tw202912704703926198 : Nat := 0
def PySem.W.Fast.tw767541848229091286 : Nat := 0
def PySem.W.Fast.tw10517112267120483318 : Nat := 0
def PySem.W.Fast.tw16857748508551653399 : Nat := 0
def PySem.W.Fast.tw9371282914144353303 : Nat := 0
def PySem.W.Fast.tw5669600483294086199 : Nat := 0
def PySem.W.Fast.tw16735054942805943351 : Nat := 0
def PySem.W.Fast.tw12107697555939779671 : Nat := 0
def PySem.W.Fast.tw13242456795979768919 : Nat := 0
def PySem.W.Fast.tw16360466442498774199 : Nat := 0
def PySem.W.Fast.tw158867585793907927 : Nat := 0
def PySem.W.Fast.tw7754710690310121687 : Nat := 0
def PySem.W.Fast.tw8471781213405452535 : Nat := 0
def PySem.W.Fast.tw17531186607746180343 : Nat := 0
def PySem.W.Fast.tw7502527552652345623 : Nat := 0
def PySem.W.Fast.tw15747319188000347415 : Nat := 0
def PySem.W.Fast.tw3308846152947212631 : Nat := 0
def PySem.W.Fast.tw9276317839019918679 : Nat := 0
def PySem.W.Fast.tw260164286192310615 : Nat := 0
def PySem.W.Fast.tw2273762325989251415 : Nat := 0
def PySem.W.Fast.tw17271717200208579959 : Nat := 0
def PySem.W.Fast.tw16784784595608873367 : Nat := 0
def PySem.W.Fast.tw12701882170271006103 : Nat := 0
def PySem.W.Fast.tw17565246452448925143 : Nat := 0
def PySem.W.Fast.tw9538379665036290519 : Nat := 0
def PySem.W.Fast.tw5879058174219737559 : Nat := 0
def PySem.W.Fast.tw16142649360376861175 : Nat := 0
def PySem.W.Fast.tw17748750320235290103 : Nat := 0
def PySem.W.Fast.tw10504616486115276279 : Nat := 0
def PySem.W.Fast.tw6172273263389079031 : Nat := 0
def PySem.W.Fast.tw11108084849147384343 : Nat := 0
def PySem.W.Fast.tw16412961153066374679 : Nat := 0
def PySem.W.Fast.tw5990179208724274711 : Nat := 0
def PySem.W.Fast.tw16687509531902673463 : Nat := 0
def PySem.W.Fast.tw10918960022037172791 : Nat := 0
def PySem.W.Fast.tw5156519937701516855 : Nat := 0
def PySem.W.Fast.tw8565509011589846583 : Nat := 0
def PySem.W.Fast.tw8656686957528244791 : Nat := 0
def PySem.W.Fast.tw6279801129099619895 : Nat := 0
def PySem.W.Fast.tw3594354909792933463 : Nat := 0
def PySem.W.Fast.tw2765151202578720375 : Nat := 0
def PySem.W.Fast.tw15124931563582231191 : Nat := 0
def PySem.W.Fast.tw7338159675748944567 : Nat := 0
def PySem.W.Fast.tw10776953036292455095 : Nat := 0
def PySem.W.Fast.tw3803230020452976343 : Nat := 0
def PySem.W.Fast.tw8832517698489559767 : Nat := 0
def PySem.W.Fast.tw6295307803472954167 : Nat := 0
def PySem.W.Fast.tw4100982577502568247 : Nat := 0
def PySem.W.Fast.tw8219874210145337143 : Nat := 0
def PySem.W.Fast.tw11062343773458436983 : Nat := 0
def PySem.W.Fast.tw14166651332435787671 : Nat := 0
def PySem.W.Fast.tw7133895983146340279 : Nat := 0
def PySem.W.Fast.tw1973497798234510263 : Nat := 0
def PySem.W.Fast.tw4799241817632194487 : Nat := 0
def PySem.W.Fast.tw9964579074139244471 : Nat := 0
def PySem.W.Fast.tw7671591562057935799 : Nat := 0
def PySem.W.Fast.tw12269399542313873335 : Nat := 0
def PySem.W.Fast.tw9100077339204688855 : Nat := 0
def PySem.W.Fast.tw2214428079224223703 : Nat := 0
def PySem.W.Fast.tw6411199633950947319 : Nat := 0
def PySem.W.Fast.tw3436397443984317431 : Nat := 0
def PySem.W.Fast.tw9106149456748758040 : Nat := 0
def PySem.W.Fast.tw7774581589886652472 : Nat := 0
def PySem.W.Fast.tw6730706548380348504 : Nat := 0
def PySem.W.Fast.tw7377740271201742936 : Nat := 0
def PySem.W.Fast.tw14797571951353595000 : Nat := 0
def PySem.W.Fast.tw13567019839230584952 : Nat := 0
def PySem.W.Fast.tw18140733669258775672 : Nat := 0
def PySem.W.Fast.tw990957347954081944 : Nat := 0
def PySem.W.Fast.tw18293446212871252120 : Nat := 0
def PySem.W.Fast.tw1852850908528502936 : Nat := 0
def PySem.W.Fast.tw9759047185552943288 : Nat := 0
def PySem.W.Fast.tw887821927810942168 : Nat := 0
def PySem.W.Fast.tw9939935300599273752 : Nat := 0
def PySem.W.Fast.tw8869976984173933848 : Nat := 0
def PySem.W.Fast.tw13322102320602761528 : Nat := 0
def PySem.W.Fast.tw17205337333080563032 : Nat := 0
def PySem.W.Fast.tw15218905545793361240 : Nat := 0
def PySem.W.Fast.tw12394828875193447768 : Nat := 0
def PySem.W.Fast.tw6191649204188714392 : Nat := 0
def PySem.W.Fast.tw6295191515358704056 : Nat := 0
def PySem.W.Fast.tw5807432974592038328 : Nat := 0
def PySem.W.Fast.tw3008069941615513048 : Nat := 0
def PySem.W.Fast.tw4871300040964499960 : Nat := 0
def PySem.W.Fast.tw16571216811758023160 : Nat := 0
def PySem.W.Fast.tw8016212563953732120 : Nat := 0
def PySem.W.Fast.tw12317306712937715224 : Nat := 0
def PySem.W.Fast.tw16939698945568710200 : Nat := 0
def PySem.W.Fast.tw1049235884410821176 : Nat := 0
def PySem.W.Fast.tw58516997944600152 : Nat := 0
def PySem.W.Fast.tw8018755085240011384 : Nat := 0
def PySem.W.Fast.tw17031219906310127224 : Nat := 0
def PySem.W.Fast.tw1610371899485977208 : Nat := 0
def PySem.W.Fast.tw696511136080402072 : Nat := 0
def PySem.W.Fast.tw16546966574560485016 : Nat := 0
def PySem.W.Fast.tw15739645825263201944 : Nat := 0
def PySem.W.Fast.tw7513906676968799000 : Nat := 0
def PySem.W.Fast.tw1242636826343870264 : Nat := 0
def PySem.W.Fast.tw1234972305863791480 : Nat := 0
def PySem.W.Fast.tw16435836417678563224 : Nat := 0
def PySem.W.Fast.tw14140425005127200664 : Nat := 0
def PySem.W.Fast.tw2401691318280916920 : Nat := 0
def PySem.W.Fast.tw7224107944941460408 : Nat := 0
def PySem.W.Fast.tw15441932394440507384 : Nat := 0
def PySem.W.Fast.tw13507960093098508345 : Nat := 0
def PySem.W.Fast.tw12582155123959253049 : Nat := 0
def PySem.W.Fast.tw15786974772041734201 : Nat := 0
def PySem.W.Fast.tw7588188177483505753 : Nat := 0
def PySem.W.Fast.tw16021112008944500825 : Nat := 0
def PySem.W.Fast.tw9982767163385223289 : Nat := 0
def PySem.W.Fast.tw11930341095562831001 : Nat := 0
def PySem.W.Fast.tw12301335267347600569 : Nat := 0
def PySem.W.Fast.tw2650994932549405881 : Nat := 0
def PySem.W.Fast.tw13719483069824959769 : Nat := 0
def PySem.W.Fast.tw14049456843304915225 : Nat := 0
def PySem.W.Fast.tw11361009725623286073 : Nat := 0
def PySem.W.Fast.tw6607239719973470553 : Nat := 0
def PySem.W.Fast.tw3241033833558994265 : Nat := 0
def PySem.W.Fast.tw1892001979270559097 : Nat := 0
def PySem.W.Fast.tw1779795472352529945 : Nat := 0
def PySem.W.Fast.tw18024119333034499673 : Nat := 0
def PySem.W.Fast.tw15802869844732279417 : Nat := 0
def PySem.W.Fast.tw16856178162191047321 : Nat := 0
def PySem.W.Fast.tw18283508214661792409 : Nat := 0
def PySem.W.Fast.tw17232854905190224569 : Nat := 0
def PySem.W.Fast.tw10740748876907749081 : Nat := 0
def PySem.W.Fast.tw8925541787649591001 : Nat := 0
def PySem.W.Fast.tw4589390099423389401 : Nat := 0
def PySem.W.Fast.tw5887763495486974681 : Nat := 0
def PySem.W.Fast.tw8473527636104712953 : Nat := 0
def PySem.W.Fast.tw2395215699712907001 : Nat := 0
def PySem.W.Fast.tw1151973484502924057 : Nat := 0
def PySem.W.Fast.tw14330972095955882809 : Nat := 0
def PySem.W.Fast.tw17268314353132896057 : Nat := 0
def PySem.W.Fast.tw17119757775855749977 : Nat := 0
def PySem.W.Fast.tw15941894869552233369 : Nat := 0
def PySem.W.Fast.tw10789288629893755833 : Nat := 0
def PySem.W.Fast.tw13245982554073732057 : Nat := 0
def PySem.W.Fast.tw2366527044766738393 : Nat := 0
def PySem.W.Fast.tw11532594917501709273 : Nat := 0
def PySem.W.Fast.tw18260105400484137977 : Nat := 0
def PySem.W.Fast.tw16082446248305175545 : Nat := 0
def PySem.W.Fast.tw9485799139585211385 : Nat := 0
def PySem.W.Fast.tw15535949807539615737 : Nat := 0
def PySem.W.Fast.tw15721803561602840569 : Nat := 0
def PySem.W.Fast.tw15506954262015826970 : Nat := 0
def PySem.W.Fast.tw3211743751829455930 : Nat := 0
def PySem.W.Fast.tw6218401525689504826 : Nat := 0
def PySem.W.Fast.tw10604163654378221626 : Nat := 0
def PySem.W.Fast.tw4500149199209536602 : Nat := 0
def PySem.W.Fast.tw7217471116804159578 : Nat := 0
def PySem.W.Fast.tw13800000365910133882 : Nat := 0
def PySem.W.Fast.tw3303746382534274202 : Nat := 0
def PySem.W.Fast.tw7103589133864465562 : Nat := 0
def PySem.W.Fast.tw11228687565784979642 : Nat := 0
def PySem.W.Fast.tw12650639786446443706 : Nat := 0
def PySem.W.Fast.tw7895856015417320666 : Nat := 0
def PySem.W.Fast.tw4964558925093582042 : Nat := 0
def PySem.W.Fast.tw11477269746833975514 : Nat := 0
def PySem.W.Fast.tw6141826137214575866 : Nat := 0
def PySem.W.Fast.tw16178254773221552378 : Nat := 0
def PySem.W.Fast.tw1389792351511163162 : Nat := 0
def PySem.W.Fast.tw6574180150420543802 : Nat := 0
def PySem.W.Fast.tw11915640713775143226 : Nat := 0
def PySem.W.Fast.tw15578440115603769690 : Nat := 0
def PySem.W.Fast.tw10203484297331935610 : Nat := 0
def PySem.W.Fast.tw938772477042462074 : Nat := 0
def PySem.W.Fast.tw17875060763960194426 : Nat := 0
def PySem.W.Fast.tw5480785987317884314 : Nat := 0
def PySem.W.Fast.tw8828539323887201722 : Nat := 0
def PySem.W.Fast.tw9764068095598770618 : Nat := 0
def PySem.W.Fast.tw6190715112601144762 : Nat := 0
def PySem.W.Fast.tw15060055181166985690 : Nat := 0
def PySem.W.Fast.tw10255895086129355258 : Nat := 0
def PySem.W.Fast.tw6926119744331988474 : Nat := 0
def PySem.W.Fast.tw9217418893567205914 : Nat := 0
def PySem.W.Fast.tw4056408875758726746 : Nat := 0
def PySem.W.Fast.tw9554729427100612186 : Nat := 0
def PySem.W.Fast.tw13252282555266044538 : Nat := 0
def PySem.W.Fast.tw4239673031878770298 : Nat := 0
def PySem.W.Fast.tw5291752591556510394 : Nat := 0
def PySem.W.Fast.tw12463165259702723290 : Nat := 0
def PySem.W.Fast.tw13253339981902930682 : Nat := 0
def PySem.W.Fast.tw17331679166887905082 : Nat := 0
def PySem.W.Fast.tw1160803135627820890 : Nat := 0
def PySem.W.Fast.tw16277469325423869786 : Nat := 0
def PySem.W.Fast.tw9772743075876650874 : Nat := 0
def PySem.W.Fast.tw7444666141747566458 : Nat := 0
def PySem.W.Fast.tw1910312593823887258 : Nat := 0
def PySem.W.Fast.tw3513607311023733658 : Nat := 0
def PySem.W.Fast.tw3634142598113822650 : Nat := 0
def PySem.W.Fast.tw7360607771882429370 : Nat := 0
def PySem.W.Fast.tw9745975146102011834 : Nat := 0
def PySem.W.Fast.tw6282323939895769050 : Nat := 0
def PySem.W.Fast.tw15928566649303720954 : Nat := 0
def PySem.W.Fast.tw10904848507814894683 : Nat := 0
def PySem.W.Fast.tw6019533114479485051 : Nat := 0
def PySem.W.Fast.tw17786597869196562587 : Nat := 0
def PySem.W.Fast.tw17606870741135806619 : Nat := 0
def PySem.W.Fast.tw6800759641445332123 : Nat := 0
def PySem.W.Fast.tw14106174570485144763 : Nat := 0
def PySem.W.Fast.tw9033932345375287483 : Nat := 0
def PySem.W.Fast.tw1977296192806644923 : Nat := 0
def PySem.W.Fast.tw2355885478610347259 : Nat := 0
def PySem.W.Fast.tw13189490210586275067 : Nat := 0
def PySem.W.Fast.tw3048719135123124507 : Nat := 0
def PySem.W.Fast.tw18124962573508891931 : Nat := 0
def PySem.W.Fast.tw11882104327935630683 : Nat := 0
def PySem.W.Fast.tw13404655300878708059 : Nat := 0
def PySem.W.Fast.tw7674966714353010011 : Nat := 0
def PySem.W.Fast.tw15450105390592814427 : Nat := 0
def PySem.W.Fast.tw7957972291285688699 : Nat := 0
def PySem.W.Fast.tw14215883528424675707 : Nat := 0
def PySem.W.Fast.tw4817072928525254043 : Nat := 0
def PySem.W.Fast.tw12729692487638001083 : Nat := 0
def PySem.W.Fast.tw18054581327024957883 : Nat := 0
def PySem.W.Fast.tw6696377437988959675 : Nat := 0
def PySem.W.Fast.tw12572344172652234267 : Nat := 0
def PySem.W.Fast.tw8246616441854730779 : Nat := 0
def PySem.W.Fast.tw8842732462942664219 : Nat := 0
def PySem.W.Fast.tw10383469712788523579 : Nat := 0
def PySem.W.Fast.tw14586414894152070715 : Nat := 0
def PySem.W.Fast.tw10245786361808806459 : Nat := 0
def PySem.W.Fast.tw13266375976169877115 : Nat := 0
def PySem.W.Fast.tw15099056803782921915 : Nat := 0
def PySem.W.Fast.tw298581974616220347 : Nat := 0
def PySem.W.Fast.tw15096871729834296027 : Nat := 0
def PySem.W.Fast.tw380613207887823579 : Nat := 0
def PySem.W.Fast.tw8347877278890689275 : Nat := 0
def PySem.W.Fast.tw5996600190180009723 : Nat := 0
def PySem.W.Fast.tw11276486223849091835 : Nat := 0
def PySem.W.Fast.tw471845028478066459 : Nat := 0
def PySem.W.Fast.tw2893124418307596059 : Nat := 0
def PySem.W.Fast.tw8143558167398072155 : Nat := 0
def PySem.W.Fast.tw5827216490355841915 : Nat := 0
def PySem.W.Fast.tw7707098002335586203 : Nat := 0
def PySem.W.Fast.tw17896150532443420603 : Nat := 0
def PySem.W.Fast.tw1153496911633663931 : Nat := 0
def PySem.W.Fast.tw4784466947281022939 : Nat := 0
def PySem.W.Fast.tw6837424365481658363 : Nat := 0
def PySem.W.Fast.tw12677943496487767035 : Nat := 0
def PySem.W.Fast.tw11888132059022867484 : Nat := 0
def PySem.W.Fast.tw11588391143829856284 : Nat := 0
def PySem.W.Fast.tw17030288347180802108 : Nat := 0
def PySem.W.Fast.tw228995302990053532 : Nat := 0
def PySem.W.Fast.tw8310180830435872956 : Nat := 0
def PySem.W.Fast.tw1628065032739399868 : Nat := 0
def PySem.W.Fast.tw9184228724724249852 : Nat := 0
def PySem.W.Fast.tw2218533776715871516 : Nat := 0
def PySem.W.Fast.tw4388987843491567932 : Nat := 0
def PySem.W.Fast.tw5704135143579266396 : Nat := 0
def PySem.W.Fast.tw15768635674679761244 : Nat := 0
def PySem.W.Fast.tw17356390956108813692 : Nat := 0
def PySem.W.Fast.tw6720541741879409020 : Nat := 0
def PySem.W.Fast.tw9481449748528479612 : Nat := 0
def PySem.W.Fast.tw8061305653346274716 : Nat := 0
def PySem.W.Fast.tw6515857131486713244 : Nat := 0
def PySem.W.Fast.tw2712633459520507356 : Nat := 0
def PySem.W.Fast.tw13869032005922931164 : Nat := 0
def PySem.W.Fast.tw14600235263180165628 : Nat := 0
def PySem.W.Fast.tw7326085809572735516 : Nat := 0
def PySem.W.Fast.tw15024039394317952572 : Nat := 0
def PySem.W.Fast.tw12478070351630795356 : Nat := 0
def PySem.W.Fast.tw9396688212293785180 : Nat := 0
def PySem.W.Fast.tw10856465706629658204 : Nat := 0
def PySem.W.Fast.tw11029348650638970492 : Nat := 0
def PySem.W.Fast.tw14863436391712203388 : Nat := 0
def PySem.W.Fast.tw10382447604103985788 : Nat := 0
def PySem.W.Fast.tw6054032589477531260 : Nat := 0
def PySem.W.Fast.tw3450384935475836540 : Nat := 0
def PySem.W.Fast.tw8720341912637746876 : Nat := 0
def PySem.W.Fast.tw2196575062839016124 : Nat := 0
def PySem.W.Fast.tw16762452235083954908 : Nat := 0
def PySem.W.Fast.tw1269260467381444348 : Nat := 0
def PySem.W.Fast.tw7306680339278671612 : Nat := 0
def PySem.W.Fast.tw12133825872976955196 : Nat := 0
def PySem.W.Fast.tw3958424655341570876 : Nat := 0
def PySem.W.Fast.tw2283810775835307836 : Nat := 0
def PySem.W.Fast.tw5616920502377184060 : Nat := 0
def PySem.W.Fast.tw11013818927045042044 : Nat := 0
def PySem.W.Fast.tw7247300034628429724 : Nat := 0
def PySem.W.Fast.tw14397535338879090588 : Nat := 0
def PySem.W.Fast.tw10119179115157665724 : Nat := 0
def PySem.W.Fast.tw1951138134467831740 : Nat := 0
def PySem.W.Fast.tw15639076588926476252 : Nat := 0
def PySem.W.Fast.tw5526210903062752220 : Nat := 0
def PySem.W.Fast.tw27784867070393308 : Nat := 0
def PySem.W.Fast.tw18096777073692144604 : Nat := 0
def PySem.W.Fast.tw7424202956764701692 : Nat := 0
def PySem.W.Fast.tw11704951555235411964 : Nat := 0
def PySem.W.Fast.tw9186251705479575581 : Nat := 0
def PySem.W.Fast.tw6452395812316184637 : Nat := 0
def PySem.W.Fast.tw5372801116307463229 : Nat := 0
def PySem.W.Fast.tw850929916213491773 : Nat := 0
def PySem.W.Fast.tw6736324448792656989 : Nat := 0
def PySem.W.Fast.tw11212368791202313341 : Nat := 0
def PySem.W.Fast.tw11399788697725030589 : Nat := 0
def PySem.W.Fast.tw6870304875903082685 : Nat := 0
def PySem.W.Fast.tw6667954492901711069 : Nat := 0
def PySem.W.Fast.tw12889607142558265565 : Nat := 0
def PySem.W.Fast.tw4827261517573031165 : Nat := 0
def PySem.W.Fast.tw144257033573759229 : Nat := 0
def PySem.W.Fast.tw3745088002768733469 : Nat := 0
def PySem.W.Fast.tw10617338683903726877 : Nat := 0
def PySem.W.Fast.tw10681215952371086621 : Nat := 0
def PySem.W.Fast.tw13146286034479490365 : Nat := 0
def PySem.W.Fast.tw9494391087028817245 : Nat := 0
def PySem.W.Fast.tw9251264268427473277 : Nat := 0
def PySem.W.Fast.tw13839167276795706845 : Nat := 0
def PySem.W.Fast.tw16454656808007032285 : Nat := 0
def PySem.W.Fast.tw16055670333595247069 : Nat := 0
def PySem.W.Fast.tw7930950087519702557 : Nat := 0
def PySem.W.Fast.tw7980045979383038525 : Nat := 0
def PySem.W.Fast.tw16130580227721785917 : Nat := 0
def PySem.W.Fast.tw1037197428709010045 : Nat := 0
def PySem.W.Fast.tw269631303518945949 : Nat := 0
def PySem.W.Fast.tw1450563608822537885 : Nat := 0
def PySem.W.Fast.tw17603083242052398781 : Nat := 0
def PySem.W.Fast.tw16592534600275480253 : Nat := 0
def PySem.W.Fast.tw2179638314220303101 : Nat := 0
def PySem.W.Fast.tw14209233092838044413 : Nat := 0
def PySem.W.Fast.tw1095083189233766141 : Nat := 0
def PySem.W.Fast.tw15368153186700221181 : Nat := 0
def PySem.W.Fast.tw15315566817716140829 : Nat := 0
def PySem.W.Fast.tw13987397643515603773 : Nat := 0
def PySem.W.Fast.tw13253335359529141053 : Nat := 0
def PySem.W.Fast.tw4944949157433763645 : Nat := 0
def PySem.W.Fast.tw11029277523260446557 : Nat := 0
def PySem.W.Fast.tw8496708071101744989 : Nat := 0
def PySem.W.Fast.tw2354635540300057437 : Nat := 0
def PySem.W.Fast.tw12405974898491425661 : Nat := 0
def PySem.W.Fast.tw12379996750673914813 : Nat := 0
def PySem.W.Fast.tw3772316770936491005 : Nat := 0
def PySem.W.Fast.tw7538312062370783229 : Nat := 0
def PySem.W.Fast.tw7103647921273726973 : Nat := 0
def PySem.W.Fast.tw11213709138890594334 : Nat := 0
def PySem.W.Fast.tw1610054919515972638 : Nat := 0
def PySem.W.Fast.tw13674496768815409182 : Nat := 0
def PySem.W.Fast.tw15846979049828748382 : Nat := 0
def PySem.W.Fast.tw2564185872895547486 : Nat := 0
def PySem.W.Fast.tw1744863764264996958 : Nat := 0
def PySem.W.Fast.tw4109438110212679774 : Nat := 0
def PySem.W.Fast.tw8524099563541336190 : Nat := 0
def PySem.W.Fast.tw8368819522613527710 : Nat := 0
def PySem.W.Fast.tw4893982366643241150 : Nat := 0
def PySem.W.Fast.tw18095487557117491518 : Nat := 0
def PySem.W.Fast.tw11342197658608110942 : Nat := 0
def PySem.W.Fast.tw15696012204582521182 : Nat := 0
def PySem.W.Fast.tw2658485458735896958 : Nat := 0
def PySem.W.Fast.tw1333443014675299710 : Nat := 0
def PySem.W.Fast.tw15926241635053731198 : Nat := 0
def PySem.W.Fast.tw9437212261067266462 : Nat := 0
def PySem.W.Fast.tw17633718659478111646 : Nat := 0
def PySem.W.Fast.tw13787171760721728958 : Nat := 0
def PySem.W.Fast.tw9746713976742910398 : Nat := 0
def PySem.W.Fast.tw828599633648984510 : Nat := 0
def PySem.W.Fast.tw17417004671138695646 : Nat := 0
def PySem.W.Fast.tw14490255420087838174 : Nat := 0
def PySem.W.Fast.tw12384383259084174814 : Nat := 0
def PySem.W.Fast.tw7128355398891056638 : Nat := 0
def PySem.W.Fast.tw1590176411982364222 : Nat := 0
def PySem.W.Fast.tw3693465283920456318 : Nat := 0
def PySem.W.Fast.tw14715202190518492830 : Nat := 0
def PySem.W.Fast.tw2512827874551154334 : Nat := 0
def PySem.W.Fast.tw5593141077593795262 : Nat := 0
def PySem.W.Fast.tw7941353456844748478 : Nat := 0
def PySem.W.Fast.tw4010919413760196318 : Nat := 0
def PySem.W.Fast.tw17148235107675705086 : Nat := 0
def PySem.W.Fast.tw14598272574032805758 : Nat := 0
def PySem.W.Fast.tw4460368653093168030 : Nat := 0
def PySem.W.Fast.tw7470451147725868990 : Nat := 0
def PySem.W.Fast.tw4305277143468665790 : Nat := 0
def PySem.W.Fast.tw11173922906461861886 : Nat := 0
def PySem.W.Fast.tw9691820352189176863 : Nat := 0
def PySem.W.Fast.tw18370776945187706911 : Nat := 0
def PySem.W.Fast.tw5100602127281300543 : Nat := 0
def PySem.W.Fast.tw926643077406807135 : Nat := 0
def PySem.W.Fast.tw17338072836954913023 : Nat := 0
def PySem.W.Fast.tw16091280897360991519 : Nat := 0
def PySem.W.Fast.tw1299309252205426975 : Nat := 0
def PySem.W.Fast.tw12329841173383609631 : Nat := 0
def PySem.W.Fast.tw8918804636467923295 : Nat := 0
def PySem.W.Fast.tw14860314298335470943 : Nat := 0
def PySem.W.Fast.tw1913290369775866239 : Nat := 0
def PySem.W.Fast.tw594216012847407519 : Nat := 0
def PySem.W.Fast.tw16959875320491509247 : Nat := 0
def PySem.W.Fast.tw3257226959101181439 : Nat := 0
def PySem.W.Fast.tw9820741557192184351 : Nat := 0
def PySem.W.Fast.tw1598812536080234015 : Nat := 0
def PySem.W.Fast.tw5170588414632410687 : Nat := 0
def PySem.W.Fast.tw11895483675138019935 : Nat := 0
def PySem.W.Fast.tw3524842368798216799 : Nat := 0
def PySem.W.Fast.tw10497181119172472415 : Nat := 0
def PySem.W.Fast.tw9926125144508672639 : Nat := 0
def PySem.W.Fast.tw4256084515375147647 : Nat := 0
def PySem.W.Fast.tw2942841547170871935 : Nat := 0
def PySem.W.Fast.tw12830725308263105183 : Nat := 0
def PySem.W.Fast.tw11583850579622704799 : Nat := 0
def PySem.W.Fast.tw4029561128975726239 : Nat := 0
def PySem.W.Fast.tw16001790186197396159 : Nat := 0
def PySem.W.Fast.tw2806175997184916159 : Nat := 0
def PySem.W.Fast.tw9672595617429967551 : Nat := 0
def PySem.W.Fast.tw17871092734466545375 : Nat := 0
def PySem.W.Fast.tw16883569728774462175 : Nat := 0
def PySem.W.Fast.tw10224582031812883199 : Nat := 0
def PySem.W.Fast.tw16210590723337398079 : Nat := 0
def PySem.W.Fast.tw17033268796904516415 : Nat := 0
def PySem.W.Fast.tw1160745351843754815 : Nat := 0
def PySem.W.Fast.tw8744499781967533887 : Nat := 0
def PySem.W.Fast.tw7768479863610482527 : Nat := 0
def PySem.W.Fast.tw5221875728128549727 : Nat := 0
def PySem.W.Fast.tw15935954286812830623 : Nat := 0
def PySem.W.Fast.tw15695910329021889439 : Nat := 0
def PySem.W.Fast.tw9091498834412314559 : Nat := 0
def PySem.W.Fast.tw17627865513602726879 : Nat := 0
def PySem.W.Fast.tw16174564686852397055 : Nat := 0
def PySem.W.Fast.tw14010109022461107199 : Nat := 0
def PySem.W.Fast.tw12178171386164879359 : Nat := 0
def PySem.W.Fast.tw14337020051049463807 : Nat := 0
def PySem.W.Fast.tw16060488207393284095 : Nat := 0
open_top hd61 for PySem.Challenge.rw_rungladders_k61_patterns_under_names
set_option maxRecDepth 100000
namespace Ev
open PySem L2
inductive TyN where
  | none_ | bool | int | str | tuple | list | dict
  deriving DecidableEq
def TyN.name : TyN → String
  | .none_ => "NoneType" | .bool => "bool" | .int => "int" | .str => "str" | .tuple => "tuple" | .list => "list" | .dict => "dict"
inductive D where
  | non | bl (b : Bool) | int (i : Int) | str (x : Str)
  | tup (ds : List D) | lst (ds : List D) | scr (ds : List D)
  | dct (ks : List Key) (ds : List D)
  | ins (c : Nat) (ds : List D)
  | ref (n : Nat)
  | ty (t : TyN) | cls (c : Nat)
  | raw (u : V) (dd : Addr) (fs : List Str) (ds : List D)
  deriving Inhabited
inductive Ob where
  | lst (ds : List D) | dct (ks : List Key) (ds : List D) | ins (c : Nat) (ds : List D)
  | tbl (j : Nat)
  deriving Inhabited
structure Exn where
  cls : Nat
  arg : Option D
  deriving Inhabited
structure Sg where
  K : PySem.W.Frag
  ca : Nat → Addr
  fn : Nat → List Str
  xc : Nat → Value
  xf : Nat → Str
  gd : Bool := true
  ta : Nat → Addr := fun _ => 0
  tq : Nat → Str := fun _ => Str.empty
structure Wd where
  m : List Addr
  F : Addr → Prop
  H : Hp
  x : Option Addr := none
def RdF (w : Wd) (a : Addr) (o : HO) : Prop := w.F a ∧ Rd w.H a o
def KTup (K : PySem.W.Frag) (a : Addr) (xs : List V) : Prop := ∃ (o : Obj) (its : Array Value) (n : Nat), K.lookup a = some o ∧ o.cls = .type "tuple" ∧ o.data = .seq its n ∧ its.size ≤ sizeLine ∧ Vals xs its.toList
def KLst (K : PySem.W.Frag) (a : Addr) (xs : List V) : Prop := ∃ (o : Obj) (its : Array Value) (n : Nat), K.lookup a = some o ∧ o.cls = .type "list" ∧ o.dict = none ∧ o.data = .seq its n ∧ its.size ≤ sizeLine ∧ Vals xs its.toList
mutual
def RepV (G : Sg) (w : Wd) : D → V → Prop
  | .non, v => v = .non
  | .bl b, v => v = .bl b
  | .int i, v => v = .int i
  | .str x, v => v = .str x
  | .tup ds, v => ∃ a vs, v = .ref a ∧ (RdF w a (.tup vs) ∨ KTup G.K a vs) ∧ RepVs G w ds vs
  | .lst ds, v => ∃ a vs, v = .ref a ∧ w.F a ∧ w.H a = some (.lst vs) ∧ RepVs G w ds vs
  | .scr ds, v => ∃ a vs, v = .ref a ∧ (RdF w a (.lst vs) ∨ KLst G.K a vs) ∧ RepVs G w ds vs
  | .dct ks ds, v => ∃ a vs, v = .ref a ∧ w.F a ∧ w.H a = some (.dK (ks.zip vs)) ∧ ks.length = vs.length ∧ RepVs G w ds vs
  | .ins c ds, v => ∃ a dx vs, v = .ref a ∧ w.F a ∧ w.H a = some (.ins (G.ca c) dx ((G.fn c).zip vs)) ∧ vs.length ≤ (G.fn c).length ∧ RepVs G w ds vs
  | .ref n, v => ∃ a, v = .ref a ∧ w.m[n]? = some a
  | .ty t, v => v = .ty t.name
  | .cls c, v => v = .ref (G.ca c)
  | .raw u dd fs ds, v => v = u ∧ ∃ vs, (fs = [] ∨ (w.F dd ∧ w.H dd = some (.xd (fs.zip vs)))) ∧ RepVs G w ds vs
def RepVs (G : Sg) (w : Wd) : List D → List V → Prop
  | [], vs => vs = []
  | d :: ds, vs => ∃ v r, vs = v :: r ∧ RepV G w d v ∧ RepVs G w ds r
end
def TabM (w : Wd) (a : Addr) (q : Str) : Prop := a ∈ w.m ∧ ∃ ps : Array Value, w.H a = some (.tbl ps) ∧ TriplesOk ps.toList ∧ ∀ (pos : Pos) (cv : Value), codeAmong pos ps.toList = some cv → ∃ c, cv = .ref c ∧ w.F c ∧ w.H c = some (LamX.CodeO c q)
def RepO (G : Sg) (w : Wd) (a : Addr) : Ob → Prop
  | .lst ds => ∃ vs, w.H a = some (.lst vs) ∧ RepVs G w ds vs
  | .dct ks ds => ∃ vs, w.H a = some (.dK (ks.zip vs)) ∧ ks.length = vs.length ∧ RepVs G w ds vs
  | .ins c ds => ∃ dx vs, w.H a = some (.ins (G.ca c) dx ((G.fn c).zip vs)) ∧ vs.length ≤ (G.fn c).length ∧ RepVs G w ds vs
  | .tbl j => a = G.ta j ∧ TabM w a (G.tq j)
def RepX (G : Sg) (w : Wd) (e : Exn) (cls : Value) (x : Option Addr) : Prop :=
  cls = G.xc e.cls ∧ match e.arg with
    | none => True
    | some d => ∃ a v, x = some a ∧ w.F a ∧ w.H a = some (.xd [(G.xf e.cls, v)]) ∧ RepV G w d v
structure Ext (w w' : Wd) : Prop where
  m : ∃ r, w'.m = w.m ++ r
  F : ∀ a, w.F a → w'.F a
  H : ∀ b o, b ∉ w.m → w.H b = some o → w'.H b = some o
  nm : ∀ b, b ∈ w'.m → b ∈ w.m ∨ w.H b = none
  nF : ∀ b, w'.F b → w.F b ∨ w.H b = none
  al : ∀ b, w'.H b = none → w.H b = none
theorem Ext.refl (w : Wd) : Ext w w := ⟨⟨[], by simp⟩, fun _ h => h, fun _ _ _ h => h, fun _ h => .inl h, fun _ h => .inl h, fun _ h => h⟩
theorem Ext.trans {w w1 w2 : Wd} (a : Ext w w1) (b : Ext w1 w2) : Ext w w2 := by
  obtain ⟨r, er⟩ := a.m
  obtain ⟨r', er'⟩ := b.m
  refine ⟨⟨r ++ r', by rw [er', er, List.append_assoc]⟩, fun x h => b.F x (a.F x h), fun x o hm h => b.H x o (fun z => ?_) (a.H x o hm h), fun x h => ?_, fun x h => ?_, fun x h => a.al x (b.al x h)⟩
  · rcases a.nm x z with z | z
    · exact hm z
    · rw [h] at z; cases z
  · rcases b.nm x h with z | z
    · exact a.nm x z
    · exact .inr (a.al x z)
  · rcases b.nF x h with z | z
    · exact a.nF x z
    · exact .inr (a.al x z)
structure Stay (w w' : Wd) : Prop where
  m : ∃ r, w'.m = w.m ++ r
  F : ∀ a, w.F a → w'.F a
  H : ∀ a o, w.F a → w.H a = some o → w'.H a = some o
theorem Stay.refl (w : Wd) : Stay w w := ⟨⟨[], by simp⟩, fun _ h => h, fun _ _ _ h => h⟩
theorem Stay.trans {w w1 w2 : Wd} (a : Stay w w1) (b : Stay w1 w2) : Stay w w2 := by
  obtain ⟨r, er⟩ := a.m
  obtain ⟨r', er'⟩ := b.m
  exact ⟨⟨r ++ r', by rw [er', er, List.append_assoc]⟩, fun x h => b.F x (a.F x h), fun x o f h => b.H x o (a.F x f) (a.H x o f h)⟩
theorem Ext.stay {w w' : Wd} (e : Ext w w') (dj : ∀ a, w.F a → a ∉ w.m) : Stay w w' := ⟨e.m, e.F, fun a o f h => e.H a o (dj a f) h⟩
section
variable {G : Sg} {w w' : Wd}
theorem RdF.stay (e : Stay w w') {a : Addr} {o : HO} (h : RdF w a o) : RdF w' a o := by
  obtain ⟨f, h⟩ := h
  refine ⟨e.F a f, ?_⟩
  rcases h with h | ⟨u, h⟩
  · exact .inl (e.H a _ f h)
  · exact .inr ⟨u, e.H a _ f h⟩
mutual
theorem RepV.stay (e : Stay w w') : ∀ (d : D) (v : V), RepV G w d v → RepV G w' d v
  | .non, _, h => h
  | .bl _, _, h => h
  | .int _, _, h => h
  | .str _, _, h => h
  | .tup ds, _, h => by
    obtain ⟨a, vs, e1, h1, h2⟩ := h
    exact ⟨a, vs, e1, h1.imp (fun z => z.stay e) id, RepVs.stay e ds vs h2⟩
  | .lst ds, _, h => by
    obtain ⟨a, vs, e1, f, h1, h2⟩ := h
    exact ⟨a, vs, e1, e.F a f, e.H a _ f h1, RepVs.stay e ds vs h2⟩
  | .scr ds, _, h => by
    obtain ⟨a, vs, e1, h1, h2⟩ := h
    exact ⟨a, vs, e1, h1.imp (fun z => z.stay e) id, RepVs.stay e ds vs h2⟩
  | .dct ks ds, _, h => by
    obtain ⟨a, vs, e1, f, h1, h2, h3⟩ := h
    exact ⟨a, vs, e1, e.F a f, e.H a _ f h1, h2, RepVs.stay e ds vs h3⟩
  | .ins c ds, _, h => by
    obtain ⟨a, dx, vs, e1, f, h1, h2, h3⟩ := h
    exact ⟨a, dx, vs, e1, e.F a f, e.H a _ f h1, h2, RepVs.stay e ds vs h3⟩
  | .ref n, _, h => by
    obtain ⟨a, e1, h1⟩ := h
    obtain ⟨r, er⟩ := e.m
    refine ⟨a, e1, ?_⟩
    rw [er, List.getElem?_append_left (List.getElem?_eq_some_iff.mp h1).1]
    exact h1
  | .ty _, _, h => h
  | .cls _, _, h => h
  | .raw u dd fs ds, _, h => by
    obtain ⟨e1, vs, h1, h2⟩ := h
    exact ⟨e1, vs, h1.imp id fun z => ⟨e.F dd z.1, e.H dd _ z.1 z.2⟩, RepVs.stay e ds vs h2⟩
theorem RepVs.stay (e : Stay w w') : ∀ (ds : List D) (vs : List V), RepVs G w ds vs → RepVs G w' ds vs
  | [], _, h => h
  | d :: ds, _, h => by
    obtain ⟨v, r, e1, h1, h2⟩ := h
    exact ⟨v, r, e1, RepV.stay e d v h1, RepVs.stay e ds r h2⟩
end
theorem RepV.mono (e : Ext w w') (dj : ∀ a, w.F a → a ∉ w.m) (d : D) (v : V) : RepV G w d v → RepV G w' d v := RepV.stay (e.stay dj) d v
theorem RepVs.mono (e : Ext w w') (dj : ∀ a, w.F a → a ∉ w.m) (ds : List D) (vs : List V) : RepVs G w ds vs → RepVs G w' ds vs := RepVs.stay (e.stay dj) ds vs
theorem RepO.mono (e : Ext w w') (dj : ∀ a, w.F a → a ∉ w.m) {a : Addr} (ha : a ∉ w.m) : ∀ (o : Ob), RepO G w a o → RepO G w' a o
  | .lst ds, ⟨vs, h1, h2⟩ => ⟨vs, e.H a _ ha h1, RepVs.mono e dj _ _ h2⟩
  | .dct ks ds, ⟨vs, h1, h2, h3⟩ => ⟨vs, e.H a _ ha h1, h2, RepVs.mono e dj _ _ h3⟩
  | .ins c ds, ⟨dx, vs, h1, h2, h3⟩ => ⟨dx, vs, e.H a _ ha h1, h2, RepVs.mono e dj _ _ h3⟩
  | .tbl j, ⟨_, h1, _⟩ => absurd h1 ha
theorem RepVs.length : ∀ {ds : List D} {vs : List V}, RepVs G w ds vs → ds.length = vs.length
  | [], _, h => by cases (show _ = _ from h); rfl
  | _ :: ds, _, ⟨_, _, e, _, h⟩ => by rw [e, List.length_cons, List.length_cons, RepVs.length h]
theorem RepVs.get : ∀ {ds : List D} {vs : List V} {i : Nat} {d : D}, RepVs G w ds vs → ds[i]? = some d → ∃ v, vs[i]? = some v ∧ RepV G w d v
  | [], _, _, _, _, e => by simp at e
  | d :: ds, _, 0, _, ⟨v, r, e, h, _⟩, q => by
    subst e
    simp at q
    subst q
    exact ⟨v, rfl, h⟩
  | _ :: ds, _, i + 1, _, ⟨v, r, e, _, h⟩, q => by
    subst e
    simpa using RepVs.get (i := i) h (by simpa using q)
theorem RepVs.append : ∀ {ds es : List D} {vs us : List V}, RepVs G w ds vs → RepVs G w es us → RepVs G w (ds ++ es) (vs ++ us)
  | [], _, _, _, h, q => by cases (show _ = _ from h); exact q
  | d :: ds, _, _, _, ⟨v, r, e, h, t⟩, q => by subst e; exact ⟨v, _, rfl, h, RepVs.append t q⟩
theorem RepVs.take : ∀ (n : Nat) {ds : List D} {vs : List V}, RepVs G w ds vs → RepVs G w (ds.take n) (vs.take n)
  | 0, _, _, _ => rfl
  | n + 1, [], _, h => by cases (show _ = _ from h); rfl
  | n + 1, d :: ds, _, ⟨v, r, e, h, t⟩ => by subst e; exact ⟨v, _, rfl, h, RepVs.take n t⟩
theorem RepVs.drop : ∀ (n : Nat) {ds : List D} {vs : List V}, RepVs G w ds vs → RepVs G w (ds.drop n) (vs.drop n)
  | 0, _, _, h => h
  | n + 1, [], _, h => by cases (show _ = _ from h); rfl
  | n + 1, d :: ds, _, ⟨v, r, e, h, t⟩ => by subst e; exact RepVs.drop n t
theorem RepVs.reverse : ∀ {ds : List D} {vs : List V}, RepVs G w ds vs → RepVs G w ds.reverse vs.reverse
  | [], _, h => by cases (show _ = _ from h); rfl
  | d :: ds, _, ⟨v, r, e, h, t⟩ => by
    subst e
    rw [List.reverse_cons, List.reverse_cons]
    exact RepVs.append (RepVs.reverse t) ⟨v, [], rfl, h, rfl⟩
theorem RepVs.set : ∀ (i : Nat) {ds : List D} {vs : List V} {d : D} {v : V}, RepVs G w ds vs → RepV G w d v → RepVs G w (ds.set i d) (vs.set i v)
  | _, [], _, _, _, h, _ => by cases (show _ = _ from h); rfl
  | 0, d :: ds, _, _, _, ⟨v, r, e, h, t⟩, q => by subst e; exact ⟨_, _, rfl, q, t⟩
  | i + 1, d :: ds, _, _, _, ⟨v, r, e, h, t⟩, q => by subst e; exact ⟨_, _, rfl, h, RepVs.set i t q⟩
theorem RepVs.one {d : D} {v : V} (h : RepV G w d v) : RepVs G w [d] [v] := ⟨v, [], rfl, h, rfl⟩
theorem RepVs.rep : ∀ (k : Nat) {ds : List D} {vs : List V}, RepVs G w ds vs → RepVs G w (List.replicate k ds).flatten (List.replicate k vs).flatten
  | 0, _, _, _ => rfl
  | k + 1, _, _, h => by
    rw [List.replicate_succ, List.replicate_succ, List.flatten_cons, List.flatten_cons]
    exact RepVs.append h (RepVs.rep k h)
end
structure RepS (G : Sg) (w : Wd) (S : List Ob) : Prop where
  len : w.m.length = S.length
  nd : w.m.Nodup
  dj : ∀ a, w.F a → a ∉ w.m
  fh : ∀ a, w.F a → w.H a ≠ none
  ob : ∀ (n : Nat) (a : Addr) (o : Ob), w.m[n]? = some a → S[n]? = some o → RepO G w a o
inductive SV where
  | no | val (d : D) | own (o : Ob)
  deriving Inhabited
structure R (G : Sg) (w0 w : Wd) (sd : List SV) (S : List Ob) (σ : St) : Prop where
  ex : Ext w0 w
  st : RepS G w S
  ln : σ.length = sd.length
  vl : ∀ (i : Nat) (d : D), sd[i]? = some (.val d) → ∃ v, σ[i]? = some (some v) ∧ RepV G w d v
  ow : ∀ (i : Nat) (o : Ob), sd[i]? = some (.own o) → ∃ a, σ[i]? = some (some (.ref a)) ∧ RepO G w a o ∧ ¬ w.F a ∧ a ∉ w.m ∧ w0.H a = none
  ap : ∀ (i j : Nat) (o o' : Ob) (a : Addr), sd[i]? = some (.own o) → sd[j]? = some (.own o') → σ[i]? = some (some (.ref a)) → σ[j]? = some (some (.ref a)) → i = j
  sf : ∀ a o, w0.x = some a → sd[0]? = some (.own o) → σ[0]? = some (some (.ref a))
theorem RepO.there {G : Sg} {w : Wd} {a : Addr} {o : Ob} (h : RepO G w a o) : w.H a ≠ none := by
  cases o with
  | lst ds => obtain ⟨_, e, _⟩ := h; rw [e]; exact fun z => nomatch z
  | dct ks ds => obtain ⟨_, e, _⟩ := h; rw [e]; exact fun z => nomatch z
  | ins c ds => obtain ⟨_, _, e, _⟩ := h; rw [e]; exact fun z => nomatch z
  | tbl j => obtain ⟨_, _, _, e, _⟩ := h; rw [e]; exact fun z => nomatch z
theorem R.step {G : Sg} {w0 w w1 : Wd} {sd : List SV} {S S1 : List Ob} {σ : St} (r : R G w0 w sd S σ) (e : Ext w w1) (s : RepS G w1 S1) : R G w0 w1 sd S1 σ := by
  refine ⟨r.ex.trans e, s, r.ln, fun i d h => ?_, fun i o h => ?_, r.ap, r.sf⟩
  · obtain ⟨v, h1, h2⟩ := r.vl i d h
    exact ⟨v, h1, RepV.mono e r.st.dj d v h2⟩
  · obtain ⟨a, h1, h2, h3, h4, h5⟩ := r.ow i o h
    refine ⟨a, h1, RepO.mono e r.st.dj h4 o h2, fun z => ?_, fun z => ?_, h5⟩
    · rcases e.nF a z with z | z
      · exact h3 z
      · exact h2.there z
    · rcases e.nm a z with z | z
      · exact h4 z
      · exact h2.there z
def M (α : Type) : Type := List Ob → Option (Except Exn α × List Ob)
namespace M
variable {α β γ : Type}
def pure (a : α) : M α := fun S => some (.ok a, S)
def err (e : Exn) : M α := fun S => some (.error e, S)
def stuck : M α := fun _ => none
def bind (f : M α) (k : α → M β) : M β := fun S => match f S with
  | none => none
  | some (.error e, S1) => some (.error e, S1)
  | some (.ok a, S1) => k a S1
theorem bind_assoc (f : M α) (k : α → M β) (l : β → M γ) : bind (bind f k) l = bind f fun a => bind (k a) l := by
  funext S
  unfold bind
  rcases f S with _ | ⟨_ | _, _⟩ <;> rfl
theorem bind_ite (c : Prop) [Decidable c] (f g : M α) (k : α → M β) : bind (if c then f else g) k = if c then bind f k else bind g k := by split <;> rfl
end M
def FinG {α β : Type} (G : Sg) (rep : Wd → α → β → Prop) (W : Value → Option Addr → Hp → Prop) (w : Wd) (Q : β → Hp → Prop) : Option (Except Exn α × List Ob) → Prop
  | none => False
  | some (.ok d, S) => ∀ w' v, Ext w w' → RepS G w' S → rep w' d v → Q v w'.H
  | some (.error e, S) => ∀ w' cls x, Ext w w' → RepS G w' S → RepX G w' e cls x → W cls x w'.H
section
variable {α β γ δ : Type} {G : Sg} {rep : Wd → α → β → Prop} {rep' : Wd → γ → δ → Prop} {W : Value → Option Addr → Hp → Prop} {w w1 : Wd} {Q : β → Hp → Prop} {Q' : δ → Hp → Prop}
theorem FinG.ext {r : Option (Except Exn α × List Ob)} (e : Ext w w1) (h : FinG G rep W w Q r) : FinG G rep W w1 Q r := by
  rcases r with _ | ⟨_ | _, _⟩
  · exact h
  · exact fun w' c x e' => h w' c x (e.trans e')
  · exact fun w' v e' => h w' v (e.trans e')
theorem fin_pure {a : α} {b : β} {S : List Ob} (h : FinG G rep W w Q (M.pure a S)) (s : RepS G w S) (r : rep w a b) : Q b w.H := h w b (Ext.refl w) s r
end
def teG {α β : Type} (G : Sg) (rep : Wd → α → β → Prop) (W : WX) (f : List SV → M α) : St → Hp → (β → Hp → Prop) → Prop := fun σ H Q =>
  ∃ w0 w sd S, w.H = H ∧ R G w0 w sd S σ ∧ FinG G rep (fun c x H => W c x σ H) w Q (f sd S)
def repB : Wd → Bool → Bool → Prop := fun _ a b => b = a
abbrev teV (G : Sg) (W : WX) (f : List SV → M D) : TE := teG G (RepV G) W f
abbrev teB (G : Sg) (W : WX) (f : List SV → M Bool) : TT := teG G repB W f
abbrev teA (G : Sg) (W : WX) (f : List SV → M (List D)) : TA := teG G (RepVs G) W f
abbrev PV (G : Sg) (X : Cx) (W : WX) (e : Expr) (f : List SV → M D) : Prop := PE X e (teV G W f)
abbrev PB (G : Sg) (X : Cx) (W : WX) (e : Expr) (f : List SV → M Bool) : Prop := PT X e (teB G W f)
abbrev PL (G : Sg) (X : Cx) (W : WX) (es : List Expr) (f : List SV → M (List D)) : Prop := PA X es (teA G W f)
theorem PE.imp {X : Cx} {e : Expr} {t t' : TE} (h : PE X e t) (i : ∀ σ H Q, t' σ H Q → t σ H Q) : PE X e t' := ⟨fun p s σ H Q I q => h.run p s σ H Q I (i σ H Q q)⟩
theorem PT.imp {X : Cx} {e : Expr} {t t' : TT} (h : PT X e t) (i : ∀ σ H Q, t' σ H Q → t σ H Q) : PT X e t' := ⟨fun p s σ H Q I q => h.run p s σ H Q I (i σ H Q q)⟩
theorem PW.imp {X : Cx} {e : Expr} {t t' : TT} (h : PW X e t) (i : ∀ σ H Q, t' σ H Q → t σ H Q) : PW X e t' := ⟨fun wh p s σ H Q I q => h.run wh p s σ H Q I (i σ H Q q)⟩
theorem PA.imp {X : Cx} {e : List Expr} {t t' : TA} (h : PA X e t) (i : ∀ σ H Q, t' σ H Q → t σ H Q) : PA X e t' := ⟨fun ps p s σ H Q I q => h.run ps p s σ H Q I (i σ H Q q)⟩
theorem PS.imp {X : Cx} {e : Stmt} {t t' : TS} (h : PS X e t) (i : ∀ D σ H, t' D σ H → t D σ H) : PS X e t' := ⟨fun p s σ H D I q => h.run p s σ H D I (i D σ H q)⟩
theorem PSs.imp {X : Cx} {e : List Stmt} {t t' : TS} (h : PSs X e t) (i : ∀ D σ H, t' D σ H → t D σ H) : PSs X e t' := ⟨fun p s σ H D I q => h.run p s σ H D I (i D σ H q)⟩
theorem fin_step {α β γ δ : Type} {G : Sg} {rep : Wd → α → β → Prop} {rep' : Wd → γ → δ → Prop} {W : Value → Option Addr → Hp → Prop} {w : Wd} {Q : β → Hp → Prop} {Q' : δ → Hp → Prop} {f : M α} {k : α → M γ} {S : List Ob}
    (h : FinG G rep' W w Q' (M.bind f k S)) (c : ∀ w1 S1 d v, Ext w w1 → RepS G w1 S1 → rep w1 d v → FinG G rep' W w1 Q' (k d S1) → Q v w1.H) : FinG G rep W w Q (f S) := by
  unfold M.bind at h
  rcases hf : f S with _ | ⟨_ | d, S1⟩
  · rw [hf] at h; exact h
  · rw [hf] at h; exact h
  · rw [hf] at h
    exact fun w' v e s r => c w' S1 d v e s r (FinG.ext e h)
end Ev
set_option maxRecDepth 100000
set_option maxHeartbeats 2000000
namespace Ev
open PySem L2
theorem RepO.to {G : Sg} {w w' : Wd} {a : Addr} (h : w'.H a = w.H a) (e : Stay w w') : ∀ {o : Ob}, RepO G w a o → RepO G w' a o
  | .lst _, ⟨vs, h1, h2⟩ => ⟨vs, h.trans h1, RepVs.stay e _ _ h2⟩
  | .dct _ _, ⟨vs, h1, h2, h3⟩ => ⟨vs, h.trans h1, h2, RepVs.stay e _ _ h3⟩
  | .ins _ _, ⟨dx, vs, h1, h2, h3⟩ => ⟨dx, vs, h.trans h1, h2, RepVs.stay e _ _ h3⟩
  | .tbl _, ⟨e1, m, ps, h1, h2, h3⟩ => ⟨e1, by obtain ⟨r, er⟩ := e.m; rw [er]; exact List.mem_append_left _ m, ps, h.trans h1, h2, fun pos cv hc => by
    obtain ⟨c, z1, z2, z3⟩ := h3 pos cv hc
    exact ⟨c, z1, e.F c z2, e.H c _ z2 z3⟩⟩
theorem RepS.there {G : Sg} {w : Wd} {S : List Ob} (s : RepS G w S) {a : Addr} (h : a ∈ w.m) : w.H a ≠ none := by
  obtain ⟨n, hn⟩ := List.getElem?_of_mem h
  have l : n < S.length := by rw [← s.len]; exact (List.getElem?_eq_some_iff.mp hn).1
  exact (s.ob n a S[n] hn (List.getElem?_eq_getElem l)).there
def Wd.frz (w : Wd) (p : Addr) (o : HO) : Wd := ⟨w.m, fun a => w.F a ∨ a = p, upd w.H p o, w.x⟩
def Wd.new (w : Wd) (p : Addr) (o : HO) : Wd := ⟨w.m, w.F, upd w.H p o, w.x⟩
section
variable {G : Sg} {w : Wd} {S : List Ob} {p : Addr} {o : HO}
theorem Ext.frz (hp : w.H p = none) : Ext w (w.frz p o) := by
  refine ⟨⟨[], by simp [Wd.frz]⟩, fun _ h => .inl h, fun b u _ h => ?_, fun _ h => .inl h, fun b h => ?_, fun b h => ?_⟩
  · show upd w.H p o b = some u
    rw [upd_ne (ne_of_none h hp)]; exact h
  · rcases h with h | h
    · exact .inl h
    · exact .inr (h ▸ hp)
  · have h : upd w.H p o b = none := h
    by_cases e : b = p
    · rw [e]; exact hp
    · rw [upd_ne e] at h; exact h
theorem Ext.new (hp : w.H p = none) : Ext w (w.new p o) := by
  have e := Ext.frz (o := o) hp
  exact ⟨e.m, fun _ h => h, e.H, e.nm, fun _ h => .inl h, e.al⟩
theorem RepS.frz (s : RepS G w S) (hp : w.H p = none) : RepS G (w.frz p o) S := by
  refine ⟨s.len, s.nd, fun a h => ?_, fun a h => ?_, fun n a u h1 h2 => ?_⟩
  · rcases h with h | h
    · exact s.dj a h
    · exact fun z => s.there z (h ▸ hp)
  · show upd w.H p o a ≠ none
    by_cases e : a = p
    · rw [e, upd_same]; exact fun z => nomatch z
    · rw [upd_ne e]
      rcases h with h | h
      · exact s.fh a h
      · exact absurd h e
  · have ne : a ≠ p := fun z => s.there (List.mem_of_getElem? h1) (z ▸ hp)
    exact RepO.to (upd_ne ne) ((Ext.frz hp).stay s.dj) (s.ob n a u h1 h2)
theorem RepS.new (s : RepS G w S) (hp : w.H p = none) : RepS G (w.new p o) S := by
  refine ⟨s.len, s.nd, s.dj, fun a h => ?_, fun n a u h1 h2 => ?_⟩
  · show upd w.H p o a ≠ none
    rw [upd_ne (fun e => s.fh a h (by rw [e]; exact hp))]
    exact s.fh a h
  · have ne : a ≠ p := fun z => s.there (List.mem_of_getElem? h1) (z ▸ hp)
    exact RepO.to (upd_ne ne) ((Ext.new hp).stay s.dj) (s.ob n a u h1 h2)
end
def getv (i : Nat) : List SV → M D := fun sd => match sd[i]? with
  | some (.val d) => M.pure d
  | _ => M.stuck
def repL (G : Sg) (n : Nat) : Wd → List D → List V → Prop := fun w ds vs => RepVs G w ds vs ∧ vs.length = n
abbrev PLn (G : Sg) (X : Cx) (W : WX) (n : Nat) (es : List Expr) (f : List SV → M (List D)) : Prop := PA X es (teG G (repL G n) W f)
def notStar : Expr → Bool
  | .Starred _ _ => false
  | _ => true
theorem starEach_cons {e : Expr} {es : List Expr} {env : Env} (h : notStar e = true) : starEach (e :: es) env = (false, eval e env) :: starEach es env := by
  cases e <;> first | rfl | cases h
theorem starEach_all {env : Env} : ∀ {es : List Expr}, es.all notStar = true → ∀ pos, (backTo pos (starEach es env)).any (·.1) = false
  | [], _, _ => rfl
  | e :: es, h, pos => by
    simp only [List.all_cons, Bool.and_eq_true] at h
    rw [starEach_cons h.1]
    show (false || (backTo pos (starEach es env)).any (·.1)) = false
    rw [starEach_all h.2]
    rfl
section
variable {G : Sg} {X : Cx} {W : WX}
theorem v_var {i : Nat} {x : Str} {pos : Pos} (hN : X.N[i]? = some x) (hv : Vis X.env.scope x) (hd : (x == ("__debug__" : Str)) = false) (hcd : (x == ("__classdict__" : Str)) = false) : PV G X W (.Name x pos) (getv i) := by
  refine PE.imp (pe_var hN hv hd hcd) fun σ H Q h => ?_
  obtain ⟨w0, w, sd, S, e, r, q⟩ := h
  subst e
  unfold getv at q
  rcases hx : sd[i]? with _ | _ | d | o
  · rw [hx] at q; exact False.elim q
  · rw [hx] at q; exact False.elim q
  · rw [hx] at q
    obtain ⟨v, h1, h2⟩ := r.vl i d hx
    exact ⟨v, h1, fin_pure q r.st h2⟩
  · rw [hx] at q; exact False.elim q
theorem v_lit {e : Expr} {v : V} {d : D} (h : PE X e (tC v)) (r : ∀ w S, RepS G w S → RepV G w d v) : PV G X W e (fun _ => M.pure d) := by
  refine PE.imp h fun σ H Q h => ?_
  obtain ⟨w0, w, sd, S, e, rr, q⟩ := h
  subst e
  exact fin_pure q rr.st (r w S rr.st)
theorem l_nil : PLn G X W 0 [] (fun _ => M.pure []) := by
  refine PA.imp pa_nil fun σ H Q h => ?_
  obtain ⟨w0, w, sd, S, e, r, q⟩ := h
  subst e
  exact fin_pure q r.st ⟨rfl, rfl⟩
theorem l_cons {n : Nat} {e : Expr} {es : List Expr} {f : List SV → M D} {g : List SV → M (List D)} (he : PV G X W e f) (hr : PLn G X W n es g) (hs : notStar e = true) :
    PLn G X W (n + 1) (e :: es) (fun sd => M.bind (f sd) fun d => M.bind (g sd) fun ds => M.pure (d :: ds)) := by
  refine PA.imp (pa_cons he hr (starEach_cons hs)) fun σ H Q h => ?_
  obtain ⟨w0, w, sd, S, e, r, q⟩ := h
  refine ⟨w0, w, sd, S, e, r, fin_step q fun w1 S1 d v e1 s1 rv q1 => ⟨w0, w1, sd, S1, rfl, r.step e1 s1, fin_step q1 fun w2 S2 ds vs e2 s2 rvs q2 => ?_⟩⟩
  exact fin_pure q2 s2 ⟨⟨v, vs, rfl, RepV.mono e2 s1.dj d v rv, rvs.1⟩, by rw [List.length_cons, rvs.2]⟩
theorem v_tup {n : Nat} {es : List Expr} {g : List SV → M (List D)} {x1 : Nat} {pos : Pos} (h : PLn G X W n es g) (hn : n ≤ sizeLine) : PV G X W (.Tuple es x1 pos) (fun sd => M.bind (g sd) fun ds => M.pure (.tup ds)) := by
  refine PE.imp (pe_tup h) fun σ H Q h => ?_
  obtain ⟨w0, w, sd, S, e, r, q⟩ := h
  refine ⟨w0, w, sd, S, e, r, fin_step q fun w1 S1 ds vs e1 s1 rv q1 => ⟨by rw [rv.2]; exact hn, fun p hp => ?_⟩⟩
  exact q1 (w1.frz p (.tup vs)) _ (Ext.frz hp) (s1.frz hp) ⟨p, vs, rfl, .inl ⟨.inr rfl, .inl upd_same⟩, RepVs.mono (Ext.frz hp) s1.dj _ _ rv.1⟩
theorem v_lst {n : Nat} {es : List Expr} {g : List SV → M (List D)} {pos : Pos} (h : PLn G X W n es g) (hn : n ≤ sizeLine) : PV G X W (.List es pos) (fun sd => M.bind (g sd) fun ds => M.pure (.lst ds)) := by
  refine PE.imp (pe_lst h) fun σ H Q h => ?_
  obtain ⟨w0, w, sd, S, e, r, q⟩ := h
  refine ⟨w0, w, sd, S, e, r, fin_step q fun w1 S1 ds vs e1 s1 rv q1 => ⟨by rw [rv.2]; exact hn, fun p hp => ?_⟩⟩
  exact q1 (w1.frz p (.lst vs)) _ (Ext.frz hp) (s1.frz hp) ⟨p, vs, rfl, .inr rfl, upd_same, RepVs.mono (Ext.frz hp) s1.dj _ _ rv.1⟩
def rD2 (G : Sg) (g : D → D → M D) : R2 := fun v u H Q => ∃ W w S d e, w.H = H ∧ RepS G w S ∧ RepV G w d v ∧ RepV G w e u ∧ FinG G (RepV G) W w Q (g d e S)
theorem v_bin {op : Operator} {g : D → D → M D} {a b : Expr} {fa fb : List SV → M D} {pos : Pos} (ho : OpR X (binaryOp op) (rD2 G g)) (ha : PV G X W a fa) (hb : PV G X W b fb) :
    PV G X W (.BinOp a op b pos) (fun sd => M.bind (fa sd) fun x => M.bind (fb sd) fun y => g x y) := by
  refine PE.imp (pe_op ho ha hb) fun σ H Q h => ?_
  obtain ⟨w0, w, sd, S, e, r, q⟩ := h
  refine ⟨w0, w, sd, S, e, r, fin_step q fun w1 S1 d v e1 s1 rv q1 => ⟨w0, w1, sd, S1, rfl, r.step e1 s1, fin_step q1 fun w2 S2 d2 v2 e2 s2 rv2 q2 => ?_⟩⟩
  exact ⟨_, w2, S2, d, d2, rfl, s2, RepV.mono e2 s1.dj d v rv, rv2, q2⟩
theorem v_cmp {op : CmpOp} {g : D → D → M D} {a b : Expr} {fa fb : List SV → M D} {pos : Pos} (ho : OpR X (compareOp op) (rD2 G g)) (ha : PV G X W a fa) (hb : PV G X W b fb) (hm : behindInMarks op b = false) :
    PV G X W (.Compare a [op] [b] pos) (fun sd => M.bind (fa sd) fun x => M.bind (fb sd) fun y => g x y) := by
  refine PE.imp (pe_cmpR ho ha hb hm) fun σ H Q h => ?_
  obtain ⟨w0, w, sd, S, e, r, q⟩ := h
  refine ⟨w0, w, sd, S, e, r, fin_step q fun w1 S1 d v e1 s1 rv q1 => ⟨w0, w1, sd, S1, rfl, r.step e1 s1, fin_step q1 fun w2 S2 d2 v2 e2 s2 rv2 q2 => ?_⟩⟩
  exact ⟨_, w2, S2, d, d2, rfl, s2, RepV.mono e2 s1.dj d v rv, rv2, q2⟩
def toB : D → M Bool
  | .bl b => M.pure b
  | _ => M.stuck
theorem toB_fin {W' : Value → Option Addr → Hp → Prop} {w : Wd} {Q : Bool → Hp → Prop} {d : D} {v : V} {S : List Ob} (h : FinG G repB W' w Q (toB d S)) (s : RepS G w S) (r : RepV G w d v) : ∃ k, v = .bl k ∧ Q k w.H := by
  cases d with
  | bl b =>
    cases (show v = .bl b from r)
    exact ⟨b, rfl, fin_pure h s rfl⟩
  | _ => exact False.elim h
theorem b_cmp {op : CmpOp} {g : D → D → M D} {a b : Expr} {fa fb : List SV → M D} {pos : Pos} (ho : OpR X (compareOp op) (rD2 G g)) (ha : PV G X W a fa) (hb : PV G X W b fb) (hm : behindInMarks op b = false) :
    PB G X W (.Compare a [op] [b] pos) (fun sd => M.bind (fa sd) fun x => M.bind (fb sd) fun y => M.bind (g x y) toB) := by
  refine PT.imp (pt_cmpR ho ha hb hm) fun σ H Q h => ?_
  obtain ⟨w0, w, sd, S, e, r, q⟩ := h
  refine ⟨w0, w, sd, S, e, r, fin_step q fun w1 S1 d v e1 s1 rv q1 => ⟨w0, w1, sd, S1, rfl, r.step e1 s1, fin_step q1 fun w2 S2 d2 v2 e2 s2 rv2 q2 => ?_⟩⟩
  exact ⟨_, w2, S2, d, d2, rfl, s2, RepV.mono e2 s1.dj d v rv, rv2, fin_step q2 fun w3 S3 d3 v3 e3 s3 rv3 q3 => toB_fin q3 s3 rv3⟩
theorem b_val {e : Expr} {f : List SV → M D} (h : PV G X W e f) (he : ∀ whole, isTrue e X.env whole = (do let v ← whole; standAt e.pos; holding [v] (truthy v))) : PB G X W e (fun sd => M.bind (f sd) toB) := by
  refine PT.imp (pt_val h he) fun σ H Q h => ?_
  obtain ⟨w0, w, sd, S, e, r, q⟩ := h
  exact ⟨w0, w, sd, S, e, r, fin_step q fun w1 S1 d v e1 s1 rv q1 => toB_fin q1 s1 rv⟩
theorem b_not {a : Expr} {f : List SV → M Bool} {pos : Pos} (ha : PB G X W a f) : PB G X W (.UnaryOp .Not a pos) (fun sd => M.bind (f sd) fun b => M.pure (!b)) := by
  refine PT.imp (pt_not ha) fun σ H Q h => ?_
  obtain ⟨w0, w, sd, S, e, r, q⟩ := h
  exact ⟨w0, w, sd, S, e, r, fin_step q fun w1 S1 d v e1 s1 rv q1 => by cases rv; exact fin_pure q1 s1 rfl⟩
abbrev PBW (G : Sg) (X : Cx) (W : WX) (e : Expr) (f : List SV → M Bool) : Prop := PW X e (teB G W f)
theorem w_and1 {a : Expr} {f : List SV → M Bool} {pos : Pos} (ha : PB G X W a f) : PBW G X W (.BoolOp .And [a] pos) f := pw_and1 ha
theorem w_or1 {a : Expr} {f : List SV → M Bool} {pos : Pos} (ha : PB G X W a f) : PBW G X W (.BoolOp .Or [a] pos) f := pw_or1 ha
theorem w_and {a b : Expr} {rest : List Expr} {f g : List SV → M Bool} {pos : Pos} (ha : PB G X W a f) (hb : PBW G X W (.BoolOp .And (b :: rest) pos) g) :
    PBW G X W (.BoolOp .And (a :: b :: rest) pos) (fun sd => M.bind (f sd) fun k => if k = true then g sd else M.pure false) := by
  refine PW.imp (pw_and ha hb) fun σ H Q h => ?_
  obtain ⟨w0, w, sd, S, e, r, q⟩ := h
  refine ⟨w0, w, sd, S, e, r, fin_step q fun w1 S1 d v e1 s1 rv q1 => ?_⟩
  cases (show v = d from rv)
  cases d with
  | true => exact ⟨w0, w1, sd, S1, rfl, r.step e1 s1, q1⟩
  | false => exact fin_pure q1 s1 rfl
theorem w_or {a b : Expr} {rest : List Expr} {f g : List SV → M Bool} {pos : Pos} (ha : PB G X W a f) (hb : PBW G X W (.BoolOp .Or (b :: rest) pos) g) :
    PBW G X W (.BoolOp .Or (a :: b :: rest) pos) (fun sd => M.bind (f sd) fun k => if k = true then M.pure true else g sd) := by
  refine PW.imp (pw_or ha hb) fun σ H Q h => ?_
  obtain ⟨w0, w, sd, S, e, r, q⟩ := h
  refine ⟨w0, w, sd, S, e, r, fin_step q fun w1 S1 d v e1 s1 rv q1 => ?_⟩
  cases (show v = d from rv)
  cases d with
  | true => exact fin_pure q1 s1 rfl
  | false => exact ⟨w0, w1, sd, S1, rfl, r.step e1 s1, q1⟩
theorem v_one {op : BoolOp} {a : Expr} {f : List SV → M D} {pos : Pos} (ha : PV G X W a f) : PV G X W (.BoolOp op [a] pos) f := pe_one ha
theorem v_and {a b : Expr} {rest : List Expr} {f g : List SV → M D} {pos : Pos} (ha : PV G X W a f) (hb : PV G X W (.BoolOp .And (b :: rest) pos) g) :
    PV G X W (.BoolOp .And (a :: b :: rest) pos) (fun sd => M.bind (f sd) fun d => M.bind (toB d) fun k => if k = true then g sd else M.pure (.bl false)) := by
  refine PE.imp (pe_and ha hb) fun σ H Q h => ?_
  obtain ⟨w0, w, sd, S, e, r, q⟩ := h
  refine ⟨w0, w, sd, S, e, r, fin_step q fun w1 S1 d v e1 s1 rv q1 => ?_⟩
  cases d with
  | bl b =>
    cases (show v = .bl b from rv)
    refine ⟨b, rfl, ?_⟩
    cases b with
    | true => exact ⟨w0, w1, sd, S1, rfl, r.step e1 s1, q1⟩
    | false => exact fin_pure (b := V.bl false) q1 s1 rfl
  | _ => exact False.elim q1
theorem v_not {a : Expr} {f : List SV → M D} {pos : Pos} (ha : PV G X W a f) : PV G X W (.UnaryOp .Not a pos) (fun sd => M.bind (f sd) fun d => M.bind (toB d) fun k => M.pure (.bl (!k))) := by
  refine PE.imp (pe_not ha) fun σ H Q h => ?_
  obtain ⟨w0, w, sd, S, e, r, q⟩ := h
  refine ⟨w0, w, sd, S, e, r, fin_step q fun w1 S1 d v e1 s1 rv q1 => ?_⟩
  cases d with
  | bl b =>
    cases (show v = .bl b from rv)
    exact ⟨b, rfl, fin_pure (b := V.bl (!b)) q1 s1 rfl⟩
  | _ => exact False.elim q1
theorem v_ite {c a b : Expr} {f : List SV → M Bool} {fa fb : List SV → M D} {pos : Pos} (hc : PB G X W c f) (ha : PV G X W a fa) (hb : PV G X W b fb) : PV G X W (.IfExp c a b pos) (fun sd => M.bind (f sd) fun k => if k = true then fa sd else fb sd) := by
  refine PE.imp (pe_ifExp hc ha hb) fun σ H Q h => ?_
  obtain ⟨w0, w, sd, S, e, r, q⟩ := h
  refine ⟨w0, w, sd, S, e, r, fin_step q fun w1 S1 d v e1 s1 rv q1 => ?_⟩
  cases (show v = d from rv)
  cases d with
  | true => exact ⟨w0, w1, sd, S1, rfl, r.step e1 s1, q1⟩
  | false => exact ⟨w0, w1, sd, S1, rfl, r.step e1 s1, q1⟩
end
end Ev
set_option maxRecDepth 100000
set_option maxHeartbeats 2000000
namespace Ev
open PySem L2
theorem OpR.imp {X : Cx} {f : Value → Value → Sem Value} {r r' : R2} (h : OpR X f r) (i : ∀ v u H Q, r' v u H Q → r v u H Q) : OpR X f r' := fun pins s σ H x y v u Q I rx ry q => h pins s σ H x y v u Q I rx ry (i _ _ _ _ q)
section
variable {G : Sg} {X : Cx} {w : Wd} {a : Addr} {vs : List V}
theorem sqT_of (cK : G.K = X.K) (h : RdF w a (.tup vs) ∨ KTup G.K a vs) : SqT X.K w.H a vs := by
  rw [← cK]
  exact h.imp (fun z => z.2) id
theorem sqL_of (cK : G.K = X.K) (h : RdF w a (.lst vs) ∨ KLst G.K a vs) : SqL X.K w.H a vs := by
  rw [← cK]
  exact h.imp (fun z => z.2) id
end
def lim : Nat := 16777216
theorem lim_eq : lim = sizeLine := by decide
def dAdd : D → D → M D
  | .int i, .int j => M.pure (.int (i + j))
  | .str x, .str y => if x.length + y.length ≤ lim then M.pure (.str (x ++ y)) else M.stuck
  | .lst a, .lst b => if a.length + b.length ≤ lim then M.pure (.lst (a ++ b)) else M.stuck
  | .tup a, .tup b => if a.length + b.length ≤ lim then M.pure (.tup (a ++ b)) else M.stuck
  | _, _ => M.stuck
def dSub : D → D → M D
  | .int i, .int j => M.pure (.int (i - j))
  | _, _ => M.stuck
def mulOk (i j : Int) : Bool := decide ((Builtin.Int.intBits i : Int) + (Builtin.Int.intBits j : Int) ≤ 134217728)
theorem mulOk_of {i j : Int} (h : mulOk i j = true) : CMulX i j := by
  have z : (Builtin.Int.intBits i : Int) + (Builtin.Int.intBits j : Int) ≤ 134217728 := of_decide_eq_true h
  exact z
theorem mulOk_by {i j : Int} {a b : Nat} (ha : i.natAbs < 2 ^ a) (hb : j.natAbs < 2 ^ b) (h : a + b ≤ 134217728) : mulOk i j = true := by
  unfold mulOk
  exact decide_eq_true (mulx_ok ha hb h)
def dMul : D → D → M D
  | .int i, .int j => if mulOk i j = true then M.pure (.int (i * j)) else M.stuck
  | .lst a, .int k => if a.length * k.toNat ≤ lim ∧ -(2 ^ 63) ≤ k ∧ k < 2 ^ 63 then M.pure (.lst (List.replicate k.toNat a).flatten) else M.stuck
  | .tup a, .int k => if 2 ≤ k ∧ k ≤ 1000 ∧ a.length ≤ 1000 ∧ a.isEmpty = false then M.pure (.tup (List.replicate k.toNat a).flatten) else M.stuck
  | _, _ => M.stuck
def divOk (j : Int) : Bool := decide (0 < j) && decide (j.natAbs.log2 < 9000)
def dFdiv : D → D → M D
  | .int i, .int j => if divOk j = true then M.pure (.int (i / j)) else M.stuck
  | _, _ => M.stuck
def dMod : D → D → M D
  | .int i, .int j => if 0 < j then M.pure (.int (i % j)) else M.stuck
  | _, _ => M.stuck
def dPow : D → D → M D
  | .int i, .int j => if 0 ≤ j ∧ j ≤ 1000000 ∧ i.natAbs < 2 ^ 64 then M.pure (.int (i ^ j.toNat)) else M.stuck
  | _, _ => M.stuck
def dCmpI (p : Int → Int → Bool) : D → D → M D
  | .int i, .int j => M.pure (.bl (p i j))
  | _, _ => M.stuck
section
variable {G : Sg} {X : Cx}
theorem FinG.ite {α β : Type} {rep : Wd → α → β → Prop} {W : Value → Option Addr → Hp → Prop} {w : Wd} {Q : β → Hp → Prop} {c : Prop} [Decidable c] {f : M α} {S : List Ob} (h : FinG G rep W w Q ((if c then f else M.stuck) S)) : c ∧ FinG G rep W w Q (f S) := by
  by_cases hc : c
  · rw [if_pos hc] at h; exact ⟨hc, h⟩
  · rw [if_neg hc] at h; exact h.elim
theorem o_int {f : Value → Value → Sem Value} {C : Int → Int → Prop} {g : Int → Int → V} {g' : Int → Int → D} {dg : D → D → M D} (h : OpR X f (rI C g)) (hg : ∀ w i j, RepV G w (g' i j) (g i j))
    (hd : ∀ d e S W w Q, FinG G (RepV G) W w Q (dg d e S) → ∃ i j, d = .int i ∧ e = .int j ∧ C i j ∧ dg d e S = M.pure (g' i j) S) : OpR X f (rD2 G dg) := by
  refine OpR.imp h fun v u H Q q => ?_
  obtain ⟨W, w, S, d, e, rfl, s, r1, r2, q⟩ := q
  obtain ⟨i, j, rfl, rfl, c, eq⟩ := hd d e S W w Q q
  rw [eq] at q
  exact ⟨i, j, r1, r2, c, fin_pure q s (hg w i j)⟩
theorem o_int0 {f : Value → Value → Sem Value} {g : Int → Int → V} {g' : Int → Int → D} {dg : D → D → M D} (h : OpR X f (rI0 g)) (hg : ∀ w i j, RepV G w (g' i j) (g i j))
    (hd : ∀ d e S W w Q, FinG G (RepV G) W w Q (dg d e S) → ∃ i j, d = .int i ∧ e = .int j ∧ dg d e S = M.pure (g' i j) S) : OpR X f (rD2 G dg) := by
  refine OpR.imp h fun v u H Q q => ?_
  obtain ⟨W, w, S, d, e, rfl, s, r1, r2, q⟩ := q
  obtain ⟨i, j, rfl, rfl, eq⟩ := hd d e S W w Q q
  rw [eq] at q
  exact ⟨i, j, r1, r2, fin_pure q s (hg w i j)⟩
theorem o_cmpI {op : CmpOp} {p : Int → Int → Bool} (h : OpR X (compareOp op) (rI0 fun i j => .bl (p i j))) : OpR X (compareOp op) (rD2 G (dCmpI p)) :=
  o_int0 (g' := fun i j => .bl (p i j)) h (fun _ _ _ => rfl) fun d e S W w Q q => by
    cases d <;> cases e <;> first | exact ⟨_, _, rfl, rfl, rfl⟩ | exact q.elim
theorem o_lt : OpR X (compareOp .Lt) (rD2 G (dCmpI fun i j => decide (i < j))) := o_cmpI op_lt
theorem o_le : OpR X (compareOp .LtE) (rD2 G (dCmpI fun i j => decide (i ≤ j))) := o_cmpI op_le
theorem o_gt : OpR X (compareOp .Gt) (rD2 G (dCmpI fun i j => decide (j < i))) := o_cmpI op_gt
theorem o_ge : OpR X (compareOp .GtE) (rD2 G (dCmpI fun i j => decide (j ≤ i))) := o_cmpI op_ge
theorem o_fdiv : OpR X (binaryOp .FloorDiv) (rD2 G dFdiv) := o_int (g' := fun i j => .int (i / j)) (C := fun i j => CDivW i j) op_fdivW (fun _ _ _ => rfl) fun d e S W w Q q => by
    cases d <;> cases e <;> first
      | exact q.elim
      | (obtain ⟨c, q⟩ := FinG.ite q
         refine ⟨_, _, rfl, rfl, ?_, congrFun (if_pos c) S⟩
         unfold divOk at c
         rw [Bool.and_eq_true] at c
         exact ⟨of_decide_eq_true c.1, of_decide_eq_true c.2⟩)
instance {i j : Int} : Decidable (CDivW i j) := by unfold CDivW; infer_instance
theorem o_mod : OpR X (binaryOp .Mod) (rD2 G dMod) := o_int (g' := fun i j => .int (i % j)) (C := fun _ j => 0 < j) op_mod (fun _ _ _ => rfl) fun d e S W w Q q => by
    cases d <;> cases e <;> first
      | exact q.elim
      | (obtain ⟨c, q⟩ := FinG.ite q
         exact ⟨_, _, rfl, rfl, c, congrFun (if_pos c) S⟩)
instance {i j : Int} : Decidable (CPow i j) := by unfold CPow; infer_instance
theorem o_pow : OpR X (binaryOp .Pow) (rD2 G dPow) := o_int (g' := fun i j => .int (i ^ j.toNat)) (C := CPow) op_pow (fun _ _ _ => rfl) fun d e S W w Q q => by
    cases d <;> cases e <;> first
      | exact q.elim
      | (obtain ⟨c, q⟩ := FinG.ite q
         exact ⟨_, _, rfl, rfl, c, congrFun (if_pos c) S⟩)
theorem o_add (cK : G.K = X.K) : OpR X (binaryOp .Add) (rD2 G dAdd) := by
  refine OpR.imp (op_add.or (op_add_str.or (op_cat.or op_catA))) fun v u H Q q => ?_
  obtain ⟨W, w, S, d, e, rfl, s, r1, r2, q⟩ := q
  cases d <;> cases e <;> first | exact q.elim | skip
  · exact .inl ⟨_, _, r1, r2, fin_pure (b := V.int _) q s rfl⟩
  · obtain ⟨c, q⟩ := FinG.ite q
    exact .inr (.inl ⟨_, _, r1, r2, by rw [← lim_eq]; exact c, fin_pure (b := V.str _) q s rfl⟩)
  · rename_i ds es
    obtain ⟨c, q⟩ := FinG.ite q
    obtain ⟨a, va, ea, ha, ra⟩ := r1
    obtain ⟨b, vb, eb, hb, rb⟩ := r2
    rw [ra.length, rb.length, lim_eq] at c
    refine .inr (.inr (.inr ⟨a, b, va, vb, ea, eb, sqT_of cK ha, sqT_of cK hb, c, fun e => ?_, fun n e => ?_, fun _ _ p hp => ?_⟩))
    · subst e
      have e : ds = [] := List.eq_nil_of_length_eq_zero (by rw [ra.length]; rfl)
      subst e
      exact fin_pure q s ⟨b, vb, rfl, hb, rb⟩
    · subst e
      have e : es = [] := List.eq_nil_of_length_eq_zero (by rw [rb.length]; rfl)
      subst e
      rw [List.append_nil] at q
      exact fin_pure q s ⟨a, va, rfl, ha, ra⟩
    · exact q (w.frz p (.tup (va ++ vb))) _ (Ext.frz hp) (s.frz hp) ⟨p, _, rfl, .inl ⟨.inr rfl, .inl upd_same⟩, RepVs.mono (Ext.frz hp) s.dj _ _ (RepVs.append ra rb)⟩
  · rename_i ds es
    obtain ⟨c, q⟩ := FinG.ite q
    obtain ⟨a, va, ea, fa, ha, ra⟩ := r1
    obtain ⟨b, vb, eb, fb, hb, rb⟩ := r2
    rw [ra.length, rb.length, lim_eq] at c
    refine .inr (.inr (.inl ⟨a, b, va, vb, ea, eb, ha, hb, c, fun p hp => ?_⟩))
    exact q (w.frz p (.lst (va ++ vb))) _ (Ext.frz hp) (s.frz hp) ⟨p, _, rfl, .inr rfl, upd_same, RepVs.mono (Ext.frz hp) s.dj _ _ (RepVs.append ra rb)⟩
instance {i j : Int} : Decidable (CMulW i j) := by unfold CMulW; infer_instance
theorem o_mul (cK : G.K = X.K) : OpR X (binaryOp .Mult) (rD2 G dMul) := by
  refine OpR.imp (op_mulX.or (op_rep.or op_repT)) fun v u H Q q => ?_
  obtain ⟨W, w, S, d, e, rfl, s, r1, r2, q⟩ := q
  cases d <;> cases e <;> first | exact q.elim | skip
  · obtain ⟨c, q⟩ := FinG.ite q
    exact .inl ⟨_, _, r1, r2, mulOk_of c, fin_pure (b := V.int _) q s rfl⟩
  · rename_i ds k
    have q : FinG G (RepV G) W w Q ((if 2 ≤ k ∧ k ≤ 1000 ∧ ds.length ≤ 1000 ∧ ds.isEmpty = false then M.pure (.tup (List.replicate k.toNat ds).flatten) else M.stuck) S) := q
    obtain ⟨⟨c1, c2, c, c3⟩, q⟩ := FinG.ite q
    obtain ⟨a, va, ea, ha, ra⟩ := r1
    rw [ra.length] at c
    refine .inr (.inr ⟨a, k, va, ea, r2, sqT_of cK ha, fun e => ?_, c1, c2, c, fun p hp => ?_⟩)
    · subst e
      have e : ds = [] := List.eq_nil_of_length_eq_zero (by rw [ra.length]; rfl)
      rw [e] at c3
      cases c3
    · exact q (w.frz p _) _ (Ext.frz hp) (s.frz hp) ⟨p, _, rfl, .inl ⟨.inr rfl, .inl upd_same⟩, RepVs.mono (Ext.frz hp) s.dj _ _ (RepVs.rep _ ra)⟩
  · rename_i ds k
    obtain ⟨⟨c, c1, c2⟩, q⟩ := FinG.ite q
    obtain ⟨a, va, ea, fa, ha, ra⟩ := r1
    rw [ra.length, lim_eq] at c
    refine .inr (.inl ⟨a, k, va, ea, r2, ha, c1, c2, c, fun p hp => ?_⟩)
    exact q (w.frz p _) _ (Ext.frz hp) (s.frz hp) ⟨p, _, rfl, .inr rfl, upd_same, RepVs.mono (Ext.frz hp) s.dj _ _ (RepVs.rep _ ra)⟩
end
end Ev
set_option maxRecDepth 100000
set_option maxHeartbeats 2000000
namespace Ev
open PySem PySem.Spec PyProof.Rows L2
structure Rm (b : Bool) (k : Nat) (A : Around) : Prop where
  room : Room k A
  gd : b = true → A.guards = some []
theorem Rm.mono {b : Bool} {j k : Nat} {A : Around} (h : Rm b k A) (l : j ≤ k) : Rm b j A := ⟨h.room.mono l, h.gd⟩
theorem Rm.deeper {b : Bool} {k : Nat} {A : Around} (h : Rm b (k + 1) A) (env : Env) : Rm b k (A.deeper env) := ⟨h.room.deeper env, h.gd⟩
theorem Rm.in1 {b : Bool} {k : Nat} {A : Around} (h : Rm b (k + 1) A) : Rm b k A.in1 := ⟨h.room.in1, h.gd⟩
theorem make_guards {A : Around} {C : Addr} {us : List Value} {kw : List (Str × Value)} (h : A.guards = some []) :
    (A.under (.builtin "type.__call__" ⟨.ref C :: us, kw⟩)).guards = some [] := by
  show pushGuards (Code.guards (.builtin "type.__call__" ⟨.ref C :: us, kw⟩)) A.guards = some []
  rw [h]
  have e : Code.guards (.builtin "type.__call__" ⟨.ref C :: us, kw⟩) = [] := by
    show (if guardIds.contains "type.__call__" = true then _ else _) = _
    rw [if_neg (by decide +kernel)]
  rw [e]
  rfl
theorem Rm.make {b : Bool} {k : Nat} {A : Around} (h : Rm b (k + 1) A) (C : Addr) (us : List Value) (kw : List (Str × Value)) :
    Rm b k (A.under (.builtin "type.__call__" ⟨.ref C :: us, kw⟩)) := ⟨h.room.make C us kw, fun z => make_guards (h.gd z)⟩
structure Gn (P : Program) (w : World) (K : PySem.W.Frag) (mg : Str → Option Value) (base : Heap) (b : Bool) (k : Nat) (f : Addr) (fd : FuncData) (ps : List Str) (sp : Sp) : Prop where
  len : ∀ vs H Q E, sp vs H Q E → vs.length = ps.length
  run : ∀ (A : Around) (fr : List Env) (s : Shared) (H : Hp) (args : Args) (us : List Value) (vs : List V) (Q : VK) (E : XK),
    Rm b k A → Env0 P w K mg base A fr s H → BindsTo s fd args (ps.zip us) → Vals vs us → sp vs H Q E →
    codeAny (model P w) A (.call (.ref f) args) (CR (L2N.CX P w) fr P w H s Q E) s
section
variable {P : Program} {w : World} {K : PySem.W.Frag} {mg : Str → Option Value} {base : Heap} {b : Bool} {j k : Nat} {f : Addr} {fd : FuncData} {sp : Sp} {N ps : List Str}
theorem Gn.mono (F : Gn P w K mg base b j f fd ps sp) (h : j ≤ k) : Gn P w K mg base b k f fd ps sp :=
  ⟨F.len, fun A fr s H args us vs Q E hr => F.run A fr s H args us vs Q E (hr.mono h)⟩
theorem gn_of {name qual : Str} {params : Arguments} {body : List Stmt} {scope : Scope} {dV kV doc pm cdv ct oc : Value} {an od : Option Addr} {osl : Array (Option Value)}
    (lk : K.lookup f = some ⟨oc, od, .func (PySem.W.fnOf name qual params body scope dV kV doc pm an cdv ct), osl⟩) (hcd : PySem.W.codeIn K cdv qual = true) (SC : FnScope N ps scope)
    (len : ∀ vs H Q E, sp vs H Q E → vs.length = ps.length)
    (hb : ∀ (A : Around) (fr : List Env) (s : Shared) (H : Hp) (vs : List V) (Q : VK) (E : XK),
      Rm b k (A.deeper (envOfC qual scope s.heap.objs.size f cdv)) → sp vs H Q E →
      ∃ t, PSs (cxOf (L2N.CX P w) P w K mg base N qual scope f cdv A fr s H E) body t ∧ t { nx := fun _ H' => Q .non H', rt := Q } (start N vs) H) :
    Gn P w K mg base b (k + 1) f (PySem.W.fnOf name qual params body scope dV kV doc pm an cdv ct) ps sp := by
  refine ⟨len, ?_⟩
  intro A fr s H args us vs Q E hr e0 hbind rv hsp
  have inK : K.In s.heap := by
    refine e0.mod.kin.keeps ?_
    exact fun b o e => (e0.bs b o e).1
  have noL : s.heap.NoLimit := by
    refine e0.mod.nolimit.keeps ?_
    exact fun b o e => (e0.bs b o e).1
  have kinds : ∀ y ∈ ps.zip us, scope.names.lookup y.1 = some .local ∨
      (scope.names.lookup y.1 = some .cell ∧ ((cellsFrom (s.heap.objs.size + 1) scope.names []).lookup y.1).isSome = true) := by
    rintro ⟨n, v⟩ hy
    have hn := SC.par n (List.of_mem_zip hy).1
    exact hn.imp id fun q => ⟨q, PySem.W.cellsFrom_some _ _ _ (.inl q)⟩
  refine codeAny_call_function hr.room.depth (inK _ _ lk) rfl SC.co SC.gen rfl ?_ (hbind _ _ _ _ ?_)
  · exact PySem.W.codeRec_of inK hcd
  refine wpAny_newFunctionEnv_cells SC.kind kinds ?_
  rintro env rfl s1 x
  refine ⟨noL.keeps x.toInCall.keep, codeAny_func ?_⟩
  obtain ⟨t, ht, hq⟩ := hb A fr s H vs Q E (hr.deeper _) hsp
  have I := inv_start (CX := L2N.CX P w) (P := P) (w := w) (E := E) SC hr.room.hd e0 (len _ _ _ _ hsp) rv x
  have run := ht.run [] s1 _ H _ I hq
  refine wpAny_mono run ?_ (fun e s' hs => hs)
  intro fl s' hs
  cases fl with
  | ret u =>
    obtain ⟨v, σ', H', J, r', q⟩ := hs
    exact ⟨v, H', J.os, J.bare, J.base, J.hok, r', q⟩
  | next =>
    obtain ⟨σ', H', J, q⟩ := hs
    exact ⟨V.non, H', J.os, J.bare, J.base, J.hok, rfl, q⟩
  | brk =>
    obtain ⟨_, _, _, q⟩ := hs
    exact q.elim
  | cont =>
    obtain ⟨_, _, _, q⟩ := hs
    exact q.elim
end
def spV (G : Sg) (g : List D → M D) : Sp := fun vs H Q E => ∃ w ds S, w.H = H ∧ RepS G w S ∧ RepVs G w ds vs ∧ FinG G (RepV G) E w Q (g ds S)
abbrev PassS (X : Cx) (W : WX) : Prop := ∀ σ, PassesAt (L2N.CX X.prog X.w) X σ (WE W σ)
end Ev
set_option maxRecDepth 100000
set_option maxHeartbeats 2000000
namespace Ev
open PySem PySem.Spec PyProof.Rows L2
structure Ctx (G : Sg) (X : Cx) (W : WX) (k : Nat) : Prop where
  cK : G.K = X.K
  calm : X.calm = true
  rm : Rm G.gd (k + 1) X.A
  nd : X.N.Nodup
  px : PassS X W
  po : PassesOwn (model X.prog X.w) X.A X.env X.xe
theorem Ctx.rm0 {G : Sg} {X : Cx} {W : WX} {k : Nat} (c : Ctx G X W k) : Rm G.gd k X.A := c.rm.mono (Nat.le_succ _)
structure FnA (P : Program) (w : World) (K : PySem.W.Frag) (mg : Str → Option Value) (base : Heap) (G : Sg) (k : Nat) (f : Addr) (sem : List D → M D) : Prop where
  run : ∀ (A : Around) (fr : List Env) (s : Shared) (H : Hp) (us : List Value) (vs : List V) (Q : VK) (E : XK),
    Rm G.gd k A → Env0 P w K mg base A fr s H → Vals vs us → spV G sem vs H Q E → codeAny (model P w) A (.call (.ref f) ⟨us, []⟩) (CR (L2N.CX P w) fr P w H s Q E) s
  kp : PySem.W.keepIn K (.ref f) = true
theorem FnA.of {P : Program} {w : World} {K : PySem.W.Frag} {mg : Str → Option Value} {base : Heap} {G : Sg} {k : Nat} {f : Addr} {fd : FuncData} {ps : List Str} {sem : List D → M D} (g : Gn P w K mg base G.gd k f fd ps (spV G sem)) (b : Binds K fd ps [])
    (kp : PySem.W.keepIn K (.ref f) = true) : FnA P w K mg base G k f sem := by
  refine ⟨fun A fr s H us vs Q E hr e0 r h => ?_, kp⟩
  have hl : us.length = ps.length := r.length.symm.trans (g.len _ _ _ _ h)
  have inK : K.In s.heap := e0.mod.kin.keeps fun b o e => (e0.bs b o e).1
  have hb := b s us inK (by rw [List.append_nil]; exact hl)
  rw [List.append_nil] at hb
  exact g.run A fr s H ⟨us, []⟩ us vs Q E hr e0 hb r h
theorem FnA.mono {P : Program} {w : World} {K : PySem.W.Frag} {mg : Str → Option Value} {base : Heap} {G : Sg} {j k : Nat} {f : Addr} {sem : List D → M D} (F : FnA P w K mg base G j f sem) (h : j ≤ k) : FnA P w K mg base G k f sem :=
  ⟨fun A fr s H us vs Q E hr => F.run A fr s H us vs Q E (hr.mono h), F.kp⟩
abbrev FnX (X : Cx) (G : Sg) (k : Nat) (f : Addr) (sem : List D → M D) : Prop := FnA X.prog X.w X.K X.mg X.base G k f sem
section
variable {G : Sg} {X : Cx} {W : WX} {k n : Nat} {f : Addr} {sem : List D → M D} {x : Str} {p pos apos : Pos} {e o : Expr} {es : List Expr} {fa : List SV → M (List D)} {σ : L2.St}
theorem run_fa {pins : List (Addr × Obj)} {H : Hp} {s : Shared} {Q : VK} {us : List Value} {vs : List V} (c : Ctx G X W k) (F : FnX X G k f sem) (I : Inv X pins σ H s) (r : Vals vs us)
    (h : spV G sem vs H Q (WE W σ)) : wpAny (model X.prog X.w) X.A (call (.ref f) us) (EP X pins σ Q) X.xe s := by
  have body := F.run X.A X.stack s H us vs Q (WE W σ) c.rm0 I.env0 r h
  refine wpAny_call (codeAny_mono body ?_)
  intro res s' hq
  rcases res with e | fl
  · exact c.px σ pins H s e s' I hq
  · cases fl with
    | ret u => exact I.after hq
    | next => exact hq.elim
    | brk => exact hq.elim
    | cont => exact hq.elim
def insOf : Option Ob → Option Nat
  | some (.ins c _) => some c
  | _ => none
def clsOf (d : D) : M Nat := fun S => match d with
  | .ins c _ => some (.ok c, S)
  | .ref n => match insOf S[n]? with
    | some c => some (.ok c, S)
    | none => none
  | _ => none
theorem clsOf_rep {w : Wd} {S : List Ob} {d : D} {v : V} {c : Nat} {S' : List Ob} (s : RepS G w S) (r : RepV G w d v) (h : clsOf d S = some (.ok c, S')) : S' = S ∧ ∃ a dx vs, v = .ref a ∧ w.H a = some (.ins (G.ca c) dx ((G.fn c).zip vs)) := by
  unfold clsOf at h
  cases d with
  | ins c' ds =>
    simp only [Option.some.injEq, Prod.mk.injEq, Except.ok.injEq] at h
    obtain ⟨rfl, rfl⟩ := h
    obtain ⟨a, dx, vs, e1, _, h1, _⟩ := r
    exact ⟨rfl, a, dx, vs, e1, h1⟩
  | ref n =>
    obtain ⟨a, e1, h1⟩ := r
    rcases hn : S[n]? with _ | ⟨_ | _ | ⟨c', ds⟩ | jt⟩
    · simp [hn, insOf] at h
    · simp [hn, insOf] at h
    · simp [hn, insOf] at h
    · simp only [hn, insOf, Option.some.injEq, Prod.mk.injEq, Except.ok.injEq] at h
      obtain ⟨rfl, rfl⟩ := h
      obtain ⟨dx, vs, h2, _⟩ := s.ob n a _ h1 hn
      exact ⟨rfl, a, dx, vs, e1, h2⟩
    · simp [hn, insOf] at h
  | _ => simp at h
theorem clsOf_noerr {d : D} {S S' : List Ob} {x : Exn} : clsOf d S ≠ some (.error x, S') := by
  intro h
  unfold clsOf at h
  split at h
  · simp at h
  · split at h <;> simp at h
  · simp at h
theorem lookup_zip_none {m : Str} : ∀ {fs : List Str} {vs : List V}, m ∉ fs → (fs.zip vs).lookup m = none
  | [], _, _ => rfl
  | _ :: _, [], _ => rfl
  | f :: fs, v :: vs, h => by
    have h1 : ¬ m = f := fun e => h (by rw [e]; exact List.mem_cons_self)
    rw [List.zip_cons_cons, List.lookup_cons]
    have hb : (m == f) = false := by simpa using h1
    rw [hb]
    exact lookup_zip_none fun z => h (List.mem_cons_of_mem _ z)
theorem lookup_zip_some {m : Str} : ∀ {fs : List Str} {vs : List V} {i : Nat} {v : V}, fs.Nodup → fs[i]? = some m → vs[i]? = some v → (fs.zip vs).lookup m = some v
  | [], _, _, _, _, h, _ => by simp at h
  | _ :: _, [], _, _, _, _, h => by simp at h
  | f :: fs, u :: vs, 0, v, _, h1, h2 => by
    simp at h1 h2
    subst h1 h2
    simp
  | f :: fs, u :: vs, i + 1, v, nd, h1, h2 => by
    have nd := List.nodup_cons.mp nd
    have hm : fs[i]? = some m := by simpa using h1
    have hne : (m == f) = false := by
      have : ¬ m = f := fun e => nd.1 (e ▸ List.mem_of_getElem? hm)
      simpa using this
    rw [List.zip_cons_cons, List.lookup_cons, hne]
    exact lookup_zip_some nd.2 hm (by simpa using h2)
structure MethT (X : Cx) (G : Sg) (k : Nat) (m : Str) (tbl : Nat → Option (List D → M D)) : Prop where
  at_ : ∀ c g, tbl c = some g → ∃ f, Cls X.K (G.ca c) ∧ Meth X.K (G.ca c) m f ∧ FnX X G k f g ∧ m ∉ G.fn c
def plainBase : Expr → Bool
  | .Call (.Name _ _) [] [] _ => false
  | _ => true
theorem attr_base {env : Env} {m : Str} {whole : Sem Value} (h : plainBase o = true) : attributeBase o m env whole = whole := by
  unfold attributeBase
  split
  · cases h
  · rfl
theorem star_form {env : Env} : ∀ {l : List Expr}, l.all notStar = true → (backTo pos (starEach l env)).all (fun y => !y.1) = true
  | [], _ => rfl
  | a :: l, h => by
    have h : notStar a = true ∧ l.all notStar = true := by simpa using h
    rw [starEach_cons h.1]
    show (true && (backTo pos (starEach l env)).all (fun y => !y.1)) = true
    rw [star_form h.2]
    rfl
theorem meth_tree {env : Env} {m : Str} {args : List Expr} (hb : plainBase o = true) (hs : args.all notStar = true) (hl : args.length < 30) (hp : (apos.endLine == pos.line) = true) :
    eval (.Call (.Attribute o m apos) args [] pos) env = (do
      let ov ← eval o env
      standAt apos.atName
      let (f, first) ← holding [ov] (getMethod ov m (do return (← importBound o env).getD true))
      callWith pos f first (backTo pos (starEach args env)) (backToKw pos (keywordEach [] env))) := by
  have e1 : eval (.Call (.Attribute o m apos) args [] pos) env = (do
      let ov ← attributeBase o m env (eval o env)
      standAt apos.atName
      methodCall o m apos pos env ov (args.length + ([] : List Keyword).length) (backTo pos (starEach args env)) (backToKw pos (keywordEach [] env))) := rfl
  have few : methodCallForm (args.length + ([] : List Keyword).length) (backTo pos (starEach args env)) (backToKw pos (keywordEach [] env)) = true := by
    unfold methodCallForm
    rw [star_form hs]
    show (true && true && decide (args.length + 0 + 0 < 30)) = true
    rw [decide_eq_true (by omega)]
    rfl
  rw [e1, attr_base hb]
  unfold methodCall
  rw [few]
  have mp : methodCallPos true o env apos pos = (pure pos : Sem Pos) := by
    unfold methodCallPos
    rw [hp]
    rfl
  rw [mp]
  rfl
def pick (tbl : Nat → Option (List D → M D)) (d : D) : M (List D → M D) := M.bind (clsOf d) fun c => match tbl c with
  | some g => M.pure g
  | none => M.stuck
theorem pick_fin {α β : Type} {rep : Wd → α → β → Prop} {W' : Value → Option Addr → Hp → Prop} {w : Wd} {Q : β → Hp → Prop} {S : List Ob} {tbl : Nat → Option (List D → M D)} {d : D} {k : (List D → M D) → M α} {v : V} (s : RepS G w S) (rd : RepV G w d v)
    (h : FinG G rep W' w Q (M.bind (pick tbl d) k S)) : ∃ c g, tbl c = some g ∧ FinG G rep W' w Q (k g S) ∧ clsOf d S = some (.ok c, S) ∧ ∃ a dx vs, v = .ref a ∧ w.H a = some (.ins (G.ca c) dx ((G.fn c).zip vs)) := by
  unfold pick M.bind at h
  rcases hc : clsOf d S with _ | ⟨x | c, S2⟩
  · rw [hc] at h; exact h.elim
  · exact absurd hc clsOf_noerr
  · obtain ⟨rfl, a, dx, vs, e1, h1⟩ := clsOf_rep s rd hc
    rw [hc] at h
    simp only at h
    rcases ht : tbl c with _ | g
    · rw [ht] at h; exact h.elim
    · rw [ht] at h
      exact ⟨c, g, ht, h, rfl, a, dx, vs, e1, h1⟩
theorem v_meth {m : Str} {tbl : Nat → Option (List D → M D)} {fo : List SV → M D} (c : Ctx G X W k) (T : MethT X G k m tbl) (ho : PV G X W o fo) (ha : PLn G X W n (e :: es) fa) (hs : (e :: es).all notStar = true) (hb : plainBase o = true) (hl : (e :: es).length < 30) (hp : (apos.endLine == pos.line) = true) :
    PV G X W (.Call (.Attribute o m apos) (e :: es) [] pos) (fun sd => M.bind (fo sd) fun d => M.bind (pick tbl d) fun g => M.bind (fa sd) fun ds => g (d :: ds)) := by
  constructor
  intro pins s σ H Q I ⟨w0, w, sd, S, eH, r, q⟩
  refine PySem.W.methodCall_KW (thn (ho.run pins s σ H (fun v H1 => ∃ w1 S1 d c g a dx vs, w1.H = H1 ∧ R G w0 w1 sd S1 σ ∧ RepV G w1 d v ∧ tbl c = some g ∧ v = .ref a ∧ w1.H a = some (.ins (G.ca c) dx ((G.fn c).zip vs)) ∧
      FinG G (RepV G) (fun c x H => W c x σ H) w1 Q (M.bind (fa sd) (fun ds => g (d :: ds)) S1)) I ?_) ?_) (meth_tree hb hs hl hp)
  · refine ⟨w0, w, sd, S, eH, r, fin_step q fun w1 S1 d v e1 s1 rv q1 => ?_⟩
    obtain ⟨c', g, ht, q2, _, a, dx, vs, ev, hv⟩ := pick_fin s1 rv q1
    exact ⟨w1, S1, d, c', g, a, dx, vs, rfl, r.step e1 s1, rv, ht, ev, hv, q2⟩
  · rintro u s1 ⟨v, H1, I1, rv, w1, S1, d, c', g, a, dx, vs, eH1, r1, rd, ht, ev, hv, q1⟩
    subst eH1 ev
    obtain rfl : u = Value.ref a := rv
    obtain ⟨f, cl, hm, F, nf⟩ := T.at_ c' g ht
    refine getmeth_ok I1 hv cl hm (lookup_zip_none nf) ?_
    have hs2 : notStar e = true ∧ es.all notStar = true := by simpa using hs
    refine PySem.W.callWith_K (first := [.ref a]) (h₀ := X.base) I.ok.mod.kin hm.kp (thn (ha.run pos pins s1 σ w1.H (fun xs H2 => spV G g (.ref a :: xs) H2 Q (WE W σ)) I1 ?_) ?_) (starEach_cons hs2.1) (starEach_all hs2.2 pos)
    · refine ⟨w0, w1, sd, S1, rfl, r1, fin_step q1 fun w2 S2 ds xs e2 s2 rx q2 => ?_⟩
      exact ⟨w2, d :: ds, S2, rfl, s2, ⟨_, _, rfl, RepV.mono e2 r1.st.dj _ _ rd, rx.1⟩, q2⟩
    · rintro us s2 ⟨xs, H2, I2, rx, q2⟩
      exact ⟨I2.kIn, run_fa (us := .ref a :: us) (vs := .ref a :: xs) c F I2 (.cons rfl rx) q2⟩
def fldsOf (d : D) : M (Nat × List D) := fun S => match d with
  | .ins c ds => some (.ok (c, ds), S)
  | .ref n => match S[n]? with
    | some (.ins c ds) => some (.ok (c, ds), S)
    | _ => none
  | _ => none
theorem fldsOf_rep {w : Wd} {S : List Ob} {d : D} {v : V} {c : Nat} {ds : List D} {S' : List Ob} (s : RepS G w S) (r : RepV G w d v) (h : fldsOf d S = some (.ok (c, ds), S')) :
    S' = S ∧ ∃ a dx vs, v = .ref a ∧ w.H a = some (.ins (G.ca c) dx ((G.fn c).zip vs)) ∧ RepVs G w ds vs := by
  unfold fldsOf at h
  cases d with
  | ins c' es =>
    simp only [Option.some.injEq, Prod.mk.injEq, Except.ok.injEq] at h
    obtain ⟨⟨rfl, rfl⟩, rfl⟩ := h
    obtain ⟨a, dx, vs, e1, _, h1, _, h3⟩ := r
    exact ⟨rfl, a, dx, vs, e1, h1, h3⟩
  | ref n =>
    obtain ⟨a, e1, h1⟩ := r
    rcases hn : S[n]? with _ | ⟨_ | _ | ⟨c', es⟩ | jt⟩
    · simp [hn] at h
    · simp [hn] at h
    · simp [hn] at h
    · simp only [hn, Option.some.injEq, Prod.mk.injEq, Except.ok.injEq] at h
      obtain ⟨⟨rfl, rfl⟩, rfl⟩ := h
      obtain ⟨dx, vs, h2, _, h3⟩ := s.ob n a _ h1 hn
      exact ⟨rfl, a, dx, vs, e1, h2, h3⟩
    · simp [hn] at h
  | _ => simp at h
theorem fldsOf_noerr {d : D} {S S' : List Ob} {x : Exn} : fldsOf d S ≠ some (.error x, S') := by
  intro h
  unfold fldsOf at h
  split at h
  · simp at h
  · split at h <;> simp at h
  · simp at h
inductive At where
  | fld (i : Nat)
  | prop (g : List D → M D)
def noErr {α : Type} (f : M α) : M α := fun S => match f S with
  | some (.ok a, S') => some (.ok a, S')
  | _ => none
def attr (tbl : Nat → Option At) (d : D) : M D := M.bind (fldsOf d) fun cd => match tbl cd.1 with
  | some (.fld i) => match cd.2[i]? with
    | some x => M.pure x
    | none => M.stuck
  | some (.prop g) => noErr (g [d])
  | none => M.stuck
structure AttrT (X : Cx) (G : Sg) (k : Nat) (m : Str) (tbl : Nat → Option At) : Prop where
  fld : ∀ c i, tbl c = some (.fld i) → Cls X.K (G.ca c) ∧ NoAttr X.K (G.ca c) m ∧ (G.fn c).Nodup ∧ (G.fn c)[i]? = some m
  prop : ∀ c g, tbl c = some (.prop g) → ∃ p f, Cls X.K (G.ca c) ∧ PropOf X.K (G.ca c) m p f ∧ FnX X G k f g
theorem run_prop {pins : List (Addr × Obj)} {H : Hp} {s : Shared} {Q : VK} {b : Bool} {E' : Value → Shared → Prop} {a C dx p : Addr} {fs : List (Str × V)} {m : Str} (hr : Rm G.gd (k + 1) X.A) (I : Inv X pins σ H s) (ea : H a = some (.ins C dx fs)) (cl : Cls X.K C)
    (hp : PropOf X.K C m p f) (F : FnX X G k f sem) (h : spV G sem [.ref a] H Q (fun _ _ _ => False)) : wpAny (model X.prog X.w) X.A (getAttr (.ref a) m b) (EP X pins σ Q) E' s := by
  obtain ⟨mA, O, _, _, _, _⟩ := ins_get I.hok ea
  obtain ⟨od, J, _⟩ := O.look
  obtain ⟨rest, hrec⟩ := hp.rec_
  have I1 := I.tok (s.toks + 1)
  have hc : (PySem.W.clsIn X.K C).isSome = true := by
    obtain ⟨cd, hc, _⟩ := PySem.W.any_some cl.hd
    exact hc ▸ rfl
  have pg := PySem.W.plainGet_of (cl.get m)
  have body := F.run X.A.in1 X.stack { s with toks := s.toks + 1 } H [.ref a] [.ref a] Q (fun _ _ _ => False) hr.in1 I1.env0.in1 (.cons rfl .nil) h
  refine PySem.W.get_bind I.kIn J pg.1 (PySem.W.findObj_data hc hp.at_ hp.get hp.tak) pg.2 (wpAny_call (PySem.W.prop_get (s := { s with toks := s.toks + 1 }) I.kIn hrec (codeAny_mono body ?_)))
  intro res s' hq
  rcases res with er | fl
  · obtain ⟨_, _, _, _, _, _, _, _, _, _, _, _, z⟩ := hq
    exact z.elim
  · cases fl with
    | ret u =>
      obtain ⟨v, H', I3, rv, q3⟩ := I1.after hq
      show wpAny _ _ (handedOut u) _ _ _
      rw [PySem.W.handedOut_of (handed_of rv)]
      exact wpAny_pure ⟨v, H', I3, rv, q3⟩
    | next => exact hq.elim
    | brk => exact hq.elim
    | cont => exact hq.elim
theorem noErr_fin {W' W'' : Value → Option Addr → Hp → Prop} {α β : Type} {rep : Wd → α → β → Prop} {w : Wd} {Q : β → Hp → Prop} {S : List Ob} {g : M α} (h : FinG G rep W' w Q (noErr g S)) : FinG G rep W'' w Q (g S) := by
  unfold noErr at h
  rcases hg : g S with _ | ⟨x | a, S2⟩
  · rw [hg] at h; exact h.elim
  · rw [hg] at h; exact h.elim
  · rw [hg] at h; exact h
theorem v_attr {m : Str} {tbl : Nat → Option At} {fo : List SV → M D} (c : Ctx G X W k) (T : AttrT X G k m tbl) (ho : PV G X W o fo) (hb : plainBase o = true) : PV G X W (.Attribute o m pos) (fun sd => M.bind (fo sd) (attr tbl)) := by
  constructor
  intro pins s σ H Q I ⟨w0, w, sd, S, eH, r, q⟩
  refine attr_of (attr_base hb) (thn (ho.run pins s σ H (fun v H1 => ∃ w1 S1 d, w1.H = H1 ∧ RepS G w1 S1 ∧ RepV G w1 d v ∧ FinG G (RepV G) (fun c x H => W c x σ H) w1 Q (attr tbl d S1)) I ?_) ?_)
  · exact ⟨w0, w, sd, S, eH, r, fin_step q fun w1 S1 d v e1 s1 rv q1 => ⟨w1, S1, d, rfl, s1, rv, q1⟩⟩
  · rintro u s1 ⟨v, H1, I1, rv, w1, S1, d, eH1, s1', rd, q1⟩
    subst eH1
    unfold attr M.bind at q1
    rcases hc : fldsOf d S1 with _ | ⟨x | ⟨c', ds⟩, S2⟩
    · rw [hc] at q1; exact q1.elim
    · exact absurd hc fldsOf_noerr
    · obtain ⟨rfl, a, dx, vs, ev, hv, hds⟩ := fldsOf_rep s1' rd hc
      subst ev
      obtain rfl : u = Value.ref a := rv
      rw [hc] at q1
      simp only at q1
      rcases ht : tbl c' with _ | ⟨i | g⟩
      · rw [ht] at q1; exact q1.elim
      · rw [ht] at q1
        simp only at q1
        obtain ⟨cl, na, nd, hi⟩ := T.fld c' i ht
        rcases hx : ds[i]? with _ | y
        · rw [hx] at q1; exact q1.elim
        · rw [hx] at q1
          obtain ⟨z, hz, rz⟩ := hds.get hx
          refine getattr_ok I1 hv cl na (lookup_zip_some nd hi hz) fun u2 s2 I2 r2 => ?_
          exact ⟨z, w1.H, I2, r2, fin_pure q1 s1' rz⟩
      · rw [ht] at q1
        obtain ⟨p, f, cl, hp, F⟩ := T.prop c' g ht
        exact run_prop c.rm I1 hv cl hp F ⟨w1, [d], S2, rfl, s1', ⟨_, _, rfl, rd, rfl⟩, noErr_fin q1⟩
end
end Ev
set_option maxRecDepth 100000
set_option maxHeartbeats 2000000
namespace Ev
open PySem PySem.Spec PyProof.Rows L2
inductive Out where
  | next (sd : List SV) | ret (d : D) | brk (sd : List SV) | cont (sd : List SV) | err (e : Exn) (sd : List SV)
abbrev MS : Type := List SV → List Ob → Option (Out × List Ob)
def FinS (G : Sg) (W : WX) (w0 w : Wd) (D : Ends) : Option (Out × List Ob) → Prop
  | none => False
  | some (.next sd, S) => ∀ w' σ', Stay w w' → R G w0 w' sd S σ' → D.nx σ' w'.H
  | some (.ret d, S) => ∀ w' v, Ext w0 w' → RepS G w' S → RepV G w' d v → D.rt v w'.H
  | some (.brk sd, S) => ∀ w' σ', Stay w w' → R G w0 w' sd S σ' → D.bk σ' w'.H
  | some (.cont sd, S) => ∀ w' σ', Stay w w' → R G w0 w' sd S σ' → D.ct σ' w'.H
  | some (.err e sd, S) => ∀ w' σ' cls x, Stay w w' → R G w0 w' sd S σ' → RepX G w' e cls x → W cls x σ' w'.H
def tsV (G : Sg) (W : WX) (f : MS) : TS := fun D σ H => ∃ w0 w sd S, w.H = H ∧ R G w0 w sd S σ ∧ FinS G W w0 w D (f sd S)
abbrev PSV (G : Sg) (X : Cx) (W : WX) (st : Stmt) (f : MS) : Prop := PS X st (tsV G W f)
abbrev PSsV (G : Sg) (X : Cx) (W : WX) (st : List Stmt) (f : MS) : Prop := PSs X st (tsV G W f)
theorem FinS.stay {G : Sg} {W : WX} {w0 w w1 : Wd} {D : Ends} {r : Option (Out × List Ob)} (e : Stay w w1) (h : FinS G W w0 w D r) : FinS G W w0 w1 D r := by
  rcases r with _ | ⟨_ | _ | _ | _ | _, _⟩
  · exact h
  · exact fun w' σ' s => h w' σ' (e.trans s)
  · exact h
  · exact fun w' σ' s => h w' σ' (e.trans s)
  · exact fun w' σ' s => h w' σ' (e.trans s)
  · exact fun w' σ' c x s => h w' σ' c x (e.trans s)
def exS {α : Type} (f : List SV → M α) (k : α → MS) : MS := fun sd S => match f sd S with
  | none => none
  | some (.error e, S1) => some (.err e sd, S1)
  | some (.ok d, S1) => k d sd S1
def seqS (f g : MS) : MS := fun sd S => match f sd S with
  | some (.next sd', S') => g sd' S'
  | o => o
def nextS : MS := fun sd S => some (.next sd, S)
def stuckS : MS := fun _ _ => none
section
variable {G : Sg} {X : Cx} {W : WX} {k : Nat} {w0 w : Wd} {En : Ends}
theorem exS_step {α β : Type} {rep : Wd → α → β → Prop} {f : List SV → M α} {kk : α → MS} {sd : List SV} {S : List Ob} {σ : L2.St} {Q : β → Hp → Prop} (h : FinS G W w0 w En (exS f kk sd S)) (r : R G w0 w sd S σ)
    (c : ∀ w1 S1 d v, Ext w w1 → R G w0 w1 sd S1 σ → rep w1 d v → FinS G W w0 w1 En (kk d sd S1) → Q v w1.H) : FinG G rep (fun c x H => W c x σ H) w Q (f sd S) := by
  unfold exS at h
  rcases hf : f sd S with _ | ⟨_ | d, S1⟩
  · rw [hf] at h; exact h
  · rw [hf] at h
    exact fun w' cls x e s rx => h w' σ cls x (e.stay r.st.dj) (r.step e s) rx
  · rw [hf] at h
    exact fun w' v e s rv => c w' S1 d v e (r.step e s) rv (FinS.stay (e.stay r.st.dj) h)
theorem ss_nil : PSsV G X W [] nextS := by
  refine PSs.imp pss_nil fun D σ H h => ?_
  obtain ⟨w0, w, sd, S, e, r, q⟩ := h
  subst e
  exact q w σ (Stay.refl w) r
theorem ss_cons {st : Stmt} {rest : List Stmt} {f g : MS} (h1 : PSV G X W st f) (h2 : PSsV G X W rest g) : PSsV G X W (st :: rest) (seqS f g) := by
  refine PSs.imp (pss_cons h1 h2) fun D σ H h => ?_
  obtain ⟨w0, w, sd, S, e, r, q⟩ := h
  refine ⟨w0, w, sd, S, e, r, ?_⟩
  unfold seqS at q
  rcases hf : f sd S with _ | ⟨_ | _ | _ | _ | _, S1⟩
  · rw [hf] at q; exact q
  · rw [hf] at q
    exact fun w' σ' s r' => ⟨w0, w', _, S1, rfl, r', FinS.stay s q⟩
  · rw [hf] at q; exact q
  · rw [hf] at q; exact q
  · rw [hf] at q; exact q
  · rw [hf] at q; exact q
theorem ss_never {sts : List Stmt} : PSsV G X W sts stuckS := ⟨fun _ _ _ _ _ _ ⟨_, _, _, _, _, _, q⟩ => q.elim⟩
def retS (f : List SV → M D) : MS := exS f fun d _ S => some (.ret d, S)
theorem s_ret {e : Expr} {f : List SV → M D} {pos : Pos} (h : PV G X W e f) : PSV G X W (.Return (some e) pos) (retS f) := by
  refine PS.imp (ps_ret h) fun D σ H q => ?_
  obtain ⟨w0, w, sd, S, e, r, q⟩ := q
  exact ⟨w0, w, sd, S, e, r, exS_step q r fun w1 S1 d v _ r1 rv q1 => q1 w1 v r1.ex r1.st rv⟩
def swapFree : Expr → Bool
  | .ListComp .. | .SetComp .. | .DictComp .. => false
  | _ => true
theorem swap_free {e : Expr} {t : Option Expr} {l : Nat} {env : Env} (h : swapFree e = true) : swapsWith e t l env = pure false := by
  cases e <;> first | rfl | cases h
theorem s_expr {e : Expr} {f : List SV → M D} {pos : Pos} (h : PV G X W e f) (hs : swapFree e = true) : PSV G X W (.Expr e pos) (exS f fun _ => nextS) := by
  refine PS.imp (ps_expr h (swap_free hs)) fun D σ H q => ?_
  obtain ⟨w0, w, sd, S, e, r, q⟩ := q
  exact ⟨w0, w, sd, S, e, r, exS_step q r fun w1 S1 d v _ r1 rv q1 => q1 w1 σ (Stay.refl w1) r1⟩
theorem s_if {c : Expr} {a b : List Stmt} {fc : List SV → M Bool} {fa fb : MS} {pos : Pos} (hc : PB G X W c fc) (ha : PSsV G X W a fa) (hb : PSsV G X W b fb) :
    PSV G X W (.If c a b pos) (exS fc fun k => if k = true then fa else fb) := by
  refine PS.imp (ps_if hc ha hb) fun D σ H q => ?_
  obtain ⟨w0, w, sd, S, e, r, q⟩ := q
  refine ⟨w0, w, sd, S, e, r, exS_step q r fun w1 S1 d v _ r1 rv q1 => ?_⟩
  cases (show v = d from rv)
  cases d with
  | true => exact ⟨w0, w1, sd, S1, rfl, r1, q1⟩
  | false => exact ⟨w0, w1, sd, S1, rfl, r1, q1⟩
theorem R.setv {sd : List SV} {S : List Ob} {σ : L2.St} {d : D} {v : V} (r : R G w0 w sd S σ) (rv : RepV G w d v) (i : Nat) : R G w0 w (sd.set i (.val d)) S (σ.set i (some v)) := by
  have key : ∀ {j : Nat} {x : SV}, (sd.set i (.val d))[j]? = some x → (j = i ∧ i < sd.length ∧ x = .val d) ∨ (j ≠ i ∧ sd[j]? = some x) := fun {j x} h => by
    by_cases e : i = j
    · subst e
      by_cases l : i < sd.length
      · rw [List.getElem?_set_self l] at h
        cases h
        exact .inl ⟨rfl, l, rfl⟩
      · rw [List.getElem?_eq_none (by simpa using l)] at h
        cases h
    · rw [List.getElem?_set_ne e] at h
      exact .inr ⟨fun z => e z.symm, h⟩
  refine ⟨r.ex, r.st, by rw [List.length_set, List.length_set]; exact r.ln, fun j x h => ?_, fun j o h => ?_, fun j1 j2 o o' a h1 h2 h3 h4 => ?_, fun a o e h => by
    rcases key h with ⟨_, _, e⟩ | ⟨ne, h⟩
    · cases e
    · rw [List.getElem?_set_ne (fun z => ne z.symm)]
      exact r.sf a o e h⟩
  · rcases key h with ⟨rfl, l, e⟩ | ⟨ne, h⟩
    · cases e
      exact ⟨v, List.getElem?_set_self (by rw [r.ln]; exact l), rv⟩
    · rw [List.getElem?_set_ne (fun z => ne z.symm)]
      exact r.vl j x h
  · rcases key h with ⟨_, _, e⟩ | ⟨ne, h⟩
    · cases e
    · rw [List.getElem?_set_ne (fun z => ne z.symm)]
      exact r.ow j o h
  · rcases key h1 with ⟨_, _, e⟩ | ⟨n1, h1⟩
    · cases e
    · rcases key h2 with ⟨_, _, e⟩ | ⟨n2, h2⟩
      · cases e
      · rw [List.getElem?_set_ne (fun z => n1 z.symm)] at h3
        rw [List.getElem?_set_ne (fun z => n2 z.symm)] at h4
        exact r.ap j1 j2 o o' a h1 h2 h3 h4
abbrev Tgt : Type := D → List SV → List Ob → Option (List SV × List Ob)
abbrev Tgts : Type := List D → List SV → List Ob → Option (List SV × List Ob)
def FinT (G : Sg) (w0 w : Wd) (σ : L2.St) (ts : List Nat) (Q : L2.St → Hp → Prop) : Option (List SV × List Ob) → Prop
  | none => False
  | some (sd, S) => ∀ w' σ', Stay w w' → R G w0 w' sd S σ' → (∀ i, i ∉ ts → σ'[i]? = σ[i]?) → Q σ' w'.H
def tgV (G : Sg) (ts : List Nat) (f : Tgt) : TG := fun v σ H Q => ∃ w0 w sd S d, w.H = H ∧ R G w0 w sd S σ ∧ RepV G w d v ∧ FinT G w0 w σ ts Q (f d sd S)
def tgsV (G : Sg) (ts : List Nat) (n : Nat) (f : Tgts) : TGs := fun vs σ H Q => ∃ w0 w sd S ds, w.H = H ∧ R G w0 w sd S σ ∧ RepVs G w ds vs ∧ ds.length = n ∧ FinT G w0 w σ ts Q (f ds sd S)
abbrev PGV (G : Sg) (X : Cx) (ts : List Nat) (t : Expr) (f : Tgt) : Prop := PG X t (tgV G ts f)
abbrev PGsV (G : Sg) (X : Cx) (ts : List Nat) (n : Nat) (t : List Expr) (f : Tgts) : Prop := PGs X t (tgsV G ts n f)
theorem PG.imp {t : Expr} {g g' : TG} (h : PG X t g) (i : ∀ v σ H Q, g' v σ H Q → g v σ H Q) : PG X t g' := ⟨fun p s σ H v u Q I r q => h.run p s σ H v u Q I r (i _ _ _ _ q)⟩
theorem PGs.imp {t : List Expr} {g g' : TGs} (h : PGs X t g) (i : ∀ v σ H Q, g' v σ H Q → g v σ H Q) : PGs X t g' := ⟨fun p s σ H v u Q I r q => h.run p s σ H v u Q I r (i _ _ _ _ q)⟩
theorem PG.or {t : Expr} {g g' : TG} (h : PG X t g) (h' : PG X t g') : PG X t (fun v σ H Q => g v σ H Q ∨ g' v σ H Q) := ⟨fun p s σ H v u Q I r q => q.elim (h.run p s σ H v u Q I r) (h'.run p s σ H v u Q I r)⟩
def setT (i : Nat) : Tgt := fun d sd S => some (sd.set i (.val d), S)
theorem g_name {i : Nat} {x : Str} {pos : Pos} (hN : X.N.Nodup) (hi : X.N[i]? = some x) (hx : Loc X.env.scope x) (hf : X.fn x = true ∨ X.env.scope.names.lookup x = some .local) : PGV G X [i] (.Name x pos) (setT i) := by
  refine PG.imp (pg_name hN hi hx hf) fun v σ H Q q => ?_
  obtain ⟨w0, w, sd, S, d, e, r, rv, q⟩ := q
  subst e
  refine q w (σ.set i (some v)) (Stay.refl w) (r.setv rv i) fun j hj => ?_
  rw [List.getElem?_set_ne (fun z => hj (by rw [z]; exact List.mem_cons_self))]
theorem gs_nil : PGsV G X [] 0 [] (fun _ sd S => some (sd, S)) := by
  refine PGs.imp pgs_nil fun vs σ H Q q => ?_
  obtain ⟨w0, w, sd, S, ds, e, r, rv, hl, q⟩ := q
  subst e
  have ed : ds = [] := List.eq_nil_of_length_eq_zero hl
  subst ed
  exact ⟨rv, q w σ (Stay.refl w) r fun _ _ => rfl⟩
def consT (f : Tgt) (g : Tgts) : Tgts := fun ds sd S => match ds with
  | [] => none
  | d :: ds => match f d sd S with
    | none => none
    | some (sd1, S1) => g ds sd1 S1
theorem assignEach_cons {e : Expr} {es : List Expr} {env : Env} (h : notStar e = true) : assignEach (e :: es) env = (false, assign e env) :: assignEach es env := by
  cases e <;> first | rfl | cases h
theorem gs_cons {ts us : List Nat} {n : Nat} {e : Expr} {es : List Expr} {f : Tgt} {g : Tgts} (h1 : PGV G X ts e f) (h2 : PGsV G X us n es g) (hs : notStar e = true) : PGsV G X (ts ++ us) (n + 1) (e :: es) (consT f g) := by
  refine PGs.imp (pgs_cons h1 h2 (by rw [assignEach_cons hs]; rfl)) fun vs σ H Q q => ?_
  obtain ⟨w0, w, sd, S, ds, e, r, rv, hl, q⟩ := q
  subst e
  cases ds with
  | nil => exact q.elim
  | cons d ds =>
    obtain ⟨v, vr, ev, rd, rr⟩ := rv
    refine ⟨v, vr, ev, w0, w, sd, S, d, rfl, r, rd, ?_⟩
    unfold consT at q
    simp only at q
    rcases hf : f d sd S with _ | ⟨sd1, S1⟩
    · rw [hf] at q; exact q
    · rw [hf] at q
      simp only at q
      intro w1 σ1 s1 r1 k1
      refine ⟨w0, w1, sd1, S1, ds, rfl, r1, RepVs.stay s1 _ _ rr, by simpa using hl, ?_⟩
      rcases hg : g ds sd1 S1 with _ | ⟨sd2, S2⟩
      · rw [hg] at q; exact q
      · rw [hg] at q
        intro w2 σ2 s2 r2 k2
        refine q w2 σ2 (s1.trans s2) r2 fun i hi => ?_
        rw [k2 i (fun z => hi (List.mem_append_right _ z)), k1 i (fun z => hi (List.mem_append_left _ z))]
def tupT (n : Nat) (g : Tgts) : Tgt := fun d sd S => match d with
  | .tup ds => if ds.length = n then g ds sd S else none
  | .lst ds => if ds.length = n then g ds sd S else none
  | _ => none
theorem assignEach_len {env : Env} : ∀ {es : List Expr}, es.all notStar = true → (assignEach es env).length = es.length ∧ (assignEach es env).findIdx? (·.1) = none
  | [], _ => ⟨rfl, rfl⟩
  | e :: es, h => by
    have h : notStar e = true ∧ es.all notStar = true := by simpa using h
    obtain ⟨h1, h2⟩ := assignEach_len (env := env) h.2
    rw [assignEach_cons h.1]
    refine ⟨by rw [List.length_cons, List.length_cons, h1], ?_⟩
    rw [List.findIdx?_cons]
    show (if false = true then _ else _) = none
    rw [if_neg Bool.false_ne_true, h2]
    rfl
theorem g_tup {ts : List Nat} {es : List Expr} {j n : Nat} {g : Tgts} {pos : Pos} (cK : G.K = X.K) (hc : X.calm = true) (h : PGsV G X ts n es g) (hs : es.all notStar = true) (hn : es.length = n) : PGV G X ts (.Tuple es j pos) (tupT n g) := by
  have hl := assignEach_len (env := X.env) hs
  refine PG.imp (PG.or (pg_tup hc h (hl.1.trans hn) hl.2) (pg_lst hc h (hl.1.trans hn) hl.2)) fun v σ H Q q => ?_
  obtain ⟨w0, w, sd, S, d, e, r, rv, q⟩ := q
  subst e
  cases d with
  | tup ds =>
    obtain ⟨a, vs, ev, ha, rs⟩ := rv
    by_cases hd : ds.length = n
    · simp only [tupT, if_pos hd] at q
      exact .inl ⟨a, vs, ev, sqT_of cK ha, by rw [← rs.length]; exact hd, w0, w, sd, S, ds, rfl, r, rs, hd, q⟩
    · simp only [tupT, if_neg hd] at q
      exact q.elim
  | lst ds =>
    obtain ⟨a, vs, ev, fa, ha, rs⟩ := rv
    by_cases hd : ds.length = n
    · simp only [tupT, if_pos hd] at q
      exact .inr ⟨a, vs, ev, .of ha, by rw [← rs.length]; exact hd, w0, w, sd, S, ds, rfl, r, rs, hd, q⟩
    · simp only [tupT, if_neg hd] at q
      exact q.elim
  | _ => exact q.elim
def asgS (f : List SV → M D) (t : Tgt) : MS := exS f fun d sd S => match t d sd S with
  | some (sd', S') => some (.next sd', S')
  | none => none
theorem asg_fin {ts : List Nat} {t : Tgt} {d : D} {sd : List SV} {S : List Ob} {σ : L2.St} {v : V} (q : FinS G W w0 w En (match t d sd S with | some (sd', S') => some (.next sd', S') | none => none)) (r : R G w0 w sd S σ) (rv : RepV G w d v) : tgV G ts t v σ w.H En.nx := by
  refine ⟨w0, w, sd, S, d, rfl, r, rv, ?_⟩
  rcases ht : t d sd S with _ | ⟨sd1, S1⟩
  · rw [ht] at q; exact q
  · rw [ht] at q
    exact fun w' σ' s r' _ => q w' σ' s r'
theorem s_asg {ts : List Nat} {tg e : Expr} {f : List SV → M D} {t : Tgt} {pos : Pos} (he : PV G X W e f) (hg : PGV G X ts tg t) (hs : swapsWithSole [tg] e pos.line X.env = pure false) (hw : swappedStores [tg] e X.env = pure none) (hst : notStar tg = true) :
    PSV G X W (.Assign [tg] e pos) (asgS f t) := by
  refine PS.imp (ps_asg he hg hs hw (by rw [assignEach_cons hst]; rfl)) fun D σ H q => ?_
  obtain ⟨w0, w, sd, S, e, r, q⟩ := q
  exact ⟨w0, w, sd, S, e, r, exS_step q r fun w1 S1 d v e1 r1 rv q1 => asg_fin q1 r1 rv⟩
theorem s_set {i : Nat} {x : Str} {e : Expr} {f : List SV → M D} {pos pos' : Pos} (c : Ctx G X W k) (hi : X.N[i]? = some x) (hx : Loc X.env.scope x) (he : PV G X W e f) (hs : swapFree e = true) (hf : X.fn x = true ∨ X.env.scope.names.lookup x = some .local) :
    PSV G X W (.Assign [.Name x pos'] e pos) (asgS f (setT i)) := by
  refine PS.imp (ps_set c.nd hi hx he (swap_free hs) hf) fun D σ H q => ?_
  obtain ⟨w0, w, sd, S, e, r, q⟩ := q
  exact ⟨w0, w, sd, S, e, r, exS_step q r fun w1 S1 d v e1 r1 rv q1 => q1 w1 (σ.set i (some v)) (Stay.refl w1) (r1.setv rv i)⟩
def parS (i j : Nat) (f : List SV → M (List D)) : MS := exS f fun ds sd S => match ds with
  | [a, b] => some (.next ((sd.set i (.val a)).set j (.val b)), S)
  | _ => none
theorem s_par {n i j : Nat} {x y : Str} {a b : Expr} {f : List SV → M (List D)} {px py pt pos : Pos} {kt k2 : Nat} {pt2 : Pos} (c : Ctx G X W k) (hi : X.N[i]? = some x) (hj : X.N[j]? = some y) (hij : i ≠ j)
    (hx : X.env.scope.names.lookup x = some .local) (hy : X.env.scope.names.lookup y = some .local) (ha : PLn G X W n [a, b] f) (hw : swappedStores [.Tuple [.Name x px, .Name y py] kt pt] (.Tuple [a, b] k2 pt2) X.env = pure (some [x, y])) :
    PSV G X W (.Assign [.Tuple [.Name x px, .Name y py] kt pt] (.Tuple [a, b] k2 pt2) pos) (parS i j f) := by
  refine PS.imp (ps_par c.calm c.nd hi hj hij hx hy ha hw rfl) fun D σ H q => ?_
  obtain ⟨w0, w, sd, S, e, r, q⟩ := q
  refine ⟨w0, w, sd, S, e, r, exS_step q r fun w1 S1 ds vs e1 r1 rv q1 => ?_⟩
  rcases ds with _ | ⟨d1, _ | ⟨d2, _ | ⟨d3, ds⟩⟩⟩
  · exact q1.elim
  · exact q1.elim
  · obtain ⟨⟨v1, t1, e1, h1, v2, t2, e2, h2, e3⟩, _⟩ := rv
    subst e1 e2
    cases (show t2 = [] from e3)
    exact ⟨v1, v2, rfl, q1 w1 _ (Stay.refl w1) ((r1.setv h1 i).setv h2 j)⟩
  · exact q1.elim
end
end Ev
set_option maxRecDepth 100000
set_option maxHeartbeats 2000000
namespace Ev
open PySem PySem.Spec PyProof.Rows L2
structure Yld (G : Sg) (w : Wd) (ds : List D) (J : It) : Prop where
  stop : ∀ w' i, Stay w w' → ds.length ≤ i → J.stop i w'.H
  go : ∀ w' i, Stay w w' → i < ds.length → J.go i w'.H
  yld : ∀ w' i d x H' S, Stay w w' → RepS G w' S → ds[i]? = some d → J.yld i w'.H x H' → ∃ w'', w''.H = H' ∧ Ext w' w'' ∧ RepS G w'' S ∧ RepV G w'' d x
abbrev PIV (G : Sg) (X : Cx) (W : WX) (tg iter : Expr) (f : List SV → M (List D)) : Prop := PI X tg iter (fun σ H Rr => teG G (Yld G) W f σ H Rr)
theorem PI.imp {X : Cx} {t e : Expr} {g g' : TI} (h : PI X t e g) (i : ∀ σ H Q, g' σ H Q → g σ H Q) : PI X t e g' := ⟨fun p s σ H R I q => h.run p s σ H R I (i _ _ _ q)⟩
def seqOf : D → M (List D)
  | .lst ds => M.pure ds
  | .tup ds => M.pure ds
  | .scr ds => M.pure ds
  | _ => M.stuck
section
variable {G : Sg} {X : Cx} {W : WX} {k : Nat} {w : Wd}
theorem RepVs.get_len {ds : List D} {vs : List V} (h : RepVs G w ds vs) {i : Nat} : i < ds.length → ∃ v, vs[i]? = some v := fun hi => by
  obtain ⟨v, e, _⟩ := h.get (List.getElem?_eq_getElem hi)
  exact ⟨v, e⟩
theorem yld_list (cK : G.K = X.K) {ds : List D} {vs : List V} {a : Addr} (h : RdF w a (.lst vs) ∨ KLst G.K a vs) (r : RepVs G w ds vs) : Yld G w ds (Itl X.K a) := by
  have sq : ∀ w', Stay w w' → SqL X.K w'.H a vs := fun w' s => sqL_of cK (h.imp (fun z => z.stay s) id)
  refine ⟨fun w' i s hi => ⟨vs, sq w' s, by rw [← r.length]; exact hi⟩, fun w' i s hi => ?_, fun w' i d x H' S s st hd hy => ?_⟩
  · obtain ⟨v, e⟩ := r.get_len hi
    exact ⟨vs, v, sq w' s, e⟩
  · obtain ⟨e, hx⟩ := hy
    obtain ⟨v, ev, rv⟩ := r.get hd
    have := hx vs (sq w' s)
    rw [ev] at this
    cases this
    exact ⟨w', e.symm, Ext.refl _, st, RepV.stay s _ _ rv⟩
theorem yld_tup (cK : G.K = X.K) {ds : List D} {vs : List V} {a : Addr} (h : RdF w a (.tup vs) ∨ KTup G.K a vs) (r : RepVs G w ds vs) : Yld G w ds (Itt X.K a) := by
  have sq : ∀ w', Stay w w' → SqT X.K w'.H a vs := fun w' s => sqT_of cK (h.imp (fun z => z.stay s) id)
  refine ⟨fun w' i s hi => ⟨vs, sq w' s, by rw [← r.length]; exact hi⟩, fun w' i s hi => ?_, fun w' i d x H' S s st hd hy => ?_⟩
  · obtain ⟨v, e⟩ := r.get_len hi
    exact ⟨vs, v, sq w' s, e⟩
  · obtain ⟨e, hx⟩ := hy
    obtain ⟨v, ev, rv⟩ := r.get hd
    have := hx vs (sq w' s)
    rw [ev] at this
    cases this
    exact ⟨w', e.symm, Ext.refl _, st, RepV.stay s _ _ rv⟩
theorem PI.or {t e : Expr} {g g' : TI} (h : PI X t e g) (h' : PI X t e g') : PI X t e (fun σ H Q => g σ H Q ∨ g' σ H Q) := ⟨fun p s σ H R I q => q.elim (h.run p s σ H R I) (h'.run p s σ H R I)⟩
theorem i_seq {tg e : Expr} {f : List SV → M D} (c : Ctx G X W k) (he : PV G X W e f) : PIV G X W tg e (fun sd => M.bind (f sd) seqOf) := by
  refine PI.imp (PI.or (pi_list he) (pi_tup he)) fun σ H Q q => ?_
  obtain ⟨w0, w, sd, S, e, r, q⟩ := q
  rcases hf : f sd S with _ | ⟨x | d, S1⟩
  · simp only [M.bind, hf] at q; exact q.elim
  · refine .inl ⟨w0, w, sd, S, e, r, ?_⟩
    simp only [M.bind, hf] at q
    rw [hf]
    exact q
  · simp only [M.bind, hf] at q
    cases d with
    | lst ds =>
      refine .inl ⟨w0, w, sd, S, e, r, ?_⟩
      rw [hf]
      intro w' v e1 s1 rv
      obtain ⟨a, vs, ev, fa, ha, rs⟩ := rv
      have hh : RdF w' a (.lst vs) ∨ KLst G.K a vs := .inl ⟨fa, .inl ha⟩
      exact ⟨a, ev, ⟨vs, sqL_of c.cK hh⟩, q w' _ e1 s1 (yld_list c.cK hh rs)⟩
    | scr ds =>
      refine .inl ⟨w0, w, sd, S, e, r, ?_⟩
      rw [hf]
      intro w' v e1 s1 rv
      obtain ⟨a, vs, ev, hh, rs⟩ := rv
      exact ⟨a, ev, ⟨vs, sqL_of c.cK hh⟩, q w' _ e1 s1 (yld_list c.cK hh rs)⟩
    | tup ds =>
      refine .inr ⟨w0, w, sd, S, e, r, ?_⟩
      rw [hf]
      intro w' v e1 s1 rv
      obtain ⟨a, vs, ev, hh, rs⟩ := rv
      exact ⟨a, ev, ⟨vs, sqT_of c.cK hh⟩, q w' _ e1 s1 (yld_tup c.cK hh rs)⟩
    | _ => exact q.elim
def rngD (lo : Int) (n : Nat) : List D := (List.range n).map fun i => .int (lo + (i : Nat))
theorem yld_rng {lo : Int} {n : Nat} : Yld G w (rngD lo n) (Itr lo n) := by
  have hl : (rngD lo n).length = n := by unfold rngD; rw [List.length_map, List.length_range]
  refine ⟨fun w' i s hi => by rw [hl] at hi; exact hi, fun w' i s hi => by rw [hl] at hi; exact hi, fun w' i d x H' S s st hd hy => ?_⟩
  obtain ⟨e1, e2⟩ := hy
  refine ⟨w', e1.symm, Ext.refl _, st, ?_⟩
  unfold rngD at hd
  rw [List.getElem?_map] at hd
  rcases hr : (List.range n)[i]? with _ | j
  · rw [hr] at hd; cases hd
  · rw [hr] at hd
    have hj : i = j := by
      have h2 := List.getElem?_eq_some_iff.mp hr
      obtain ⟨h3, h4⟩ := h2
      rw [List.getElem_range] at h4
      exact h4
    cases hd
    rw [hj] at e2
    exact e2
def rng1 : List D → M (List D)
  | [.int j] => if -(2 ^ 62) ≤ j ∧ j < 2 ^ 62 then M.pure (rngD 0 j.toNat) else M.stuck
  | _ => M.stuck
def rng2 : List D → M (List D)
  | [.int i, .int j] => if (-(2 ^ 62) ≤ i ∧ i < 2 ^ 62) ∧ -(2 ^ 62) ≤ j ∧ j < 2 ^ 62 then M.pure (rngD i (j - i).toNat) else M.stuck
  | _ => M.stuck
theorem i_rng1 {tg a : Expr} {n : Nat} {f : List SV → M (List D)} {p pos : Pos} (hg : Gl X "range") (hm : X.mg "range" = none) (ha : PLn G X W n [a] f) (hs : notStar a = true) : PIV G X W tg (.Call (.Name "range" p) [a] [] pos) (fun sd => M.bind (f sd) rng1) := by
  refine PI.imp (pi_range1 hg hm ha (starEach_cons hs)) fun σ H Q q => ?_
  obtain ⟨w0, w, sd, S, e, r, q⟩ := q
  refine ⟨w0, w, sd, S, e, r, fin_step q fun w1 S1 ds vs e1 s1 rv q1 => ?_⟩
  rcases ds with _ | ⟨d, _ | ⟨d2, ds⟩⟩
  · exact q1.elim
  · cases d with
    | int j =>
      obtain ⟨v, t, ev, h1, h2⟩ := rv.1
      cases (show t = [] from h2)
      cases (show v = .int j from h1)
      obtain ⟨⟨c1, c2⟩, q1⟩ := FinG.ite q1
      exact ⟨j, ev, c1, c2, fin_pure q1 s1 yld_rng⟩
    | _ => exact q1.elim
  · cases d <;> exact q1.elim
def loopS (t : Tgt) (body : MS) : List D → MS
  | [] => nextS
  | d :: ds => fun sd S => match t d sd S with
    | none => none
    | some (sd1, S1) => match body sd1 S1 with
      | some (.next sd2, S2) => loopS t body ds sd2 S2
      | some (.cont sd2, S2) => loopS t body ds sd2 S2
      | some (.brk sd2, S2) => some (.next sd2, S2)
      | o => o
def forS (f : List SV → M (List D)) (t : Tgt) (body : MS) : MS := exS f (loopS t body)
def setFree : Expr → Bool
  | .Set .. => false
  | _ => true
theorem set_free {e : Expr} {env : Env} (h : setFree e = true) : ∀ x, foldedSetIterable e env x = pure x := by
  intro x
  cases e <;> first | rfl | cases h
theorem drop_cons {α : Type} {l : List α} {i : Nat} (h : i < l.length) : ∃ d, l[i]? = some d ∧ l.drop i = d :: l.drop (i + 1) := ⟨l[i], List.getElem?_eq_getElem h, List.drop_eq_getElem_cons h⟩
theorem s_for {ts : List Nat} {tg iter : Expr} {body : List Stmt} {f : List SV → M (List D)} {t : Tgt} {fb : MS} {pos : Pos} (c : Ctx G X W k) (hi : PIV G X W tg iter f) (hg : PGV G X ts tg t) (hb : PSsV G X W body fb) (hs : setFree iter = true) :
    PSV G X W (.For tg iter body [] pos) (forS f t fb) := by
  refine PS.imp (ps_for c.po c.calm hi hg hb (set_free hs)) fun En σ H q => ?_
  obtain ⟨w0, w, sd, S, e, r, q⟩ := q
  refine ⟨w0, w, sd, S, e, r, exS_step q r fun w1 S1 ds J e1 r1 Y q1 => ?_⟩
  refine ⟨fun i m σ H => m = ds.length - i ∧ i ≤ ds.length ∧ ∃ w sd S, w.H = H ∧ Stay w1 w ∧ R G w0 w sd S σ ∧ FinS G W w0 w En (loopS t fb (ds.drop i) sd S), ⟨_, rfl, Nat.zero_le _, w1, sd, S1, rfl, Stay.refl _, r1, q1⟩, ?_⟩
  rintro i m σ2 H2 ⟨rfl, hi2, w2, sd2, S2, rfl, st2, r2, q2⟩
  by_cases hlt : i < ds.length
  · obtain ⟨d, hd, hdr⟩ := drop_cons hlt
    rw [hdr] at q2
    refine .inr ⟨Y.go w2 i st2 hlt, _, fun σ' H' hN => ⟨ds.length - (i + 1), by omega, hN⟩, fun x H' hy => ?_⟩
    obtain ⟨w3, rfl, e3, s3, rx⟩ := Y.yld w2 i d x H' S2 st2 r2.st hd hy
    have r3 := r2.step e3 s3
    refine ⟨w0, w3, sd2, S2, d, rfl, r3, rx, ?_⟩
    unfold loopS at q2
    rcases ht : t d sd2 S2 with _ | ⟨sd4, S4⟩
    · rw [ht] at q2; exact q2
    · rw [ht] at q2
      simp only at q2
      intro w4 σ4 st4 r4 _
      refine ⟨w0, w4, sd4, S4, rfl, r4, ?_⟩
      have st24 : Stay w2 w4 := (e3.stay r2.st.dj).trans st4
      rcases hb : fb sd4 S4 with _ | ⟨_ | _ | _ | _ | _, S5⟩
      · rw [hb] at q2; exact q2
      · rw [hb] at q2
        exact fun w5 σ5 st5 r5 => ⟨rfl, hlt, w5, _, S5, rfl, st2.trans (st24.trans st5), r5, FinS.stay (st24.trans st5) q2⟩
      · rw [hb] at q2; exact q2
      · rw [hb] at q2
        exact fun w5 σ5 st5 r5 => q2 w5 σ5 (st24.trans st5) r5
      · rw [hb] at q2
        exact fun w5 σ5 st5 r5 => ⟨rfl, hlt, w5, _, S5, rfl, st2.trans (st24.trans st5), r5, FinS.stay (st24.trans st5) q2⟩
      · rw [hb] at q2
        exact fun w5 σ5 cl y st5 r5 => q2 w5 σ5 cl y (st24.trans st5) r5
  · have e : i = ds.length := by omega
    subst e
    rw [List.drop_length] at q2
    exact .inl ⟨Y.stop w2 _ st2 (Nat.le_refl _), q2 w2 σ2 (Stay.refl _) r2⟩
end
end Ev
set_option maxRecDepth 100000
set_option maxHeartbeats 2000000
namespace Ev
open PySem PySem.Spec PyProof.Rows L2
def Wd.wr (w : Wd) (p : Addr) (o : HO) : Wd := ⟨w.m, w.F, upd w.H p o, w.x⟩
def Wd.fz (w : Wd) (p : Addr) : Wd := ⟨w.m, fun a => w.F a ∨ a = p, w.H, w.x⟩
section
variable {G : Sg} {w w1 : Wd} {S : List Ob} {p : Addr} {o : HO}
theorem Stay.wr (h : ¬ w.F p) : Stay w (w.wr p o) := ⟨⟨[], by simp [Wd.wr]⟩, fun _ z => z, fun a u f z => by
  show upd w.H p o a = some u
  rw [upd_ne (fun e => h (by rw [← e]; exact f))]; exact z⟩
theorem RepS.wr (s : RepS G w S) (hf : ¬ w.F p) (hm : p ∉ w.m) : RepS G (w.wr p o) S := by
  refine ⟨s.len, s.nd, s.dj, fun a h => ?_, fun n a u h1 h2 => ?_⟩
  · show upd w.H p o a ≠ none
    rw [upd_ne (fun e => hf (by rw [← e]; exact h))]
    exact s.fh a h
  · have ne : a ≠ p := fun z => hm (z ▸ List.mem_of_getElem? h1)
    exact RepO.to (upd_ne ne) (Stay.wr hf) (s.ob n a u h1 h2)
theorem Ext.wr (e : Ext w1 w) (hp : w1.H p = none) : Ext w1 (w.wr p o) := by
  refine ⟨e.m, e.F, fun b u hm h => ?_, e.nm, e.nF, fun b h => ?_⟩
  · show upd w.H p o b = some u
    rw [upd_ne (fun z => by rw [z, hp] at h; cases h)]
    exact e.H b u hm h
  · have h : upd w.H p o b = none := h
    by_cases z : b = p
    · rw [z]; exact hp
    · rw [upd_ne z] at h
      exact e.al b h
theorem Stay.fz : Stay w (w.fz p) := ⟨⟨[], by simp [Wd.fz]⟩, fun _ z => .inl z, fun _ _ _ z => z⟩
theorem RepS.fz (s : RepS G w S) (hm : p ∉ w.m) (hh : w.H p ≠ none) : RepS G (w.fz p) S := by
  refine ⟨s.len, s.nd, fun a h => ?_, fun a h => ?_, fun n a u h1 h2 => RepO.to (w := w) (w' := w.fz p) rfl Stay.fz (s.ob n a u h1 h2)⟩
  · rcases h with h | h
    · exact s.dj a h
    · rw [h]; exact hm
  · rcases h with h | h
    · exact s.fh a h
    · rw [h]; exact hh
theorem Ext.fz (e : Ext w1 w) (hp : w1.H p = none) : Ext w1 (w.fz p) := by
  refine ⟨e.m, fun a h => .inl (e.F a h), e.H, e.nm, fun b h => ?_, e.al⟩
  rcases h with h | h
  · exact e.nF b h
  · exact .inr (h ▸ hp)
end
abbrev TgP : Type := D → List SV → Option (List SV)
abbrev TgPs : Type := List D → List SV → Option (List SV)
def FinP (G : Sg) (w0 w : Wd) (S : List Ob) (σ : L2.St) (ts : List Nat) (Q : L2.St → Hp → Prop) : Option (List SV) → Prop
  | none => False
  | some sd => ∀ σ', R G w0 w sd S σ' → (∀ i, i ∉ ts → σ'[i]? = σ[i]?) → σ'.length = σ.length → Q σ' w.H
def tgP (G : Sg) (ts : List Nat) (f : TgP) : TG := fun v σ H Q => ∃ w0 w sd S d, w.H = H ∧ R G w0 w sd S σ ∧ RepV G w d v ∧ FinP G w0 w S σ ts Q (f d sd)
def tgPs (G : Sg) (ts : List Nat) (n : Nat) (f : TgPs) : TGs := fun vs σ H Q => ∃ w0 w sd S ds, w.H = H ∧ R G w0 w sd S σ ∧ RepVs G w ds vs ∧ ds.length = n ∧ FinP G w0 w S σ ts Q (f ds sd)
abbrev PGP (G : Sg) (X : Cx) (ts : List Nat) (t : Expr) (f : TgP) : Prop := PG X t (tgP G ts f)
abbrev PGPs (G : Sg) (X : Cx) (ts : List Nat) (n : Nat) (t : List Expr) (f : TgPs) : Prop := PGs X t (tgPs G ts n f)
def nmP (i : Nat) : TgP := fun d sd => some (sd.set i (.val d))
def consP (f : TgP) (g : TgPs) : TgPs := fun ds sd => match ds with
  | [] => none
  | d :: ds => match f d sd with
    | none => none
    | some sd1 => g ds sd1
def tupP (n : Nat) (g : TgPs) : TgP := fun d sd => match d with
  | .tup ds => if ds.length = n then g ds sd else none
  | .lst ds => if ds.length = n then g ds sd else none
  | _ => none
section
variable {G : Sg} {X : Cx} {W : WX} {k : Nat} {w0 w : Wd}
theorem p_name {i : Nat} {x : Str} {pos : Pos} (hN : X.N.Nodup) (hi : X.N[i]? = some x) (hx : Loc X.env.scope x) (hf : X.fn x = true ∨ X.env.scope.names.lookup x = some .local) : PGP G X [i] (.Name x pos) (nmP i) := by
  refine PG.imp (pg_name hN hi hx hf) fun v σ H Q q => ?_
  obtain ⟨w0, w, sd, S, d, e, r, rv, q⟩ := q
  subst e
  refine q (σ.set i (some v)) (r.setv rv i) (fun j hj => ?_) (List.length_set ..)
  rw [List.getElem?_set_ne (fun z => hj (by rw [z]; exact List.mem_cons_self))]
theorem ps_nilP : PGPs G X [] 0 [] (fun _ sd => some sd) := by
  refine PGs.imp pgs_nil fun vs σ H Q q => ?_
  obtain ⟨w0, w, sd, S, ds, e, r, rv, hl, q⟩ := q
  subst e
  have ed : ds = [] := List.eq_nil_of_length_eq_zero hl
  subst ed
  exact ⟨rv, q σ r (fun _ _ => rfl) rfl⟩
theorem ps_consP {ts us : List Nat} {n : Nat} {e : Expr} {es : List Expr} {f : TgP} {g : TgPs} (h1 : PGP G X ts e f) (h2 : PGPs G X us n es g) (hs : notStar e = true) : PGPs G X (ts ++ us) (n + 1) (e :: es) (consP f g) := by
  refine PGs.imp (pgs_cons h1 h2 (by rw [assignEach_cons hs]; rfl)) fun vs σ H Q q => ?_
  obtain ⟨w0, w, sd, S, ds, e, r, rv, hl, q⟩ := q
  subst e
  cases ds with
  | nil => exact q.elim
  | cons d ds =>
    obtain ⟨v, vr, ev, rd, rr⟩ := rv
    refine ⟨v, vr, ev, w0, w, sd, S, d, rfl, r, rd, ?_⟩
    unfold consP at q
    simp only at q
    rcases hf : f d sd with _ | sd1
    · rw [hf] at q; exact q
    · rw [hf] at q
      simp only at q
      intro σ1 r1 k1 l1
      refine ⟨w0, w, sd1, S, ds, rfl, r1, rr, by simpa using hl, ?_⟩
      rcases hg : g ds sd1 with _ | sd2
      · rw [hg] at q; exact q
      · rw [hg] at q
        intro σ2 r2 k2 l2
        refine q σ2 r2 (fun i hi => ?_) (l2.trans l1)
        rw [k2 i (fun z => hi (List.mem_append_right _ z)), k1 i (fun z => hi (List.mem_append_left _ z))]
theorem p_tup {ts : List Nat} {es : List Expr} {j n : Nat} {g : TgPs} {pos : Pos} (cK : G.K = X.K) (hc : X.calm = true) (h : PGPs G X ts n es g) (hs : es.all notStar = true) (hn : es.length = n) : PGP G X ts (.Tuple es j pos) (tupP n g) := by
  have hl := assignEach_len (env := X.env) hs
  refine PG.imp (PG.or (pg_tup hc h (hl.1.trans hn) hl.2) (pg_lst hc h (hl.1.trans hn) hl.2)) fun v σ H Q q => ?_
  obtain ⟨w0, w, sd, S, d, e, r, rv, q⟩ := q
  subst e
  cases d with
  | tup ds =>
    obtain ⟨a, vs, ev, ha, rs⟩ := rv
    by_cases hd : ds.length = n
    · simp only [tupP, if_pos hd] at q
      exact .inl ⟨a, vs, ev, sqT_of cK ha, by rw [← rs.length]; exact hd, w0, w, sd, S, ds, rfl, r, rs, hd, q⟩
    · simp only [tupP, if_neg hd] at q
      exact q.elim
  | lst ds =>
    obtain ⟨a, vs, ev, fa, ha, rs⟩ := rv
    by_cases hd : ds.length = n
    · simp only [tupP, if_pos hd] at q
      exact .inr ⟨a, vs, ev, .of ha, by rw [← rs.length]; exact hd, w0, w, sd, S, ds, rfl, r, rs, hd, q⟩
    · simp only [tupP, if_neg hd] at q
      exact q.elim
  | _ => exact q.elim
def wipeD (sd : List SV) : List Nat → List SV
  | [] => sd
  | v :: vs => (wipeD sd vs).set v .no
theorem R.setno {sd : List SV} {S : List Ob} {σ : L2.St} (r : R G w0 w sd S σ) (i : Nat) : R G w0 w (sd.set i .no) S (σ.set i none) := by
  have key : ∀ {j : Nat} {x : SV}, (sd.set i .no)[j]? = some x → x ≠ .no → j ≠ i ∧ sd[j]? = some x := fun {j x} h hx => by
    by_cases e : i = j
    · subst e
      by_cases l : i < sd.length
      · rw [List.getElem?_set_self l] at h
        cases h
        exact absurd rfl hx
      · rw [List.getElem?_eq_none (by simpa using l)] at h
        cases h
    · rw [List.getElem?_set_ne e] at h
      exact ⟨fun z => e z.symm, h⟩
  refine ⟨r.ex, r.st, by rw [List.length_set, List.length_set]; exact r.ln, fun j x h => ?_, fun j o h => ?_, fun j1 j2 o o' a h1 h2 h3 h4 => ?_, fun a o e h => by
    obtain ⟨ne, h⟩ := key h (fun z => nomatch z)
    rw [List.getElem?_set_ne (fun z => ne z.symm)]
    exact r.sf a o e h⟩
  · obtain ⟨ne, h⟩ := key h (fun z => nomatch z)
    rw [List.getElem?_set_ne (fun z => ne z.symm)]
    exact r.vl j x h
  · obtain ⟨ne, h⟩ := key h (fun z => nomatch z)
    rw [List.getElem?_set_ne (fun z => ne z.symm)]
    exact r.ow j o h
  · obtain ⟨n1, h1⟩ := key h1 (fun z => nomatch z)
    obtain ⟨n2, h2⟩ := key h2 (fun z => nomatch z)
    rw [List.getElem?_set_ne (fun z => n1 z.symm)] at h3
    rw [List.getElem?_set_ne (fun z => n2 z.symm)] at h4
    exact r.ap j1 j2 o o' a h1 h2 h3 h4
theorem R.wipe {sd : List SV} {S : List Ob} {σ : L2.St} (r : R G w0 w sd S σ) : ∀ vs : List Nat, R G w0 w (wipeD sd vs) S (wipe σ vs)
  | [] => r
  | v :: vs => (R.wipe r vs).setno v
theorem wipe_get (σ : L2.St) : ∀ (vs : List Nat) (j : Nat), (wipe σ vs)[j]? = if j ∈ vs then (if j < σ.length then some none else none) else σ[j]?
  | [], j => by simp [wipe]
  | v :: vs, j => by
    unfold wipe
    by_cases e : v = j
    · subst e
      rw [if_pos List.mem_cons_self]
      by_cases l : v < σ.length
      · rw [List.getElem?_set_self (by rw [wipe_length]; exact l), if_pos l]
      · rw [List.getElem?_eq_none (by rw [List.length_set, wipe_length]; omega), if_neg l]
    · rw [List.getElem?_set_ne e, wipe_get σ vs j]
      have : (j ∈ v :: vs) ↔ j ∈ vs := by simp [Ne.symm e, eq_comm, show ¬ j = v from fun z => e z.symm]
      by_cases hj : j ∈ vs
      · rw [if_pos hj, if_pos (this.mpr hj)]
      · rw [if_neg hj, if_neg (fun z => hj (this.mp z))]
theorem wipe_same {σ σ' : L2.St} {ts vs : List Nat} (h : ∀ i, i ∉ ts → σ'[i]? = (wipe σ vs)[i]?) (hl : σ'.length = (wipe σ vs).length) (hs : ∀ i ∈ ts, i ∈ vs) : wipe σ' vs = wipe σ vs := by
  refine List.ext_getElem? fun j => ?_
  rw [wipe_get σ' vs j, hl, wipe_length]
  by_cases hj : j ∈ vs
  · rw [if_pos hj, wipe_get σ vs j, if_pos hj]
  · rw [if_neg hj]
    exact h j fun z => hj (hs j z)
theorem fin_split {α β γ δ : Type} {G : Sg} {rep : Wd → α → β → Prop} {rep' : Wd → γ → δ → Prop} {W W' : Value → Option Addr → Hp → Prop} {wA wB : Wd} {Q : β → Hp → Prop} {Q' : δ → Hp → Prop} {f : M α} {k : α → M γ} {S : List Ob}
    (h : FinG G rep' W wA Q' (M.bind (noErr f) k S)) (c : ∀ w' S1 d v, Ext wB w' → RepS G w' S1 → rep w' d v → FinG G rep' W wA Q' (k d S1) → Q v w'.H) : FinG G rep W' wB Q (f S) := by
  unfold M.bind noErr at h
  rcases hf : f S with _ | ⟨_ | d, S1⟩
  · rw [hf] at h; exact h.elim
  · rw [hf] at h; exact h.elim
  · rw [hf] at h
    exact fun w' v e s r => c w' S1 d v e s r h
abbrev NoW : WX := fun _ _ _ _ => False
def compS (t : TgP) (tt : List SV → M Bool) (fe : List SV → M D) (sdw : List SV) : List D → List D → M (List D)
  | [], acc => M.pure acc
  | d :: ds, acc => match t d sdw with
    | none => M.stuck
    | some sd1 => M.bind (noErr (tt sd1)) fun b => if b = true then M.bind (noErr (fe sd1)) fun y => if acc.length < lim then compS t tt fe sdw ds (acc ++ [y]) else M.stuck else compS t tt fe sdw ds acc
def lcS (fi : List SV → M (List D)) (vs : List Nat) (t : TgP) (tt : List SV → M Bool) (fe : List SV → M D) : List SV → M D := fun sd => M.bind (fi sd) fun ds => M.bind (compS t tt fe (wipeD sd vs) ds []) fun acc => M.pure (.lst acc)
abbrev PTsV (G : Sg) (X : Cx) (W : WX) (es : List Expr) (f : List SV → M Bool) : Prop := PTs X es (teB G W f)
theorem PTs.imp {X : Cx} {e : List Expr} {t t' : TT} (h : PTs X e t) (i : ∀ σ H Q, t' σ H Q → t σ H Q) : PTs X e t' := ⟨fun p s σ H Q I q => h.run p s σ H Q I (i σ H Q q)⟩
theorem t_nil : PTsV G X W [] (fun _ => M.pure true) := by
  refine PTs.imp pts_nil fun σ H Q h => ?_
  obtain ⟨w0, w, sd, S, e, r, q⟩ := h
  subst e
  exact fin_pure q r.st rfl
theorem lc_read {fi : List SV → M (List D)} {ts vs : List Nat} {t : TgP} {tt : List SV → M Bool} {fe : List SV → M D} (hts : ∀ i ∈ ts, i ∈ vs) {σ : L2.St} {H : Hp} {Q : VK} (h : teV G W (lcS fi vs t tt fe) σ H Q) :
    tLc (fun σ H Rr => teG G (Yld G) W fi σ H Rr) (tgP G ts t) (teB G NoW tt) (teV G NoW fe) vs σ H Q := by
  obtain ⟨w0, w, sd, S, e, r, q⟩ := h
  refine ⟨w0, w, sd, S, e, r, fin_step q fun w1 S1 ds J e1 s1 Y q1 => ?_⟩
  intro L hL
  have r1 := (r.step e1 s1).wipe vs
  have dj1 := s1.dj
  refine ⟨fun i m H => m = ds.length - i ∧ i ≤ ds.length ∧ ∃ w2 S2 acc xs, w2.H = H ∧ Ext w1 w2 ∧ RepS G w2 S2 ∧ w2.H L = some (.lst xs) ∧ RepVs G w2 acc xs ∧ ¬ w2.F L ∧ L ∉ w2.m ∧
    FinG G (RepV G) (fun c x H => W c x σ H) w1 Q (M.bind (compS t tt fe (wipeD sd vs) (ds.drop i) acc) (fun acc => M.pure (.lst acc)) S2),
    ⟨_, rfl, Nat.zero_le _, w1.new L (.lst []), S1, [], [], rfl, Ext.new hL, s1.new hL, upd_same, rfl, fun z => s1.fh L z hL, fun z => s1.there z hL, q1⟩, ?_⟩
  rintro i m H2 ⟨rfl, hi2, w2, S2, acc, xs, rfl, e2, s2, hx2, ra, nF, nm, q2⟩
  by_cases hlt : i < ds.length
  · obtain ⟨d, hd, hdr⟩ := drop_cons hlt
    rw [hdr] at q2
    have st2 := e2.stay dj1
    refine .inr ⟨Y.go w2 i st2 hlt, _, fun H' hN => ⟨ds.length - (i + 1), by omega, hN⟩, fun x H' hy => ?_⟩
    obtain ⟨w3, rfl, e3, s3, rx⟩ := Y.yld w2 i d x H' S2 st2 s2 hd hy
    have r3 := r1.step (e2.trans e3) s3
    refine ⟨w0, w3, _, S2, d, rfl, r3, rx, ?_⟩
    unfold compS at q2
    rcases ht : t d (wipeD sd vs) with _ | sd4
    · rw [ht] at q2; exact q2.elim
    · rw [ht] at q2
      simp only at q2
      intro σ4 r4 k4 l4
      refine ⟨wipe_same k4 l4 hts, ?_⟩
      rw [M.bind_assoc] at q2
      refine ⟨w0, w3, sd4, S2, rfl, r4, ?_⟩
      refine fin_split q2 fun w5 S5 b b' e5 s5 rb q5 => ?_
      cases (show b' = b from rb)
      have hx : ∀ {wz : Wd}, Ext w3 wz → wz.H L = some (.lst xs) ∧ RepVs G wz acc xs ∧ ¬ wz.F L ∧ L ∉ wz.m := fun {wz} ez => by
        have e23 := e3.trans ez
        refine ⟨e23.H L _ nm hx2, RepVs.mono e23 s2.dj _ _ ra, fun z => ?_, fun z => ?_⟩
        · rcases e23.nF L z with z | z
          · exact nF z
          · rw [hx2] at z; cases z
        · rcases e23.nm L z with z | z
          · exact nm z
          · rw [hx2] at z; cases z
      cases b with
      | false =>
        obtain ⟨h1, h2, h3, h4⟩ := hx e5
        exact ⟨rfl, hlt, w5, S5, acc, xs, rfl, e2.trans (e3.trans e5), s5, h1, h2, h3, h4, q5⟩
      | true =>
        have q5 : FinG G (RepV G) (fun c x H => W c x σ H) w1 Q (M.bind (M.bind (noErr (fe sd4)) fun y => if acc.length < lim then compS t tt fe (wipeD sd vs) (ds.drop (i + 1)) (acc ++ [y]) else M.stuck) (fun acc => M.pure (.lst acc)) S5) := q5
        rw [M.bind_assoc] at q5
        refine ⟨w0, w5, sd4, S5, rfl, r4.step e5 s5, fin_split q5 fun w6 S6 y v e6 s6 ry q6 => ?_⟩
        obtain ⟨h1, h2, h3, h4⟩ := hx (e5.trans e6)
        rw [M.bind_ite] at q6
        obtain ⟨c6, q6⟩ := FinG.ite q6
        have e16 : Ext w1 w6 := e2.trans (e3.trans (e5.trans e6))
        refine ⟨xs, h1, by rw [← h2.length, ← lim_eq]; exact c6, rfl, hlt, w6.wr L (.lst (xs ++ [v])), S6, acc ++ [y], xs ++ [v], rfl, Ext.wr e16 hL, s6.wr h3 h4, upd_same, ?_, h3, h4, q6⟩
        exact RepVs.append (RepVs.stay (Stay.wr h3) _ _ h2) (RepVs.one (RepV.stay (Stay.wr h3) _ _ ry))
  · have e : i = ds.length := by omega
    subst e
    rw [List.drop_length] at q2
    refine .inl ⟨Y.stop w2 _ (e2.stay dj1) (Nat.le_refl _), ?_⟩
    refine q2 (w2.fz L) _ (Ext.fz e2 hL) (s2.fz nm (by rw [hx2]; exact fun z => nomatch z)) ⟨L, xs, rfl, .inr rfl, hx2, RepVs.stay Stay.fz _ _ ra⟩
theorem v_lc {elt tg iter : Expr} {ifs : List Expr} {scope : Scope} {own : List (Str × Nat)} {pos : Pos} {fi : List SV → M (List D)} {ts : List Nat} {t : TgP} {tt : List SV → M Bool} {fe : List SV → M D} (c : Ctx G X W k) (hi : PIV G X W tg iter fi) (ok : BlkOk X.N X.env.scope scope own)
    (hg : ∀ (s : Shared) (H : Hp) (C : Addr) (cl : List (Str × Addr)) (fp : List Addr), PGP G (X.blk s H scope (compEnvC scope cl C X.env) fp) ts tg t) (ht : ∀ (s : Shared) (H : Hp) (C : Addr) (cl : List (Str × Addr)) (fp : List Addr), PTsV G (X.blk s H scope (compEnvC scope cl C X.env) fp) NoW ifs tt)
    (he : ∀ (s : Shared) (H : Hp) (C : Addr) (cl : List (Str × Addr)) (fp : List Addr), PV G (X.blk s H scope (compEnvC scope cl C X.env) fp) NoW elt fe) (hs : setFree iter = true) (hts : ∀ i ∈ ts, i ∈ own.map (·.2)) :
    PV G X W (.ListComp elt [⟨tg, iter, ifs, 0⟩] scope pos) (lcS fi (own.map (·.2)) t tt fe) :=
  PE.imp (pe_lc c.calm c.nd hi ok hg ht he (set_free hs)) fun σ H Q h => lc_read hts h
theorem s_lc {i : Nat} {y : Str} {py : Pos} {elt tg iter : Expr} {ifs : List Expr} {scope : Scope} {own : List (Str × Nat)} {pos spos : Pos} {fi : List SV → M (List D)} {ts : List Nat} {t : TgP} {tt : List SV → M Bool} {fe : List SV → M D} (c : Ctx G X W k) (hy : X.N[i]? = some y) (hyl : X.env.scope.names.lookup y = some .local)
    (hsw : swapsWith (.ListComp elt [⟨tg, iter, ifs, 0⟩] scope pos) (some (.Name y py)) spos.line X.env = pure true) (hi : PIV G X W tg iter fi) (ok : BlkOk X.N X.env.scope scope own)
    (hg : ∀ (s : Shared) (H : Hp) (C : Addr) (cl : List (Str × Addr)) (fp : List Addr), PGP G (X.blk s H scope (compEnvC scope cl C X.env) fp) ts tg t) (ht : ∀ (s : Shared) (H : Hp) (C : Addr) (cl : List (Str × Addr)) (fp : List Addr), PTsV G (X.blk s H scope (compEnvC scope cl C X.env) fp) NoW ifs tt)
    (he : ∀ (s : Shared) (H : Hp) (C : Addr) (cl : List (Str × Addr)) (fp : List Addr), PV G (X.blk s H scope (compEnvC scope cl C X.env) fp) NoW elt fe) (hs : setFree iter = true) (hts : ∀ i ∈ ts, i ∈ own.map (·.2)) :
    PSV G X W (.Assign [.Name y py] (.ListComp elt [⟨tg, iter, ifs, 0⟩] scope pos) spos) (asgS (lcS fi (own.map (·.2)) t tt fe) (setT i)) := by
  refine PS.imp (ps_setLc c.calm c.nd hy hyl hsw hi ok hg ht he (set_free hs)) fun En σ H h => ?_
  obtain ⟨w0, w, sd, S, e, r, q⟩ := h
  refine lc_read (W := W) (G := G) hts (Q := fun x H1 => En.nx (σ.set i (some x)) H1) ⟨w0, w, sd, S, e, r, exS_step q r fun w1 S1 d v e1 r1 rv q1 => ?_⟩
  exact q1 w1 (σ.set i (some v)) (Stay.refl w1) (r1.setv rv i)
theorem Ctx.blk (c : Ctx G X W k) (s : Shared) (H : Hp) (scope : Scope) (cenv : Env) (fp : List Addr) : Ctx G (X.blk s H scope cenv fp) NoW k :=
  ⟨c.cK, c.calm, c.rm, c.nd, fun σ pins H s e s' I c => by
    obtain ⟨_, _, _, _, _, _, _, _, _, _, _, _, z⟩ := c
    exact z.elim, PassesOwn.never⟩
end
end Ev
set_option maxRecDepth 100000
set_option maxHeartbeats 2000000
namespace Ev
open PySem PySem.Spec PyProof.Rows L2
mutual
def toP : D → Option PyData
  | .non => some .none
  | .bl b => some (.bool b)
  | .int i => some (.int i)
  | .str x => some (.str x)
  | .tup ds => (toPs ds).map .tuple
  | .lst ds => (toPs ds).map .list
  | .scr ds => (toPs ds).map .list
  | .dct _ _ => none
  | .ins _ _ => none
  | .ref _ => none
  | .ty _ => none
  | .cls _ => none
  | .raw _ _ _ _ => none
def toPs : List D → Option (List PyData)
  | [] => some []
  | d :: ds => match toP d, toPs ds with
    | some p, some ps => some (p :: ps)
    | _, _ => none
end
section
variable {G : Sg} {X : Cx} {W : WX} {k : Nat} {w : Wd}
mutual
theorem toP_dp (cK : G.K = X.K) : ∀ (d : D) (v : V) (p : PyData), RepV G w d v → toP d = some p → Dp X.K w.H v p
  | .non, v, p, r, h => by cases h; cases (show v = .non from r); exact .non
  | .bl b, v, p, r, h => by cases h; cases (show v = .bl b from r); exact .bl b
  | .int i, v, p, r, h => by cases h; cases (show v = .int i from r); exact .int i
  | .str x, v, p, r, h => by cases h; cases (show v = .str x from r); exact .str x
  | .tup ds, v, p, r, h => by
    obtain ⟨a, vs, e, hh, rs⟩ := r
    subst e
    unfold toP at h
    obtain ⟨ps, h1, h2⟩ := Option.map_eq_some_iff.mp h
    subst h2
    exact .tup (sqT_of cK hh) (toPs_dp cK ds vs ps rs h1)
  | .lst ds, v, p, r, h => by
    obtain ⟨a, vs, e, fa, hh, rs⟩ := r
    subst e
    unfold toP at h
    obtain ⟨ps, h1, h2⟩ := Option.map_eq_some_iff.mp h
    subst h2
    exact .lst (.of hh) (toPs_dp cK ds vs ps rs h1)
  | .scr ds, v, p, r, h => by
    obtain ⟨a, vs, e, hh, rs⟩ := r
    subst e
    unfold toP at h
    obtain ⟨ps, h1, h2⟩ := Option.map_eq_some_iff.mp h
    subst h2
    exact .lst (sqL_of cK hh) (toPs_dp cK ds vs ps rs h1)
  | .dct _ _, _, _, _, h => by unfold toP at h; cases h
  | .ins _ _, _, _, _, h => by unfold toP at h; cases h
  | .ref _, _, _, _, h => by unfold toP at h; cases h
  | .ty _, _, _, _, h => by unfold toP at h; cases h
  | .cls _, _, _, _, h => by unfold toP at h; cases h
  | .raw _ _ _ _, _, _, _, h => by unfold toP at h; cases h
theorem toPs_dp (cK : G.K = X.K) : ∀ (ds : List D) (vs : List V) (ps : List PyData), RepVs G w ds vs → toPs ds = some ps → DpAll X.K w.H vs ps
  | [], vs, ps, r, h => by unfold toPs at h; cases h; cases (show vs = [] from r); exact .nil
  | d :: ds, vs, ps, r, h => by
    obtain ⟨v, t, e, h1, h2⟩ := r
    subst e
    unfold toPs at h
    rcases hp : toP d with _ | p
    · rw [hp] at h; cases h
    · rcases hq : toPs ds with _ | qs
      · rw [hp, hq] at h; cases h
      · rw [hp, hq] at h
        cases h
        exact .cons (toP_dp cK d v p h1 hp) (toPs_dp cK ds t qs h2 hq)
end
def dEq (neg : Bool) : D → D → M D
  | .int i, .int j => M.pure (.bl (if neg then !decide (i = j) else decide (i = j)))
  | .str i, .str j => M.pure (.bl (if neg then !decide (i = j) else decide (i = j)))
  | .bl i, .bl j => M.pure (.bl (if neg then !decide (i = j) else decide (i = j)))
  | d, e => match toP d, toP e with
    | some p, some q => if SeqAt.shaped p = true ∧ SeqAt.shaped q = true then M.pure (.bl (if neg then !PyData.eqv p q else PyData.eqv p q)) else M.stuck
    | _, _ => M.stuck
theorem FinG.stuck {α β : Type} {rep : Wd → α → β → Prop} {W : Value → Option Addr → Hp → Prop} {w : Wd} {Q : β → Hp → Prop} {S : List Ob} {P : Prop} (h : FinG G rep W w Q ((M.stuck : M α) S)) : P := h.elim
theorem eq_gen (cK : G.K = X.K) {W' : Value → Option Addr → Hp → Prop} {S : List Ob} {d e : D} {v u : V} {Q : VK} {neg : Bool} (s : RepS G w S) (r1 : RepV G w d v) (r2 : RepV G w e u)
    (q : FinG G (RepV G) W' w Q ((match toP d, toP e with
      | some p, some q => if SeqAt.shaped p = true ∧ SeqAt.shaped q = true then M.pure (.bl (if neg then !PyData.eqv p q else PyData.eqv p q)) else M.stuck
      | _, _ => M.stuck : M D) S)) : ∃ p q, Dp X.K w.H v p ∧ Dp X.K w.H u q ∧ SeqAt.shaped p = true ∧ SeqAt.shaped q = true ∧ Q (.bl (if neg then !PyData.eqv p q else PyData.eqv p q)) w.H := by
  rcases hp : toP d with _ | p
  · rw [hp] at q; exact q.elim
  · rcases hq : toP e with _ | p'
    · rw [hp, hq] at q; exact q.elim
    · rw [hp, hq] at q
      obtain ⟨⟨c1, c2⟩, q⟩ := FinG.ite q
      exact ⟨p, p', toP_dp cK d v p r1 hp, toP_dp cK e u p' r2 hq, c1, c2, fin_pure (b := V.bl _) q s rfl⟩
theorem o_eq (cK : G.K = X.K) (hr : Rm G.gd k X.A) : OpR X (compareOp .Eq) (rD2 G (dEq false)) := by
  refine OpR.imp (op_eq.or (op_eqD hr.room.units)) fun v u H Q q => ?_
  obtain ⟨W, w, S, d, e, rfl, s, r1, r2, q⟩ := q
  cases d <;> cases e <;> first
    | (refine .inr ?_
       obtain ⟨p, p', h1, h2, h3, h4, h5⟩ := eq_gen (neg := false) cK s r1 r2 q
       exact ⟨p, p', h1, h2, h3, h4, h5⟩)
    | (cases (show v = _ from r1)
       cases (show u = _ from r2)
       refine .inl ⟨rfl, ?_⟩
       have q2 := fin_pure (b := V.bl _) q s rfl
       simpa using q2)
theorem o_ne (cK : G.K = X.K) (hr : Rm G.gd k X.A) : OpR X (compareOp .NotEq) (rD2 G (dEq true)) := by
  refine OpR.imp (op_ne.or (op_neD hr.room.units)) fun v u H Q q => ?_
  obtain ⟨W, w, S, d, e, rfl, s, r1, r2, q⟩ := q
  cases d <;> cases e <;> first
    | (refine .inr ?_
       obtain ⟨p, p', h1, h2, h3, h4, h5⟩ := eq_gen (neg := true) cK s r1 r2 q
       exact ⟨p, p', h1, h2, h3, h4, h5⟩)
    | (cases (show v = _ from r1)
       cases (show u = _ from r2)
       refine .inl ⟨rfl, ?_⟩
       have q2 := fin_pure (b := V.bl _) q s rfl
       simpa using q2)
def isNonD : D → Bool
  | .non => true
  | .raw u _ _ _ => decide (u = .non)
  | _ => false
theorem isNon_rep {d : D} {v : V} (r : RepV G w d v) : decide (v = .non) = isNonD d := by
  cases d with
  | non => cases (show v = .non from r); rfl
  | bl b => cases (show v = .bl b from r); rfl
  | int b => cases (show v = .int b from r); rfl
  | str b => cases (show v = .str b from r); rfl
  | tup ds => obtain ⟨a, vs, e, _⟩ := r; subst e; rfl
  | lst ds => obtain ⟨a, vs, e, _⟩ := r; subst e; rfl
  | scr ds => obtain ⟨a, vs, e, _⟩ := r; subst e; rfl
  | dct ks ds => obtain ⟨a, vs, e, _⟩ := r; subst e; rfl
  | ins c ds => obtain ⟨a, dx, vs, e, _⟩ := r; subst e; rfl
  | ref n => obtain ⟨a, e, _⟩ := r; subst e; rfl
  | ty t => cases (show v = .ty t.name from r); rfl
  | cls c => cases (show v = .ref (G.ca c) from r); rfl
  | raw u dd fs ds => obtain ⟨e, _⟩ := r; subst e; rfl
def dIs (neg : Bool) : D → D → M D
  | d, .non => M.pure (.bl (if neg then !isNonD d else isNonD d))
  | _, _ => M.stuck
theorem o_is : OpR X (compareOp .Is) (rD2 G (dIs false)) := by
  refine OpR.imp op_isN fun v u H Q q => ?_
  obtain ⟨W, w, S, d, e, rfl, s, r1, r2, q⟩ := q
  cases e with
  | non =>
    have q2 := fin_pure (b := V.bl _) (show FinG G (RepV G) W w Q (M.pure (.bl (isNonD d)) S) by cases d <;> exact q) s rfl
    exact ⟨r2, by rw [isNon_rep r1]; exact q2⟩
  | _ => cases d <;> exact q.elim
def dIx (d e : D) : M D := fun S => match e with
  | .int i => match d with
    | .lst ds => match atI ds i with | some x => some (.ok x, S) | none => none
    | .tup ds => match atI ds i with | some x => some (.ok x, S) | none => none
    | .scr ds => match atI ds i with | some x => some (.ok x, S) | none => none
    | .str z => if z.length ≤ lim then (match atI z.cps.toList i with | some c => some (.ok (.str ⟨#[c]⟩), S) | none => none) else none
    | .ref n => match S[n]? with
      | some (.lst ds) => match atI ds i with | some x => some (.ok x, S) | none => none
      | _ => none
    | _ => none
  | _ => none
theorem atI_rep {ds : List D} {vs : List V} {i : Int} {x : D} (r : RepVs G w ds vs) (h : atI ds i = some x) : ∃ v, atI vs i = some v ∧ RepV G w x v := by
  unfold atI at h ⊢
  rw [r.length] at h
  obtain ⟨j, h1, h2⟩ := Option.bind_eq_some_iff.mp h
  obtain ⟨v, h3, h4⟩ := r.get h2
  exact ⟨v, by rw [h1]; exact h3, h4⟩
theorem ix_D (cK : G.K = X.K) : IxR X (rD2 G dIx) := by
  have base := (ix_list (X := X)).or ((ix_tup (X := X)).or (ix_str (X := X)))
  intro a b pins s σ H x y v u Q I rx ry q
  refine base a b pins s σ H x y v u Q I rx ry ?_
  obtain ⟨W, w, S, d, e, rfl, st, r1, r2, q⟩ := q
  unfold dIx at q
  cases e with
  | int i =>
    cases (show y = .int i from r2)
    cases d with
    | lst ds =>
      obtain ⟨p, vs, rfl, f, hh, rs⟩ := r1
      rcases hx : atI ds i with _ | z
      · simp only [hx] at q; exact q.elim
      · simp only [hx] at q
        obtain ⟨v1, h1, h2⟩ := atI_rep rs hx
        exact .inl ⟨p, vs, i, v1, rfl, rfl, .of hh, h1, fin_pure (a := z) q st h2⟩
    | tup ds =>
      obtain ⟨p, vs, rfl, hh, rs⟩ := r1
      rcases hx : atI ds i with _ | z
      · simp only [hx] at q; exact q.elim
      · simp only [hx] at q
        obtain ⟨v1, h1, h2⟩ := atI_rep rs hx
        exact .inr (.inl ⟨p, vs, i, v1, rfl, rfl, sqT_of cK hh, h1, fin_pure (a := z) q st h2⟩)
    | scr ds =>
      obtain ⟨p, vs, rfl, hh, rs⟩ := r1
      rcases hx : atI ds i with _ | z
      · simp only [hx] at q; exact q.elim
      · simp only [hx] at q
        obtain ⟨v1, h1, h2⟩ := atI_rep rs hx
        exact .inl ⟨p, vs, i, v1, rfl, rfl, sqL_of cK hh, h1, fin_pure (a := z) q st h2⟩
    | str z =>
      cases (show x = .str z from r1)
      by_cases hz : z.length ≤ lim
      · rcases hx : atI z.cps.toList i with _ | c
        · simp only [hx, if_pos hz] at q; exact q.elim
        · simp only [hx, if_pos hz] at q
          exact .inr (.inr ⟨z, i, c, rfl, rfl, by rw [← lim_eq]; exact hz, hx, fin_pure (a := D.str ⟨#[c]⟩) q st rfl⟩)
      · simp only [if_neg hz] at q; exact q.elim
    | ref n =>
      obtain ⟨p, rfl, hm⟩ := r1
      rcases hn : S[n]? with _ | ⟨ds | _ | _ | jt⟩
      · simp only [hn] at q; exact q.elim
      · simp only [hn] at q
        obtain ⟨vs, hh, rs⟩ := st.ob n p _ hm hn
        rcases hx : atI ds i with _ | z
        · simp only [hx] at q; exact q.elim
        · simp only [hx] at q
          obtain ⟨v1, h1, h2⟩ := atI_rep rs hx
          exact .inl ⟨p, vs, i, v1, rfl, rfl, .of hh, h1, fin_pure (a := z) q st h2⟩
      · simp only [hn] at q; exact q.elim
      · simp only [hn] at q; exact q.elim
      · simp only [hn] at q; exact q.elim
    | _ => exact q.elim
  | _ => exact q.elim
def notSlice : Expr → Bool
  | .Slice .. => false
  | _ => true
theorem plain_ix {b : Expr} (h : notSlice b = true) : PlainIx b := by
  intro o i
  cases b <;> first | rfl | cases h
theorem v_ix {a b : Expr} {fa fb : List SV → M D} {pos : Pos} (cK : G.K = X.K) (ha : PV G X W a fa) (hb : PV G X W b fb) (hs : notSlice b = true) : PV G X W (.Subscript a b pos) (fun sd => M.bind (fa sd) fun x => M.bind (fb sd) fun y => dIx x y) := by
  refine PE.imp (pe_ix (ix_D cK) ha hb (plain_ix hs)) fun σ H Q h => ?_
  obtain ⟨w0, w, sd, S, e, r, q⟩ := h
  refine ⟨w0, w, sd, S, e, r, fin_step q fun w1 S1 d v e1 s1 rv q1 => ⟨w0, w1, sd, S1, rfl, r.step e1 s1, fin_step q1 fun w2 S2 d2 v2 e2 s2 rv2 q2 => ?_⟩⟩
  exact ⟨_, w2, S2, d, d2, rfl, s2, RepV.mono e2 s1.dj d v rv, rv2, q2⟩
end
end Ev
set_option maxRecDepth 100000
set_option maxHeartbeats 2000000
namespace Ev
open PySem PySem.Spec PyProof.Rows L2
def rDs (G : Sg) (g : List D → M D) : List V → Hp → VK → Prop := fun vs H Q => ∃ W w S ds, w.H = H ∧ RepS G w S ∧ RepVs G w ds vs ∧ FinG G (RepV G) W w Q (g ds S)
theorem CallR.imp {X : Cx} {f : Value} {r r' : List V → Hp → VK → Prop} (h : CallR X f r) (i : ∀ vs H Q, r' vs H Q → r vs H Q) : CallR X f r' := fun pins s σ H xs us Q I rx q => h pins s σ H xs us Q I rx (i _ _ _ q)
section
variable {G : Sg} {X : Cx} {W : WX} {k n : Nat} {w : Wd} {g : List D → M D}
theorem v_callB {id : String} {x : Str} {p pos : Pos} {e : Expr} {es : List Expr} {fa : List SV → M (List D)} (hc : CallR X (.builtin id) (rDs G g)) (hg : Gl X x) (hm : X.mg x = none) (hv : bootBuiltins x = some (.builtin id)) (ha : PLn G X W n (e :: es) fa) (hs : (e :: es).all notStar = true)
    (hn : x ≠ "__name__") (hd : (x == ("__debug__" : Str)) = false) : PV G X W (.Call (.Name x p) (e :: es) [] pos) (fun sd => M.bind (fa sd) g) := by
  have hs2 : notStar e = true ∧ es.all notStar = true := by simpa using hs
  refine PE.imp (pe_callB hc hg hm hv ha hn hd (starEach_cons hs2.1) (starEach_all hs2.2 pos)) fun σ H Q h => ?_
  obtain ⟨w0, w, sd, S, e, r, q⟩ := h
  exact ⟨w0, w, sd, S, e, r, fin_step q fun w1 S1 ds vs e1 s1 rv q1 => ⟨_, w1, S1, ds, rfl, s1, rv.1, q1⟩⟩
theorem v_callTy {T : String} {x : Str} {p pos : Pos} {e : Expr} {es : List Expr} {fa : List SV → M (List D)} (hc : CallR X (.type T) (rDs G g)) (hg : Gl X x) (hm : X.mg x = none) (hv : bootBuiltins x = some (.type T)) (ha : PLn G X W n (e :: es) fa) (hs : (e :: es).all notStar = true)
    (hn : x ≠ "__name__") (hd : (x == ("__debug__" : Str)) = false) : PV G X W (.Call (.Name x p) (e :: es) [] pos) (fun sd => M.bind (fa sd) g) := by
  have hs2 : notStar e = true ∧ es.all notStar = true := by simpa using hs
  refine PE.imp (pe_callTy hc hg hm hv ha hn hd (starEach_cons hs2.1) (starEach_all hs2.2 pos)) fun σ H Q h => ?_
  obtain ⟨w0, w, sd, S, e, r, q⟩ := h
  exact ⟨w0, w, sd, S, e, r, fin_step q fun w1 S1 ds vs e1 s1 rv q1 => ⟨_, w1, S1, ds, rfl, s1, rv.1, q1⟩⟩
def on1 (g : D → M D) : List D → M D
  | [d] => g d
  | _ => M.stuck
def on2 (g : D → D → M D) : List D → M D
  | [d, e] => g d e
  | _ => M.stuck
theorem on1_of {g : D → M D} {vs : List V} {H : Hp} {Q : VK} (h : rDs G (on1 g) vs H Q) : ∃ W w S d v, w.H = H ∧ RepS G w S ∧ vs = [v] ∧ RepV G w d v ∧ FinG G (RepV G) W w Q (g d S) := by
  obtain ⟨W, w, S, ds, e, s, r, q⟩ := h
  rcases ds with _ | ⟨d, _ | ⟨d2, ds⟩⟩
  · exact q.elim
  · obtain ⟨v, t, ev, h1, h2⟩ := r
    cases (show t = [] from h2)
    exact ⟨W, w, S, d, v, e, s, ev, h1, q⟩
  · exact q.elim
theorem on2_of {g : D → D → M D} {vs : List V} {H : Hp} {Q : VK} (h : rDs G (on2 g) vs H Q) : ∃ W w S d e v u, w.H = H ∧ RepS G w S ∧ vs = [v, u] ∧ RepV G w d v ∧ RepV G w e u ∧ FinG G (RepV G) W w Q (g d e S) := by
  obtain ⟨W, w, S, ds, e, s, r, q⟩ := h
  rcases ds with _ | ⟨d, _ | ⟨d2, _ | ⟨d3, ds⟩⟩⟩
  · exact q.elim
  · exact q.elim
  · obtain ⟨v, t, ev, h1, u, t2, eu, h2, h3⟩ := r
    cases (show t2 = [] from h3)
    exact ⟨W, w, S, d, d2, v, u, e, s, by rw [ev, eu], h1, h2, q⟩
  · exact q.elim
def dLen (d : D) : M D := fun S => match d with
  | .lst ds => some (.ok (.int ds.length), S)
  | .tup ds => some (.ok (.int ds.length), S)
  | .scr ds => some (.ok (.int ds.length), S)
  | .str x => if x.length ≤ lim then some (.ok (.int x.length), S) else none
  | .ref n => match S[n]? with
    | some (.lst ds) => some (.ok (.int ds.length), S)
    | _ => none
  | _ => none
theorem c_len (cK : G.K = X.K) : CallR X (.builtin "len") (rDs G (on1 dLen)) := by
  refine CallR.imp call_len fun vs H Q h => ?_
  obtain ⟨W, w, S, d, v, rfl, s, rfl, r, q⟩ := on1_of h
  unfold dLen at q
  cases d with
  | lst ds =>
    obtain ⟨a, vs, e, f, hh, rs⟩ := r
    exact ⟨v, ds.length, rfl, by subst e; exact .inl ⟨vs, .of hh, rs.length⟩, fin_pure (a := D.int ds.length) q s rfl⟩
  | tup ds =>
    obtain ⟨a, vs, e, hh, rs⟩ := r
    exact ⟨v, ds.length, rfl, by subst e; exact .inr ⟨vs, sqT_of cK hh, rs.length⟩, fin_pure (a := D.int ds.length) q s rfl⟩
  | scr ds =>
    obtain ⟨a, vs, e, hh, rs⟩ := r
    exact ⟨v, ds.length, rfl, by subst e; exact .inl ⟨vs, sqL_of cK hh, rs.length⟩, fin_pure (a := D.int ds.length) q s rfl⟩
  | str x =>
    by_cases hz : x.length ≤ lim
    · simp only [if_pos hz] at q
      exact ⟨v, x.length, rfl, by cases (show v = .str x from r); exact ⟨by rw [← lim_eq]; exact hz, rfl⟩, fin_pure (a := D.int x.length) q s rfl⟩
    · simp only [if_neg hz] at q; exact q.elim
  | ref m =>
    obtain ⟨p, rfl, hm⟩ := r
    rcases hn : S[m]? with _ | ⟨ds | _ | _ | jt⟩
    · simp only [hn] at q; exact q.elim
    · simp only [hn] at q
      obtain ⟨vs, hh, rs⟩ := s.ob m p _ hm hn
      exact ⟨.ref p, ds.length, rfl, .inl ⟨vs, .of hh, rs.length⟩, fin_pure (a := D.int ds.length) q s rfl⟩
    · simp only [hn] at q; exact q.elim
    · simp only [hn] at q; exact q.elim
    · simp only [hn] at q; exact q.elim
  | _ => exact q.elim
def dAbs : D → M D
  | .int i => M.pure (.int (if i < 0 then -i else i))
  | _ => M.stuck
theorem c_abs : CallR X (.builtin "abs") (rDs G (on1 dAbs)) := by
  refine CallR.imp call_abs fun vs H Q h => ?_
  obtain ⟨W, w, S, d, v, rfl, s, rfl, r, q⟩ := on1_of h
  cases d with
  | int i => cases (show v = .int i from r); exact ⟨i, rfl, fin_pure q s rfl⟩
  | _ => exact q.elim
def dMax : D → D → M D
  | .int i, .int j => M.pure (.int (if j > i then j else i))
  | _, _ => M.stuck
def dMin : D → D → M D
  | .int i, .int j => M.pure (.int (if j < i then j else i))
  | _, _ => M.stuck
theorem c_max (hc : X.calm = true) : CallR X (.builtin "max") (rDs G (on2 dMax)) := by
  refine CallR.imp (call_max2 hc) fun vs H Q h => ?_
  obtain ⟨W, w, S, d, e, v, u, rfl, s, rfl, r, r', q⟩ := on2_of h
  cases d <;> cases e <;> first
    | exact q.elim
    | (cases (show v = _ from r)
       cases (show u = _ from r')
       exact ⟨_, _, rfl, fin_pure q s rfl⟩)
theorem c_min (hc : X.calm = true) : CallR X (.builtin "min") (rDs G (on2 dMin)) := by
  refine CallR.imp (call_min2 hc) fun vs H Q h => ?_
  obtain ⟨W, w, S, d, e, v, u, rfl, s, rfl, r, r', q⟩ := on2_of h
  cases d <;> cases e <;> first
    | exact q.elim
    | (cases (show v = _ from r)
       cases (show u = _ from r')
       exact ⟨_, _, rfl, fin_pure q s rfl⟩)
def dInt : D → M D
  | .int i => M.pure (.int i)
  | .bl b => M.pure (.int (if b then 1 else 0))
  | .str x => match PySem.intText? x with
    | some n => if x.length ≤ 640 then M.pure (.int n) else M.stuck
    | none => M.stuck
  | _ => M.stuck
theorem c_int : CallR X (.type "int") (rDs G (on1 dInt)) := by
  refine CallR.imp (call_int1.or call_int_str) fun vs H Q h => ?_
  obtain ⟨W, w, S, d, v, rfl, s, rfl, r, q⟩ := on1_of h
  cases d with
  | int i => cases (show v = .int i from r); exact .inl (.inl ⟨i, rfl, fin_pure q s rfl⟩)
  | bl b => cases (show v = .bl b from r); exact .inl (.inr ⟨b, rfl, fin_pure q s rfl⟩)
  | str x =>
    cases (show v = .str x from r)
    unfold dInt at q
    rcases hx : PySem.intText? x with _ | n
    · simp only [hx] at q; exact q.elim
    · simp only [hx] at q
      obtain ⟨c, q⟩ := FinG.ite q
      exact .inr ⟨x, n, rfl, hx, c, fin_pure q s rfl⟩
  | _ => exact q.elim
def strOk (i : Int) : Bool := decide (i.natAbs.log2 < 1920)
def dStr : D → M D
  | .int i => if strOk i = true then M.pure (.str (toString i : String)) else M.stuck
  | .str x => M.pure (.str x)
  | _ => M.stuck
theorem c_str : CallR X (.type "str") (rDs G (on1 dStr)) := by
  refine CallR.imp (call_str_int.or SkE.call_str_str) fun vs H Q h => ?_
  obtain ⟨W, w, S, d, v, rfl, s, rfl, r, q⟩ := on1_of h
  cases d with
  | int i =>
    cases (show v = .int i from r)
    obtain ⟨c, q⟩ := FinG.ite q
    exact .inl ⟨i, rfl, of_decide_eq_true c, fin_pure q s rfl⟩
  | str x => cases (show v = .str x from r); exact .inr ⟨x, rfl, fin_pure q s rfl⟩
  | _ => exact q.elim
def divmOk (i j : Int) : Bool := decide (0 < j) && !Builtin.divisionGoesByPylong i j
def dDivmod : D → D → M D
  | .int i, .int j => if divmOk i j = true then M.pure (.tup [.int (i / j), .int (i % j)]) else M.stuck
  | _, _ => M.stuck
theorem c_divmod : CallR X (.builtin "divmod") (rDs G (on2 dDivmod)) := by
  refine CallR.imp call_divmodW fun vs H Q h => ?_
  obtain ⟨W, w, S, d, e, v, u, rfl, s, rfl, r, r', q⟩ := on2_of h
  cases d with
  | int i =>
    cases e with
    | int j =>
      cases (show v = .int i from r)
      cases (show u = .int j from r')
      obtain ⟨c, q⟩ := FinG.ite q
      unfold divmOk at c
      simp only [Bool.and_eq_true, decide_eq_true_eq, Bool.not_eq_true'] at c
      refine ⟨i, j, rfl, c, fun p hp => ?_⟩
      exact q (w.frz p _) _ (Ext.frz hp) (s.frz hp) ⟨p, _, rfl, .inl ⟨.inr rfl, .inl upd_same⟩, ⟨_, _, rfl, rfl, _, _, rfl, rfl, rfl⟩⟩
    | _ => exact q.elim
  | _ => cases e <;> exact q.elim
def dTuple : D → M D
  | .lst ds => M.pure (.tup ds)
  | .scr ds => M.pure (.tup ds)
  | .tup ds => M.pure (.tup ds)
  | _ => M.stuck
theorem c_tuple (cK : G.K = X.K) : CallR X (.type "tuple") (rDs G (on1 dTuple)) := by
  refine CallR.imp call_tuple_of fun vs H Q h => ?_
  obtain ⟨W, w, S, d, v, rfl, s, rfl, r, q⟩ := on1_of h
  cases d with
  | lst ds =>
    obtain ⟨a, vs, e, f, hh, rs⟩ := r
    subst e
    exact ⟨a, vs, rfl, .inl ⟨.of hh, fun p hp => q (w.frz p _) _ (Ext.frz hp) (s.frz hp) ⟨p, vs, rfl, .inl ⟨.inr rfl, .inl upd_same⟩, RepVs.mono (Ext.frz hp) s.dj _ _ rs⟩⟩⟩
  | scr ds =>
    obtain ⟨a, vs, e, hh, rs⟩ := r
    subst e
    exact ⟨a, vs, rfl, .inl ⟨sqL_of cK hh, fun p hp => q (w.frz p _) _ (Ext.frz hp) (s.frz hp) ⟨p, vs, rfl, .inl ⟨.inr rfl, .inl upd_same⟩, RepVs.mono (Ext.frz hp) s.dj _ _ rs⟩⟩⟩
  | tup ds =>
    have r2 := r
    obtain ⟨a, vs, e, hh, rs⟩ := r
    subst e
    exact ⟨a, vs, rfl, .inr ⟨sqT_of cK hh, fin_pure q s r2⟩⟩
  | _ => exact q.elim
def bls : List D → Option (List Bool)
  | [] => some []
  | .bl b :: ds => (bls ds).map (b :: ·)
  | _ :: _ => none
theorem bls_rep : ∀ {ds : List D} {bs : List Bool} {vs : List V}, bls ds = some bs → RepVs G w ds vs → vs = bs.map V.bl
  | [], bs, vs, h, r => by unfold bls at h; cases h; exact r
  | .bl b :: ds, bs, vs, h, r => by
    unfold bls at h
    obtain ⟨cs, h1, h2⟩ := Option.map_eq_some_iff.mp h
    subst h2
    obtain ⟨v, t, e, h3, h4⟩ := r
    rw [e, bls_rep h1 h4]
    cases (show v = .bl b from h3)
    rfl
  | .non :: _, _, _, h, _ => by cases h
  | .int _ :: _, _, _, h, _ => by cases h
  | .str _ :: _, _, _, h, _ => by cases h
  | .tup _ :: _, _, _, h, _ => by cases h
  | .lst _ :: _, _, _, h, _ => by cases h
  | .scr _ :: _, _, _, h, _ => by cases h
  | .dct _ _ :: _, _, _, h, _ => by cases h
  | .ins _ _ :: _, _, _, h, _ => by cases h
  | .ref _ :: _, _, _, h, _ => by cases h
  | .ty _ :: _, _, _, h, _ => by cases h
  | .cls _ :: _, _, _, h, _ => by cases h
  | .raw _ _ _ _ :: _, _, _, h, _ => by cases h
def dAll : D → M D
  | .lst ds => match bls ds with
    | some bs => M.pure (.bl (bs.all id))
    | none => M.stuck
  | _ => M.stuck
def dAny : D → M D
  | .lst ds => match bls ds with
    | some bs => M.pure (.bl (bs.any id))
    | none => M.stuck
  | _ => M.stuck
theorem c_all (hc : X.calm = true) : CallR X (.builtin "all") (rDs G (on1 dAll)) := by
  refine CallR.imp (cr_all hc) fun vs H Q h => ?_
  obtain ⟨W, w, S, d, v, rfl, s, rfl, r, q⟩ := on1_of h
  cases d with
  | lst ds =>
    obtain ⟨a, vs, e, f, hh, rs⟩ := r
    unfold dAll at q
    rcases hb : bls ds with _ | bs
    · simp only [hb] at q; exact q.elim
    · simp only [hb] at q
      have ev := bls_rep hb rs
      subst e ev
      exact ⟨a, bs, rfl, .of hh, fin_pure q s rfl⟩
  | _ => exact q.elim
theorem c_any (hc : X.calm = true) : CallR X (.builtin "any") (rDs G (on1 dAny)) := by
  refine CallR.imp (cr_any hc) fun vs H Q h => ?_
  obtain ⟨W, w, S, d, v, rfl, s, rfl, r, q⟩ := on1_of h
  cases d with
  | lst ds =>
    obtain ⟨a, vs, e, f, hh, rs⟩ := r
    unfold dAny at q
    rcases hb : bls ds with _ | bs
    · simp only [hb] at q; exact q.elim
    · simp only [hb] at q
      have ev := bls_rep hb rs
      subst e ev
      exact ⟨a, bs, rfl, .of hh, fin_pure q s rfl⟩
  | _ => exact q.elim
def reprOk (p : PyData) : Bool := p.showable && !p.hasDict && decide (p.depth ≤ 60) && decide (p.shown.length ≤ lim)
def dReprP (d : D) : M D := match toP d with
  | some p => if reprOk p = true then M.pure (.str p.shown) else M.stuck
  | none => M.stuck
theorem one_reads {X : Cx} {pins : List (Addr × Obj)} {σ : L2.St} {H : Hp} {s : Shared} {a : Addr} {x : Str} {i : Int} (I : L2.Inv X pins σ H s) (hH : H a = some (.dK [(.inr x, .int i)])) : (a == sysModules) = false ∧ Reads s.heap (.ref a) (.dict [(.str x, .int i)]) ([a] ++ []) := by
  obtain ⟨_, hne, ks, kv, o, es, ep, ho, hx, hdt, hk, hp, _⟩ := dk_of I.hok hH
  refine ⟨hne, ?_⟩
  have hl := Paired.length kv
  rcases ks with _ | ⟨⟨k1, v1⟩, _ | ⟨z, zs⟩⟩
  · simp at hl
  · have h1 : Sum.inr x = k1 ∧ L2.RelV (V.int i) v1 := by
      cases kv with
      | cons h t => exact h
    obtain ⟨e1, t1, e2⟩ : Sum.inr x = k1 ∧ ∃ t, v1 = Value.int i t := ⟨h1.1, h1.2⟩
    subst e1 e2
    rcases hes : es.toList with _ | ⟨en, _ | ⟨en2, l⟩⟩
    · rw [hes] at hp
      cases hp
    · rw [hes] at hp
      have h34 : (mixKind X.prog X.w).is (Sum.inr x) en.key = true ∧ en.val = Value.int i t1 := by
        cases hp with
        | cons h3 h4 _ => exact ⟨h3, h4⟩
      obtain ⟨h3, h4⟩ := h34
      have h5 : ∃ t, en.key = Value.str x t := by
        have h3 : en.key.isStrOf x = true := h3
        cases hk2 : en.key with
        | str y t =>
          rw [hk2] at h3
          have : y = x := by simpa [Value.isStrOf] using h3
          exact ⟨t, by rw [this]⟩
        | _ => rw [hk2] at h3; simp [Value.isStrOf] at h3
      obtain ⟨t5, h5⟩ := h5
      refine Reads.dict (as := []) (bs := []) ho hx.1 hdt ?_ ?_
      · rw [hes]
        show ReadsAll s.heap [en.key] [.str x] ([] ++ [])
        rw [h5]
        exact .cons (.str x t5) .nil
      · rw [hes]
        show ReadsAll s.heap [en.val] [.int i] ([] ++ [])
        rw [h4]
        exact .cons (.int i t1) .nil
    · rw [hes] at hp
      cases hp with
      | cons _ _ t => cases t
  · simp at hl
theorem nil_reads {X : Cx} {pins : List (Addr × Obj)} {σ : L2.St} {H : Hp} {s : Shared} {a : Addr} (I : L2.Inv X pins σ H s) (hH : H a = some (.dK [])) : (a == sysModules) = false ∧ Reads s.heap (.ref a) (.dict []) ([a] ++ []) := by
  obtain ⟨_, hne, ks, kv, o, es, ep, ho, hx, hdt, hk, hp, _⟩ := dk_of I.hok hH
  have e0 : ks = [] := List.eq_nil_of_length_eq_zero (Paired.length kv).symm
  subst e0
  have e1 : es.toList = [] := List.eq_nil_of_length_eq_zero hp.length
  refine ⟨hne, Reads.dict (as := []) (bs := []) ho hx.1 hdt ?_ ?_⟩
  · rw [e1]
    exact .nil
  · rw [e1]
    exact .nil
def dctI : List L2.Key → List D → Option PyData
  | [], [] => some (.dict [])
  | [.inr x], [.int i] => some (.dict [(.str x, .int i)])
  | _, _ => none
mutual
def itP : D → Option PyData
  | .non => some .none
  | .bl b => some (.bool b)
  | .int i => some (.int i)
  | .str x => some (.str x)
  | .tup ds => (itPs ds).map .tuple
  | .dct ks ds => dctI ks ds
  | .lst _ => none
  | .scr _ => none
  | .ins _ _ => none
  | .ref _ => none
  | .ty _ => none
  | .cls _ => none
  | .raw _ _ _ _ => none
def itPs : List D → Option (List PyData)
  | [] => some []
  | d :: ds => match itP d, itPs ds with
    | some p, some ps => some (p :: ps)
    | _, _ => none
end
section
variable {G : Sg} {X : Cx} {w : Wd} {pins : List (Addr × Obj)} {σ : L2.St} {s : Shared}
theorem dctI_reads (I : L2.Inv X pins σ w.H s) {ks : List L2.Key} {ds : List D} {v : V} {p : PyData} {u : Value} (r : RepV G w (.dct ks ds) v) (h : dctI ks ds = some p) (q : L2.RelV v u) : ∃ as, Reads s.heap u p as ∧ sysModules ∉ as := by
  obtain ⟨a, vs, rfl, hF, hH, hl, rs⟩ := r
  cases (show u = Value.ref a from q)
  unfold dctI at h
  split at h
  · cases h
    rw [List.zip_nil_left] at hH
    obtain ⟨hne, rd⟩ := nil_reads I hH
    refine ⟨_, rd, fun z => ?_⟩
    rw [List.append_nil, List.mem_singleton] at z
    rw [← z] at hne
    simp at hne
  · cases h
    obtain ⟨v1, r1, e1, rv1, rn⟩ := rs
    cases (show r1 = [] from rn)
    subst e1
    cases (show v1 = .int _ from rv1)
    obtain ⟨hne, rd⟩ := one_reads I hH
    refine ⟨_, rd, fun z => ?_⟩
    rw [List.append_nil, List.mem_singleton] at z
    rw [← z] at hne
    simp at hne
  · cases h
mutual
theorem itP_reads (cK : G.K = X.K) (I : L2.Inv X pins σ w.H s) : ∀ (d : D) (v : V) (p : PyData) (u : Value), RepV G w d v → itP d = some p → L2.RelV v u → ∃ as, Reads s.heap u p as ∧ sysModules ∉ as
  | .non, v, p, u, r, h, q => by
    cases h; cases (show v = .non from r); cases q
    exact ⟨_, Reads.none, fun z => nomatch z⟩
  | .bl b, v, p, u, r, h, q => by
    cases h; cases (show v = .bl b from r); cases q
    exact ⟨_, Reads.bool b, fun z => nomatch z⟩
  | .int i, v, p, u, r, h, q => by
    cases h; cases (show v = .int i from r)
    obtain ⟨t, rfl⟩ := q
    exact ⟨_, Reads.int i t, fun z => nomatch z⟩
  | .str x, v, p, u, r, h, q => by
    cases h; cases (show v = .str x from r)
    obtain ⟨t, rfl⟩ := q
    exact ⟨_, Reads.str x t, fun z => nomatch z⟩
  | .tup ds, v, p, u, r, h, q => by
    obtain ⟨a, vs, rfl, hh, rs⟩ := r
    unfold itP at h
    obtain ⟨ps, h1, rfl⟩ := Option.map_eq_some_iff.mp h
    cases (show u = Value.ref a from q)
    obtain ⟨its, rv, ⟨o, ho, hc, n, hd⟩, _⟩ := I.tuple (sqT_of cK hh)
    obtain ⟨as, hr, hn⟩ := itPs_reads cK I ds vs ps its rs h1 rv
    exact ⟨as, Reads.tuple ho hc hd hr, hn⟩
  | .dct ks ds, v, p, u, r, h, q => dctI_reads I r (by unfold itP at h; exact h) q
  | .lst _, _, _, _, _, h, _ => by unfold itP at h; cases h
  | .scr _, _, _, _, _, h, _ => by unfold itP at h; cases h
  | .ins _ _, _, _, _, _, h, _ => by unfold itP at h; cases h
  | .ref _, _, _, _, _, h, _ => by unfold itP at h; cases h
  | .ty _, _, _, _, _, h, _ => by unfold itP at h; cases h
  | .cls _, _, _, _, _, h, _ => by unfold itP at h; cases h
  | .raw _ _ _ _, _, _, _, _, h, _ => by unfold itP at h; cases h
theorem itPs_reads (cK : G.K = X.K) (I : L2.Inv X pins σ w.H s) : ∀ (ds : List D) (vs : List V) (ps : List PyData) (us : List Value), RepVs G w ds vs → itPs ds = some ps → L2.Vals vs us → ∃ as, ReadsAll s.heap us ps as ∧ sysModules ∉ as
  | [], vs, ps, us, r, h, q => by
    unfold itPs at h; cases h; cases (show vs = [] from r); cases q
    exact ⟨_, ReadsAll.nil, fun z => nomatch z⟩
  | d :: ds, vs, ps, us, r, h, q => by
    obtain ⟨v, t, rfl, h1, h2⟩ := r
    unfold itPs at h
    rcases hp : itP d with _ | p
    · rw [hp] at h; cases h
    · rcases hq : itPs ds with _ | qs
      · rw [hp, hq] at h; cases h
      · rw [hp, hq] at h
        cases h
        cases q with
        | cons q1 q2 =>
          obtain ⟨as, e1, n1⟩ := itP_reads cK I d v p _ h1 hp q1
          obtain ⟨bs, e2, n2⟩ := itPs_reads cK I ds t qs _ h2 hq q2
          refine ⟨_, ReadsAll.cons e1 e2, fun z => ?_⟩
          rcases List.mem_append.mp z with z | z
          · exact n1 z
          · exact n2 z
end
end
def reprOkI (p : PyData) : Bool := p.showable && decide (p.depth ≤ 60) && decide (p.shown.length ≤ lim)
def dReprI (d : D) : M D := match itP d with
  | some p => if reprOkI p = true then M.pure (.str p.shown) else M.stuck
  | none => M.stuck
def oneOk (x : Str) (i : Int) : Bool := (PyData.dict [(.str x, .int i)]).showable && decide ((PyData.dict [(.str x, .int i)]).shown.length ≤ lim)
def dRepr : D → M D
  | .dct [] [] => M.pure (.str (PyData.dict []).shown)
  | .dct [.inr x] [.int i] => if oneOk x i = true then M.pure (.str (PyData.dict [(.str x, .int i)]).shown) else M.stuck
  | d => match toP d with
    | some _ => dReprP d
    | none => dReprI d
theorem dRepr_P {d : D} (h : toP d ≠ none) : dRepr d = dReprP d := by
  unfold dRepr
  split
  · exact absurd (by unfold toP; rfl) h
  · exact absurd (by unfold toP; rfl) h
  · rcases hp : toP d with _ | p
    · exact absurd hp h
    · rfl
theorem dRepr_I {d : D} (h : toP d = none) (h2 : d ≠ .dct [] []) (h3 : ∀ x i, d ≠ .dct [.inr x] [.int i]) : dRepr d = dReprI d := by
  unfold dRepr
  split
  · exact absurd rfl h2
  · exact absurd rfl (h3 _ _)
  · rw [h]
theorem c_reprP (cK : G.K = X.K) (gd : X.A.guards = some []) (un : X.A.units + 200 < cLine) : CallR X (.builtin "repr") (rDs G (on1 dReprP)) := by
  intro pins s σ H xs us Q I rx h
  obtain ⟨W, w, S, d, v, rfl, st, rfl, r, q⟩ := on1_of h
  unfold dReprP at q
  rcases hp : toP d with _ | p
  · simp only [hp] at q; exact q.elim
  · simp only [hp] at q
    obtain ⟨c, q⟩ := FinG.ite q
    unfold reprOk at c
    simp only [Bool.and_eq_true, decide_eq_true_eq, Bool.not_eq_true'] at c
    obtain ⟨⟨⟨c1, c2⟩, c3⟩, c4⟩ := c
    obtain ⟨u, rfl, rv⟩ := vals1 rx
    have dp := toP_dp cK d v p r hp
    obtain ⟨as, rd⟩ := Dp.reads I p v u dp rv
    have fin : Q (.str p.shown) w.H := fin_pure q st rfl
    have hz : p.shown.length ≤ sizeLine := by rw [← lim_eq]; exact c4
    cases rd with
    | none => exact PySem.P.repr_of_none ⟨.str _, w.H, I.tok _, ⟨_, rfl⟩, fin⟩
    | bool b => exact PySem.P.repr_of_bool ⟨.str _, w.H, I.tok _, ⟨_, rfl⟩, fin⟩
    | int i t => exact PySem.P.repr_of_int (by simpa [PyData.showable] using c1) ⟨.str _, w.H, I.tok _, ⟨_, rfl⟩, fin⟩
    | str x t => exact PySem.P.repr_of_str ⟨.str _, w.H, I.tok _, ⟨_, rfl⟩, fin⟩ hz
    | list h1 h2 h3 h4 =>
      refine repr_of_reads' (Reads.list h1 h2 h3 h4) c1 (fun z => by rw [c2] at z; cases z) gd (by omega) (fun _ _ z => z) (fun h' u tk kp => ?_) hz
      exact ⟨.str _, w.H, I.kept (t' := tk) kp, ⟨_, rfl⟩, fin⟩
    | tuple h1 h2 h3 h4 =>
      refine repr_of_reads' (Reads.tuple h1 h2 h3 h4) c1 (fun z => by rw [c2] at z; cases z) gd (by omega) (fun _ _ z => z) (fun h' u tk kp => ?_) hz
      exact ⟨.str _, w.H, I.kept (t' := tk) kp, ⟨_, rfl⟩, fin⟩
    | dict _ _ _ _ _ => cases c2
theorem c_reprI (cK : G.K = X.K) (gd : X.A.guards = some []) (un : X.A.units + 200 < cLine) : CallR X (.builtin "repr") (rDs G (on1 dReprI)) := by
  intro pins s σ H xs us Q I rx h
  obtain ⟨W, w, S, d, v, rfl, st, rfl, r, q⟩ := on1_of h
  unfold dReprI at q
  rcases hp : itP d with _ | p
  · simp only [hp] at q; exact q.elim
  · simp only [hp] at q
    obtain ⟨c, q⟩ := FinG.ite q
    unfold reprOkI at c
    simp only [Bool.and_eq_true, decide_eq_true_eq] at c
    obtain ⟨⟨c1, c3⟩, c4⟩ := c
    obtain ⟨u, rfl, rv⟩ := vals1 rx
    obtain ⟨as, rd, ns⟩ := itP_reads cK I d v p u r hp rv
    have fin : Q (.str p.shown) w.H := fin_pure q st rfl
    have hz : p.shown.length ≤ sizeLine := by rw [← lim_eq]; exact c4
    cases rd with
    | none => exact PySem.P.repr_of_none ⟨.str _, w.H, I.tok _, ⟨_, rfl⟩, fin⟩
    | bool b => exact PySem.P.repr_of_bool ⟨.str _, w.H, I.tok _, ⟨_, rfl⟩, fin⟩
    | int i t => exact PySem.P.repr_of_int (by simpa [PyData.showable] using c1) ⟨.str _, w.H, I.tok _, ⟨_, rfl⟩, fin⟩
    | str x t => exact PySem.P.repr_of_str ⟨.str _, w.H, I.tok _, ⟨_, rfl⟩, fin⟩ hz
    | list h1 h2 h3 h4 =>
      refine repr_of_reads' (Reads.list h1 h2 h3 h4) c1 (fun _ => ns) gd (by omega) (fun _ _ z => z) (fun h' u tk kp => ?_) hz
      exact ⟨.str _, w.H, I.kept (t' := tk) kp, ⟨_, rfl⟩, fin⟩
    | tuple h1 h2 h3 h4 =>
      refine repr_of_reads' (Reads.tuple h1 h2 h3 h4) c1 (fun _ => ns) gd (by omega) (fun _ _ z => z) (fun h' u tk kp => ?_) hz
      exact ⟨.str _, w.H, I.kept (t' := tk) kp, ⟨_, rfl⟩, fin⟩
    | dict h1 h2 h3 h4 h5 =>
      refine repr_of_reads' (Reads.dict h1 h2 h3 h4 h5) c1 (fun _ => ns) gd (by omega) (fun _ _ z => z) (fun h' u tk kp => ?_) hz
      exact ⟨.str _, w.H, I.kept (t' := tk) kp, ⟨_, rfl⟩, fin⟩
theorem c_repr0 (cK : G.K = X.K) (gd : X.A.guards = some []) (un : X.A.units + 200 < cLine) : CallR X (.builtin "repr") (rDs G (on1 dRepr)) := by
  intro pins s σ H xs us Q I rx h
  obtain ⟨W, w, S, d, v, rfl, st, rfl, r, q⟩ := on1_of h
  have old : dRepr d = dReprP d → _ := fun e => c_reprP cK gd un pins s σ w.H [v] us Q I rx ⟨W, w, S, [d], rfl, st, ⟨v, [], rfl, r, rfl⟩, by rw [e] at q; exact q⟩
  by_cases hd : d = .dct [] []
  · subst hd
    obtain ⟨a, vs, rfl, hF, hH, hl, _⟩ := r
    obtain ⟨u, rfl, ru⟩ := rx.one
    cases (show u = Value.ref a from ru)
    obtain ⟨_, hne, ks, kv, o, es, ep, ho, hx, hdt, hk, hp, _⟩ := dk_of I.hok hH
    have e0 : ks = [] := by
      have := Paired.length kv
      rw [List.zip_nil_left] at this
      exact List.eq_nil_of_length_eq_zero this.symm
    subst e0
    have e1 : es.toList = [] := by
      have := hp.length
      exact List.eq_nil_of_length_eq_zero this
    have rd : Reads s.heap (.ref a) (.dict []) ([a] ++ []) := by
      refine Reads.dict (as := []) (bs := []) ho hx.1 hdt ?_ ?_
      · rw [e1]
        exact .nil
      · rw [e1]
        exact .nil
    have fin : Q (.str (PyData.dict []).shown) w.H := fin_pure q st rfl
    refine repr_of_reads' rd (by decide +kernel) (fun _ z => ?_) gd (by show X.A.units + (1 + 1) < cLine; omega) (fun _ _ z => z) (fun h2 u tk kp => ?_) (by decide +kernel)
    · rw [List.append_nil, List.mem_singleton] at z
      rw [← z] at hne
      simp at hne
    · exact ⟨.str _, w.H, I.kept (t' := tk) kp, ⟨_, rfl⟩, fin⟩
  · by_cases hd2 : ∃ x i, d = .dct [.inr x] [.int i]
    · obtain ⟨x, i, rfl⟩ := hd2
      obtain ⟨c1, q⟩ := FinG.ite (show FinG G (RepV G) W w Q ((if oneOk x i = true then M.pure (.str (PyData.dict [(.str x, .int i)]).shown) else M.stuck : M D) S) from q)
      unfold oneOk at c1
      rw [Bool.and_eq_true, decide_eq_true_eq] at c1
      obtain ⟨a, vs, rfl, hF, hH, hl, v1, r1, e1, rv1, rn⟩ := r
      cases (show r1 = [] from rn)
      subst e1
      cases (show v1 = .int i from rv1)
      obtain ⟨u, rfl, ru⟩ := rx.one
      cases (show u = Value.ref a from ru)
      obtain ⟨hne, rd⟩ := one_reads (x := x) (i := i) I hH
      have fin : Q (.str (PyData.dict [(.str x, .int i)]).shown) w.H := fin_pure q st rfl
      have dp : (PyData.dict [(.str x, .int i)]).depth ≤ 2 := by simp [PyData.depth, PyData.depthKv]
      refine repr_of_reads' rd c1.1 (fun _ z => ?_) gd (by omega) (fun _ _ z => z) (fun h2 u tk kp => ?_) (by rw [← lim_eq]; exact c1.2)
      · rw [List.append_nil, List.mem_singleton] at z
        rw [← z] at hne
        simp at hne
      · exact ⟨.str _, w.H, I.kept (t' := tk) kp, ⟨_, rfl⟩, fin⟩
    · rcases hp : toP d with _ | p
      · have e := dRepr_I hp hd fun x i z => hd2 ⟨x, i, z⟩
        exact c_reprI cK gd un pins s σ w.H [v] us Q I rx ⟨W, w, S, [d], rfl, st, ⟨v, [], rfl, r, rfl⟩, by rw [e] at q; exact q⟩
      · exact old (dRepr_P (by rw [hp]; exact fun z => nomatch z))
theorem c_repr (cK : G.K = X.K) (hr : Rm G.gd k X.A) (hg : G.gd = true := by rfl) : CallR X (.builtin "repr") (rDs G (on1 dRepr)) := c_repr0 cK (hr.gd hg) (by have := hr.room.un; omega)
end
end Ev
set_option maxRecDepth 100000
set_option maxHeartbeats 2000000
namespace Ev
open PySem PySem.Spec PyProof.Rows L2
section
variable {G : Sg} {X : Cx} {W : WX} {k : Nat} {w0 w w1 : Wd} {S : List Ob} {sd : List SV} {σ : L2.St}
theorem R.wr {i : Nat} {a : Addr} {o o' : Ob} {h : HO} (r : R G w0 w sd S σ) (hi : sd[i]? = some (.own o)) (ha : σ[i]? = some (some (.ref a))) (hn : RepO G (w.wr a h) a o') : R G w0 (w.wr a h) (sd.set i (.own o')) S σ := by
  obtain ⟨a', e1, _, nF, nm, n0⟩ := r.ow i o hi
  rw [ha] at e1
  cases e1
  have il : i < sd.length := (List.getElem?_eq_some_iff.mp hi).1
  have st := Stay.wr (o := h) nF
  have key : ∀ {j : Nat} {x : SV}, (sd.set i (.own o'))[j]? = some x → (j = i ∧ x = .own o') ∨ (j ≠ i ∧ sd[j]? = some x) := fun {j x} z => by
    by_cases e : i = j
    · subst e
      rw [List.getElem?_set_self il] at z
      cases z
      exact .inl ⟨rfl, rfl⟩
    · rw [List.getElem?_set_ne e] at z
      exact .inr ⟨fun q => e q.symm, z⟩
  refine ⟨Ext.wr r.ex n0, r.st.wr nF nm, by rw [List.length_set]; exact r.ln, fun j x z => ?_, fun j o2 z => ?_, fun j1 j2 o1 o2 b h1 h2 h3 h4 => ?_, fun b o2 e z => by
    rcases key z with ⟨rfl, _⟩ | ⟨_, z⟩
    · exact r.sf b _ e hi
    · exact r.sf b _ e z⟩
  · rcases key z with ⟨_, e⟩ | ⟨_, z⟩
    · cases e
    · obtain ⟨v, h1, h2⟩ := r.vl j x z
      exact ⟨v, h1, RepV.stay st _ _ h2⟩
  · rcases key z with ⟨rfl, e⟩ | ⟨ne, z⟩
    · cases e
      exact ⟨a, ha, hn, nF, nm, n0⟩
    · obtain ⟨b, h1, h2, h3, h4, h5⟩ := r.ow j o2 z
      have nab : b ≠ a := fun e => by
        subst e
        exact ne (r.ap j i o2 o b z hi h1 ha)
      exact ⟨b, h1, RepO.to (upd_ne nab) st h2, h3, h4, h5⟩
  · have f1 : ∃ p1, sd[j1]? = some (.own p1) := (key h1).elim (fun z => ⟨o, z.1 ▸ hi⟩) fun z => ⟨o1, z.2⟩
    have f2 : ∃ p2, sd[j2]? = some (.own p2) := (key h2).elim (fun z => ⟨o, z.1 ▸ hi⟩) fun z => ⟨o2, z.2⟩
    obtain ⟨p1, q1⟩ := f1
    obtain ⟨p2, q2⟩ := f2
    exact r.ap j1 j2 p1 p2 b q1 q2 h3 h4
theorem R.setown {i : Nat} {a : Addr} {o : Ob} (r : R G w0 w sd S σ) (ho : RepO G w a o) (nF : ¬ w.F a) (nm : a ∉ w.m) (n0 : w0.H a = none) (na : ∀ (j : Nat) (o' : Ob), sd[j]? = some (.own o') → σ[j]? ≠ some (some (V.ref a))) (i0 : i ≠ 0) : R G w0 w (sd.set i (.own o)) S (σ.set i (some (.ref a))) := by
  have key : ∀ {j : Nat} {x : SV}, (sd.set i (.own o))[j]? = some x → (j = i ∧ i < sd.length ∧ x = .own o) ∨ (j ≠ i ∧ sd[j]? = some x) := fun {j x} z => by
    by_cases e : i = j
    · subst e
      by_cases l : i < sd.length
      · rw [List.getElem?_set_self l] at z
        cases z
        exact .inl ⟨rfl, l, rfl⟩
      · rw [List.getElem?_eq_none (by simpa using l)] at z
        cases z
    · rw [List.getElem?_set_ne e] at z
      exact .inr ⟨fun q => e q.symm, z⟩
  refine ⟨r.ex, r.st, by rw [List.length_set, List.length_set]; exact r.ln, fun j x z => ?_, fun j o2 z => ?_, fun j1 j2 o1 o2 b h1 h2 h3 h4 => ?_, fun b o2 e z => by
    rcases key z with ⟨z, _⟩ | ⟨ne, z⟩
    · exact absurd z.symm i0
    · rw [List.getElem?_set_ne i0]
      exact r.sf b _ e z⟩
  · rcases key z with ⟨_, _, e⟩ | ⟨ne, z⟩
    · cases e
    · rw [List.getElem?_set_ne (fun q => ne q.symm)]
      exact r.vl j x z
  · rcases key z with ⟨rfl, l, e⟩ | ⟨ne, z⟩
    · cases e
      exact ⟨a, List.getElem?_set_self (by rw [r.ln]; exact l), ho, nF, nm, n0⟩
    · rw [List.getElem?_set_ne (fun q => ne q.symm)]
      exact r.ow j o2 z
  · rcases key h1 with ⟨e1, l1, _⟩ | ⟨n1, h1⟩ <;> rcases key h2 with ⟨e2, l2, _⟩ | ⟨n2, h2⟩
    · rw [e1, e2]
    · rw [e1, List.getElem?_set_self (by rw [r.ln]; exact l1)] at h3
      cases h3
      rw [List.getElem?_set_ne (fun q => n2 q.symm)] at h4
      exact absurd h4 (na j2 _ h2)
    · rw [e2, List.getElem?_set_self (by rw [r.ln]; exact l2)] at h4
      cases h4
      rw [List.getElem?_set_ne (fun q => n1 q.symm)] at h3
      exact absurd h3 (na j1 _ h1)
    · rw [List.getElem?_set_ne (fun q => n1 q.symm)] at h3
      rw [List.getElem?_set_ne (fun q => n2 q.symm)] at h4
      exact r.ap j1 j2 o1 o2 b h1 h2 h3 h4
def frzO : Ob → D
  | .lst ds => .lst ds
  | .dct ks ds => .dct ks ds
  | .ins c ds => .ins c ds
  | .tbl _ => .non
theorem R.frz {i : Nat} {o : Ob} (r : R G w0 w sd S σ) (hi : sd[i]? = some (.own o)) : ∃ a, Stay w (w.fz a) ∧ R G w0 (w.fz a) (sd.set i (.val (frzO o))) S σ ∧ σ[i]? = some (some (.ref a)) ∧ RepV G (w.fz a) (frzO o) (.ref a) := by
  obtain ⟨a, ha, ho, nF, nm, n0⟩ := r.ow i o hi
  have il : i < sd.length := (List.getElem?_eq_some_iff.mp hi).1
  have rv : RepV G (w.fz a) (frzO o) (.ref a) := by
    cases o with
    | lst ds => obtain ⟨vs, h1, h2⟩ := ho; exact ⟨a, vs, rfl, .inr rfl, h1, RepVs.stay Stay.fz _ _ h2⟩
    | dct ks ds => obtain ⟨vs, h1, h2, h3⟩ := ho; exact ⟨a, vs, rfl, .inr rfl, h1, h2, RepVs.stay Stay.fz _ _ h3⟩
    | ins c ds => obtain ⟨dx, vs, h1, h2, h3⟩ := ho; exact ⟨a, dx, vs, rfl, .inr rfl, h1, h2, RepVs.stay Stay.fz _ _ h3⟩
    | tbl j => exact absurd ho.2.1 nm
  refine ⟨a, Stay.fz, ?_, ha, rv⟩
  have key : ∀ {j : Nat} {x : SV}, (sd.set i (.val (frzO o)))[j]? = some x → (j = i ∧ x = .val (frzO o)) ∨ (j ≠ i ∧ sd[j]? = some x) := fun {j x} z => by
    by_cases e : i = j
    · subst e
      rw [List.getElem?_set_self il] at z
      cases z
      exact .inl ⟨rfl, rfl⟩
    · rw [List.getElem?_set_ne e] at z
      exact .inr ⟨fun q => e q.symm, z⟩
  refine ⟨Ext.fz r.ex n0, r.st.fz nm ho.there, by rw [List.length_set]; exact r.ln, fun j x z => ?_, fun j o2 z => ?_, fun j1 j2 o1 o2 b h1 h2 h3 h4 => ?_, fun b o2 e z => by
    rcases key z with ⟨_, e⟩ | ⟨_, z⟩
    · cases e
    · exact r.sf b _ e z⟩
  · rcases key z with ⟨rfl, e⟩ | ⟨_, z⟩
    · cases e
      exact ⟨.ref a, ha, rv⟩
    · obtain ⟨v, h1, h2⟩ := r.vl j x z
      exact ⟨v, h1, RepV.stay Stay.fz _ _ h2⟩
  · rcases key z with ⟨_, e⟩ | ⟨ne, z⟩
    · cases e
    · obtain ⟨b, h1, h2, h3, h4, h5⟩ := r.ow j o2 z
      have nab : b ≠ a := fun e => by
        subst e
        exact ne (r.ap j i o2 o b z hi h1 ha)
      exact ⟨b, h1, RepO.to (w := w) (w' := w.fz a) rfl Stay.fz h2, fun q => q.elim h3 nab, h4, h5⟩
  · rcases key h1 with ⟨_, e⟩ | ⟨n1, h1⟩
    · cases e
    · rcases key h2 with ⟨_, e⟩ | ⟨n2, h2⟩
      · cases e
      · exact r.ap j1 j2 o1 o2 b h1 h2 h3 h4
def frzS (i : Nat) : MS := fun sd S => match sd[i]? with
  | some (.own o) => some (.next (sd.set i (.val (frzO o))), S)
  | _ => none
theorem ss_frz {i : Nat} {sts : List Stmt} {f : MS} (h : PSsV G X W sts f) : PSsV G X W sts (seqS (frzS i) f) := by
  refine PSs.imp h fun En σ H q => ?_
  obtain ⟨w0, w, sd, S, e, r, q⟩ := q
  unfold seqS frzS at q
  rcases hi : sd[i]? with _ | _ | d | o
  · simp only [hi] at q; exact q.elim
  · simp only [hi] at q; exact q.elim
  · simp only [hi] at q; exact q.elim
  · simp only [hi] at q
    obtain ⟨a, st, r2, _⟩ := r.frz hi
    exact ⟨w0, w.fz a, _, S, e, r2, FinS.stay st q⟩
def FinO (G : Sg) (W : Value → Option Addr → Hp → Prop) (w : Wd) (Q : VK) : Option (Except Exn (List D) × List Ob) → Prop
  | none => False
  | some (.ok ds, S) => ∀ w' p vs, Ext w w' → RepS G w' S → w'.H p = some (.lst vs) → RepVs G w' ds vs → ¬ w'.F p → p ∉ w'.m → w.H p = none → Q (.ref p) w'.H
  | some (.error e, S) => ∀ w' cls x, Ext w w' → RepS G w' S → RepX G w' e cls x → W cls x w'.H
def teO (G : Sg) (W : WX) (f : List SV → M (List D)) : TE := fun σ H Q => ∃ w0 w sd S, w.H = H ∧ R G w0 w sd S σ ∧ FinO G (fun c x H => W c x σ H) w Q (f sd S)
abbrev PO_ (G : Sg) (X : Cx) (W : WX) (e : Expr) (f : List SV → M (List D)) : Prop := PE X e (teO G W f)
theorem FinO.ext {W : Value → Option Addr → Hp → Prop} {Q : VK} {r : Option (Except Exn (List D) × List Ob)} (e : Ext w w1) (h : FinO G W w Q r) : FinO G W w1 Q r := by
  rcases r with _ | ⟨_ | ds, S⟩
  · exact h
  · exact fun w' c x e' => h w' c x (e.trans e')
  · exact fun w' p vs e' s h1 h2 h3 h4 h5 => h w' p vs (e.trans e') s h1 h2 h3 h4 (e.al _ h5)
theorem finO_step {α β : Type} {rep : Wd → α → β → Prop} {W : Value → Option Addr → Hp → Prop} {Q : β → Hp → Prop} {Q' : VK} {f : M α} {k : α → M (List D)} (h : FinO G W w Q' (M.bind f k S))
    (c : ∀ w1 S1 d v, Ext w w1 → RepS G w1 S1 → rep w1 d v → FinO G W w1 Q' (k d S1) → Q v w1.H) : FinG G rep W w Q (f S) := by
  unfold M.bind at h
  rcases hf : f S with _ | ⟨_ | d, S1⟩
  · rw [hf] at h; exact h
  · rw [hf] at h; exact h
  · rw [hf] at h
    exact fun w' v e s r => c w' S1 d v e s r (h.ext e)
theorem finO_new {W : Value → Option Addr → Hp → Prop} {Q : VK} {ds : List D} {vs : List V} {p : Addr} (h : FinO G W w Q (M.pure ds S)) (s : RepS G w S) (r : RepVs G w ds vs) (hp : w.H p = none) : Q (.ref p) (upd w.H p (.lst vs)) :=
  h (w.new p (.lst vs)) p vs (Ext.new hp) (s.new hp) upd_same (RepVs.mono (Ext.new hp) s.dj _ _ r) (fun z => s.fh p z hp) (fun z => s.there z hp) hp
theorem o_lst {n : Nat} {es : List Expr} {g : List SV → M (List D)} {pos : Pos} (h : PLn G X W n es g) (hn : n ≤ sizeLine) : PO_ G X W (.List es pos) (fun sd => M.bind (g sd) M.pure) := by
  refine PE.imp (pe_lst h) fun σ H Q h => ?_
  obtain ⟨w0, w, sd, S, e, r, q⟩ := h
  exact ⟨w0, w, sd, S, e, r, finO_step q fun w1 S1 ds vs e1 s1 rv q1 => ⟨by rw [rv.2]; exact hn, fun p hp => finO_new q1 s1 rv.1 hp⟩⟩
def ownS (i : Nat) (f : List SV → M (List D)) : MS := exS f fun ds sd S => some (.next (sd.set i (.own (.lst ds))), S)
def newRef (o : Ob) : M D := fun S => some (.ok (.ref S.length), S ++ [o])
theorem share {o : Ob} {p : Addr} (s : RepS G w S) (ho : RepO G w p o) (nF : ¬ w.F p) (nm : p ∉ w.m) : Stay w ⟨w.m ++ [p], w.F, w.H, w.x⟩ ∧ RepS G ⟨w.m ++ [p], w.F, w.H, w.x⟩ (S ++ [o]) := by
  have st : Stay w ⟨w.m ++ [p], w.F, w.H, w.x⟩ := ⟨⟨[p], rfl⟩, fun _ z => z, fun _ _ _ z => z⟩
  refine ⟨st, by simp [s.len], ?_, fun a h => ?_, s.fh, fun n a u h1 h2 => ?_⟩
  · rw [List.nodup_append]
    exact ⟨s.nd, by simp, fun a ha b hb => by
      have : b = p := by simpa using hb
      subst this
      exact fun e => nm (e ▸ ha)⟩
  · show a ∉ w.m ++ [p]
    simp only [List.mem_append, List.mem_singleton, not_or]
    exact ⟨s.dj a h, fun e => nF (by rw [← e]; exact h)⟩
  · have h1 : (w.m ++ [p])[n]? = some a := h1
    by_cases hn : n < w.m.length
    · rw [List.getElem?_append_left hn] at h1
      rw [List.getElem?_append_left (by rw [← s.len]; exact hn)] at h2
      exact RepO.to (w := w) (w' := ⟨w.m ++ [p], w.F, w.H, w.x⟩) rfl st (s.ob n a u h1 h2)
    · rw [List.getElem?_append_right (by omega)] at h1
      rw [List.getElem?_append_right (by rw [← s.len]; omega)] at h2
      have e0 : n - w.m.length = 0 := by
        have := (List.getElem?_eq_some_iff.mp h1).1
        simp at this
        omega
      rw [e0] at h1
      rw [← s.len, e0] at h2
      simp at h1 h2
      subst h1 h2
      exact RepO.to (w := w) (w' := ⟨w.m ++ [p], w.F, w.H, w.x⟩) rfl st ho
theorem v_shr {e : Expr} {f : List SV → M (List D)} (h : PO_ G X W e f) : PV G X W e (fun sd => M.bind (f sd) fun ds => newRef (.lst ds)) := by
  refine PE.imp h fun σ H Q h => ?_
  obtain ⟨w0, w, sd, S, e, r, q⟩ := h
  refine ⟨w0, w, sd, S, e, r, ?_⟩
  have q : FinG G (RepV G) (fun c x H => W c x σ H) w Q (M.bind (f sd) (fun ds => newRef (.lst ds)) S) := q
  unfold M.bind at q
  rcases hf : f sd S with _ | ⟨_ | ds, S1⟩
  · rw [hf] at q; exact q
  · rw [hf] at q; exact q
  · rw [hf] at q
    intro w' p vs e1 s1 h1 h2 h3 h4 h5
    obtain ⟨st, s2⟩ := share (o := .lst ds) s1 ⟨vs, h1, h2⟩ h3 h4
    have q : FinG G (RepV G) (fun c x H => W c x σ H) w Q (some (.ok (.ref S1.length), S1 ++ [.lst ds])) := q
    refine q ⟨w'.m ++ [p], w'.F, w'.H, w'.x⟩ (.ref p) ⟨?_, e1.F, e1.H, fun b hb => ?_, e1.nF, e1.al⟩ s2 ⟨p, rfl, ?_⟩
    · obtain ⟨rr, er⟩ := e1.m
      exact ⟨rr ++ [p], by show w'.m ++ [p] = _; rw [er, List.append_assoc]⟩
    · have hb : b ∈ w'.m ++ [p] := hb
      rcases List.mem_append.mp hb with z | z
      · exact e1.nm b z
      · have : b = p := by simpa using z
        subst this
        exact .inr h5
    · show (w'.m ++ [p])[S1.length]? = some p
      rw [← s1.len, List.getElem?_append_right (Nat.le_refl _)]
      simp
def appS (i : Nat) (f : List SV → M D) : MS := fun sd S => match sd[i]? with
  | some (.own (.lst ds)) => if ds.length < lim then exS f (fun d sd S => some (.next (sd.set i (.own (.lst (ds ++ [d])))), S)) sd S else none
  | _ => none
end
end Ev
set_option maxRecDepth 100000
set_option maxHeartbeats 2000000
namespace Ev
open PySem PySem.Spec PyProof.Rows L2
section
variable {G : Sg} {X : Cx} {W : WX} {k : Nat} {w0 w w1 : Wd} {S : List Ob} {sd : List SV} {σ : L2.St}
theorem R.wrm {n : Nat} {a : Addr} {o' : Ob} {h : HO} (r : R G w0 w sd S σ) (hm : w.m[n]? = some a) (hn : RepO G (w.wr a h) a o') : Stay w (w.wr a h) ∧ R G w0 (w.wr a h) sd (S.set n o') σ := by
  have am : a ∈ w.m := List.mem_of_getElem? hm
  have nF : ¬ w.F a := fun z => r.st.dj a z am
  have st := Stay.wr (o := h) nF
  have hnS : n < S.length := by rw [← r.st.len]; exact (List.getElem?_eq_some_iff.mp hm).1
  have ne : ∀ {j b}, w.m[j]? = some b → j ≠ n → b ≠ a := fun {j b} hj hjn e => by
    subst e
    obtain ⟨l1, e1⟩ := List.getElem?_eq_some_iff.mp hj
    obtain ⟨l2, e2⟩ := List.getElem?_eq_some_iff.mp hm
    exact hjn ((List.getElem_inj r.st.nd).mp (e1.trans e2.symm))
  refine ⟨st, ⟨?_, ?_, r.ln, fun j x z => ?_, fun j o2 z => ?_, r.ap, r.sf⟩⟩
  · refine ⟨r.ex.m, r.ex.F, fun b u hb hu => ?_, r.ex.nm, r.ex.nF, fun b z => ?_⟩
    · have nb : b ≠ a := fun e => by
        subst e
        rcases r.ex.nm b am with z | z
        · exact hb z
        · rw [z] at hu; cases hu
      show upd w.H a h b = some u
      rw [upd_ne nb]
      exact r.ex.H b u hb hu
    · have z : upd w.H a h b = none := z
      by_cases e : b = a
      · rw [e, upd_same] at z; cases z
      · rw [upd_ne e] at z
        exact r.ex.al b z
  · refine ⟨by rw [List.length_set]; exact r.st.len, r.st.nd, r.st.dj, fun b z => ?_, fun j b u h1 h2 => ?_⟩
    · show upd w.H a h b ≠ none
      rw [upd_ne (fun e => nF (by rw [← e]; exact z))]
      exact r.st.fh b z
    · by_cases e : n = j
      · subst e
        rw [List.getElem?_set_self hnS] at h2
        cases h2
        rw [show w.m[n]? = some b from h1] at hm
        cases hm
        exact hn
      · rw [List.getElem?_set_ne e] at h2
        exact RepO.to (upd_ne (ne h1 fun z => e z.symm)) st (r.st.ob j b u h1 h2)
  · obtain ⟨v, h1, h2⟩ := r.vl j x z
    exact ⟨v, h1, RepV.stay st _ _ h2⟩
  · obtain ⟨b, h1, h2, h3, h4, h5⟩ := r.ow j o2 z
    have nb : b ≠ a := fun e => h4 (e ▸ am)
    exact ⟨b, h1, RepO.to (upd_ne nb) st h2, h3, h4, h5⟩
def itemT (fo fi : List SV → M D) : Tgt := fun d sd S => match fo sd S with
  | some (.ok (.ref n), S1) => match fi sd S1 with
    | some (.ok (.int j), S2) => match S2[n]? with
      | some (.lst ds) => match ixN ds.length j with
        | some i => some (sd, S2.set n (.lst (ds.set i d)))
        | none => none
      | _ => none
    | _ => none
  | _ => none
theorem sub_tree {o i : Expr} {pos : Pos} (hs : notSlice i = true) (v : Value) : assign (.Subscript o i pos) X.env v = (do
      let ov ← holding [v] (eval o X.env)
      let iv ← holding [v, ov] (eval i X.env)
      standAt pos
      holding [v, ov, iv] (setItem ov iv v)
      release [v, ov, iv] []) := by
  cases i <;> first | rfl | cases hs
theorem g_item {o i : Expr} {fo fi : List SV → M D} {pos : Pos} (ho : PV G X W o fo) (hi : PV G X W i fi) (hs : notSlice i = true) : PGV G X [] (.Subscript o i pos) (itemT fo fi) := by
  refine PG.imp (pg_sub ho hi set_list (sub_tree hs)) fun v σ H Q q => ?_
  obtain ⟨w0, w, sd, S, d, e, r, rd, q⟩ := q
  refine ⟨w0, w, sd, S, e, r, ?_⟩
  unfold itemT at q
  rcases hf : fo sd S with _ | ⟨x | d1, S1⟩
  · rw [hf] at q; exact q
  · rw [hf] at q; exact q.elim
  · rw [hf] at q
    cases d1 with
    | ref n =>
      simp only at q
      intro w1 v1 e1 s1 ⟨a, ev, hm⟩
      have r1 := r.step e1 s1
      refine ⟨w0, w1, sd, S1, rfl, r1, ?_⟩
      rcases hg : fi sd S1 with _ | ⟨x | d2, S2⟩
      · rw [hg] at q; exact q
      · rw [hg] at q; exact q.elim
      · rw [hg] at q
        cases d2 with
        | int j =>
          simp only at q
          intro w2 v2 e2 s2 rj
          cases (show v2 = .int j from rj)
          have r2 := r1.step e2 s2
          obtain ⟨rr, er⟩ := e2.m
          have hm2 : w2.m[n]? = some a := by
            rw [er, List.getElem?_append_left (List.getElem?_eq_some_iff.mp hm).1]; exact hm
          rcases hn : S2[n]? with _ | ⟨ds | _ | _ | jt⟩
          · simp only [hn] at q; exact q.elim
          · simp only [hn] at q
            obtain ⟨vs, hh, rs⟩ := s2.ob n a _ hm2 hn
            rcases hx : ixN ds.length j with _ | i2
            · simp only [hx] at q; exact q.elim
            · simp only [hx] at q
              have rd2 : RepV G w2 d v := RepV.mono (e1.trans e2) r.st.dj _ _ rd
              have nF : ¬ w2.F a := fun z => s2.dj a z (List.mem_of_getElem? hm2)
              have st := Stay.wr (o := .lst (vs.set i2 v)) nF
              obtain ⟨st2, r3⟩ := r2.wrm hm2 (h := .lst (vs.set i2 v)) (o' := .lst (ds.set i2 d)) ⟨_, upd_same, RepVs.set i2 (RepVs.stay st _ _ rs) (RepV.stay st _ _ rd2)⟩
              refine ⟨a, vs, j, i2, ev, rfl, hh, by rw [← rs.length]; exact hx, ?_⟩
              exact q (w2.wr a _) σ (((e1.trans e2).stay r.st.dj).trans st2) r3 fun _ _ => rfl
          · simp only [hn] at q; exact q.elim
          · simp only [hn] at q; exact q.elim
          · simp only [hn] at q; exact q.elim
        | _ => exact q.elim
    | _ => exact q.elim
theorem putF_zip {f : Str} : ∀ {fs : List Str} {vs : List V} {j : Nat} {v : V}, fs.Nodup → fs[j]? = some f → j < vs.length → putF f v (fs.zip vs) = fs.zip (vs.set j v)
  | [], _, _, _, _, h, _ => by simp at h
  | _ :: _, [], _, _, _, _, h => by simp at h
  | g :: fs, u :: vs, 0, v, _, h, _ => by
    simp at h
    subst h
    show putF g v ((g, u) :: fs.zip vs) = (g, v) :: fs.zip vs
    unfold putF
    rw [if_pos rfl]
  | g :: fs, u :: vs, j + 1, v, nd, h, hl => by
    have nd := List.nodup_cons.mp nd
    have hm : fs[j]? = some f := by simpa using h
    have hne : ¬ g = f := fun e => nd.1 (e ▸ List.mem_of_getElem? hm)
    show putF f v ((g, u) :: fs.zip vs) = (g, u) :: fs.zip (vs.set j v)
    unfold putF
    rw [if_neg hne, putF_zip nd.2 hm (by simpa using hl)]
theorem putF_new {f : Str} : ∀ {fs : List Str} {vs : List V} {v : V}, fs.Nodup → fs[vs.length]? = some f → putF f v (fs.zip vs) = fs.zip (vs ++ [v])
  | [], vs, _, _, h => by simp at h
  | g :: fs, [], v, _, h => by
    simp at h
    subst h
    show putF g v [] = [(g, v)] ++ fs.zip []
    simp [putF]
  | g :: fs, u :: vs, v, nd, h => by
    have nd := List.nodup_cons.mp nd
    have hm : fs[vs.length]? = some f := by simpa using h
    have hne : ¬ g = f := fun e => nd.1 (e ▸ List.mem_of_getElem? hm)
    show putF f v ((g, u) :: fs.zip vs) = (g, u) :: fs.zip (vs ++ [v])
    unfold putF
    rw [if_neg hne, putF_new nd.2 hm]
def putL (ds : List D) (j : Nat) (d : D) : Option (List D) := if j < ds.length then some (ds.set j d) else if j = ds.length then some (ds ++ [d]) else none
structure FldT (X : Cx) (G : Sg) (m : Str) (tbl : Nat → Option Nat) : Prop where
  at_ : ∀ c j, tbl c = some j → Cls X.K (G.ca c) ∧ NoAttr X.K (G.ca c) m ∧ (G.fn c).Nodup ∧ (G.fn c)[j]? = some m ∧ (G.fn c).length < 1000
def setFS (i : Nat) (tbl : Nat → Option Nat) (f : List SV → M D) : MS := exS f fun d sd S => match sd[i]? with
  | some (.own (.ins c ds)) => match tbl c with
    | some j => match putL ds j d with
      | some es => some (.next (sd.set i (.own (.ins c es))), S)
      | none => none
    | none => none
  | _ => none
theorem s_setF {i : Nat} {x m : Str} {p apos pos : Pos} {e : Expr} {f : List SV → M D} {tbl : Nat → Option Nat} (T : FldT X G m tbl) (hN : X.N[i]? = some x) (hv : Vis X.env.scope x) (hd : (x == ("__debug__" : Str)) = false) (hcd : (x == ("__classdict__" : Str)) = false) (he : PV G X W e f) (hs : swapFree e = true) :
    PSV G X W (.Assign [.Attribute (.Name x p) m apos] e pos) (setFS i tbl f) := by
  refine PS.imp (ps_fld (pe_var (X := X) (pos := p) hN hv hd hcd) he (swap_free hs)) fun En σ H q => ?_
  obtain ⟨w0, w, sd, S, e, r, q⟩ := q
  refine ⟨w0, w, sd, S, e, r, exS_step q r fun w1 S1 d v e1 r1 rv q1 => ?_⟩
  rcases hi : sd[i]? with _ | _ | d0 | ⟨ds | ⟨ks, ds⟩ | ⟨cc, ds⟩ | jt⟩
  · simp only [hi] at q1; exact q1.elim
  · simp only [hi] at q1; exact q1.elim
  · simp only [hi] at q1; exact q1.elim
  · simp only [hi] at q1; exact q1.elim
  · simp only [hi] at q1; exact q1.elim
  · simp only [hi] at q1
    rcases ht : tbl cc with _ | j
    · simp only [ht] at q1; exact q1.elim
    · simp only [ht] at q1
      obtain ⟨cl, na, nd, hj, hl⟩ := T.at_ cc j ht
      obtain ⟨a, ha, ⟨dx, vs, h1, h2, h3⟩, nF, nm, n0⟩ := r1.ow i _ hi
      have hlen : ((G.fn cc).zip vs).length < 1000 := by
        rw [List.length_zip]; omega
      refine ⟨.ref a, ha, a, _, dx, _, rfl, h1, cl, na, hlen, ?_⟩
      unfold putL at q1
      by_cases c1 : j < ds.length
      · simp only [if_pos c1] at q1
        rw [putF_zip nd hj (by rw [← h3.length]; exact c1)]
        have hn : RepO G (w1.wr a (.ins (G.ca cc) dx ((G.fn cc).zip (vs.set j v)))) a (.ins cc (ds.set j d)) := ⟨dx, _, upd_same, by rw [List.length_set]; exact h2, RepVs.set j (RepVs.stay (Stay.wr nF) _ _ h3) (RepV.stay (Stay.wr nF) _ _ rv)⟩
        exact q1 _ σ (Stay.wr nF) (r1.wr hi ha hn)
      · simp only [if_neg c1] at q1
        by_cases c2 : j = ds.length
        · simp only [if_pos c2] at q1
          subst c2
          rw [h3.length] at hj
          rw [putF_new nd hj]
          have hn : RepO G (w1.wr a (.ins (G.ca cc) dx ((G.fn cc).zip (vs ++ [v])))) a (.ins cc (ds ++ [d])) := ⟨dx, _, upd_same, by
            rw [List.length_append]
            exact (List.getElem?_eq_some_iff.mp hj).1, RepVs.append (RepVs.stay (Stay.wr nF) _ _ h3) (RepVs.one (RepV.stay (Stay.wr nF) _ _ rv))⟩
          exact q1 _ σ (Stay.wr nF) (r1.wr hi ha hn)
        · simp only [if_neg c2] at q1; exact q1.elim
  · simp only [hi] at q1; exact q1.elim
def ownF (i : Nat) (tbl : Nat → Option Nat) : List SV → M D := fun sd => match sd[i]? with
  | some (.own (.ins c ds)) => match tbl c with
    | some j => match ds[j]? with
      | some d => M.pure d
      | none => M.stuck
    | none => M.stuck
  | _ => M.stuck
theorem v_ownF {i : Nat} {x m : Str} {p pos : Pos} {tbl : Nat → Option Nat} (T : FldT X G m tbl) (hN : X.N[i]? = some x) (hv : Vis X.env.scope x) (hd : (x == ("__debug__" : Str)) = false) (hcd : (x == ("__classdict__" : Str)) = false) : PV G X W (.Attribute (.Name x p) m pos) (ownF i tbl) := by
  refine PE.imp (pe_fld (pe_var (X := X) (pos := p) hN hv hd hcd) (attr_base rfl)) fun σ H Q q => ?_
  obtain ⟨w0, w, sd, S, e, r, q⟩ := q
  subst e
  unfold ownF at q
  rcases hi : sd[i]? with _ | _ | d0 | ⟨ds | ⟨ks, ds⟩ | ⟨cc, ds⟩ | jt⟩
  · simp only [hi] at q; exact q.elim
  · simp only [hi] at q; exact q.elim
  · simp only [hi] at q; exact q.elim
  · simp only [hi] at q; exact q.elim
  · simp only [hi] at q; exact q.elim
  · simp only [hi] at q
    rcases ht : tbl cc with _ | j
    · simp only [ht] at q; exact q.elim
    · simp only [ht] at q
      rcases hj2 : ds[j]? with _ | d
      · simp only [hj2] at q; exact q.elim
      · simp only [hj2] at q
        obtain ⟨cl, na, nd, hj, hl⟩ := T.at_ cc j ht
        obtain ⟨a, ha, ⟨dx, vs, h1, h2, h3⟩, _⟩ := r.ow i _ hi
        obtain ⟨v, hv1, hv2⟩ := h3.get hj2
        exact ⟨.ref a, ha, a, _, dx, _, v, rfl, h1, cl, na, lookup_zip_some nd hj hv1, fin_pure q r.st hv2⟩
  · simp only [hi] at q; exact q.elim
end
end Ev
set_option maxRecDepth 100000
set_option maxHeartbeats 2000000
namespace Ev
open PySem PySem.Spec PyProof.Rows L2
def cutD {α : Type} (xs : List α) (lo hi : Option Int) : List α := (xs.drop (HT.sIx xs.length 0 lo)).take (HT.sIx xs.length xs.length hi - HT.sIx xs.length 0 lo)
section
variable {G : Sg} {X : Cx} {W : WX} {k : Nat} {w0 w w1 : Wd} {S : List Ob} {sd : List SV} {σ : L2.St}
theorem cut_rep {ds : List D} {vs : List V} {lo hi : Option Int} (r : RepVs G w ds vs) : RepVs G w (cutD ds lo hi) (cutV vs lo hi) := by
  unfold cutD cutV
  rw [r.length]
  exact RepVs.take _ (RepVs.drop _ r)
def dSl (d : D) (lo hi : Option Int) : M D := match d with
  | .lst ds => M.pure (.lst (cutD ds lo hi))
  | .scr ds => M.pure (.lst (cutD ds lo hi))
  | .tup ds => M.pure (.tup (cutD ds lo hi))
  | .str z => if z.length ≤ lim then M.pure (.str (cutS z lo hi)) else M.stuck
  | _ => M.stuck
def rSlD (G : Sg) : V → Option Int → Option Int → Hp → VK → Prop := fun v lo hi H Q => ∃ W w S d, w.H = H ∧ RepS G w S ∧ RepV G w d v ∧ FinG G (RepV G) W w Q (dSl d lo hi S)
theorem sl_D (cK : G.K = X.K) : SlR X (rSlD G) := by
  have base := (sl_list (X := X)).or ((sl_tupA (X := X)).or (sl_str (X := X)))
  intro pins s σ H x v vl vu lo hi sl Q I rx hs pl pu q
  refine base pins s σ H x v vl vu lo hi sl Q I rx hs pl pu ?_
  obtain ⟨W, w, S, d, rfl, st, r, q⟩ := q
  cases d with
  | lst ds =>
    obtain ⟨a, vs, rfl, f, hh, rs⟩ := r
    exact .inl ⟨a, vs, rfl, .of hh, fun p hp => q (w.frz p _) _ (Ext.frz hp) (st.frz hp) ⟨p, _, rfl, .inr rfl, upd_same, RepVs.mono (Ext.frz hp) st.dj _ _ (cut_rep rs)⟩⟩
  | scr ds =>
    obtain ⟨a, vs, rfl, hh, rs⟩ := r
    exact .inl ⟨a, vs, rfl, sqL_of cK hh, fun p hp => q (w.frz p _) _ (Ext.frz hp) (st.frz hp) ⟨p, _, rfl, .inr rfl, upd_same, RepVs.mono (Ext.frz hp) st.dj _ _ (cut_rep rs)⟩⟩
  | tup ds =>
    obtain ⟨a, vs, rfl, hh, rs⟩ := r
    refine .inr (.inl ⟨a, vs, rfl, sqT_of cK hh, fun hw => ?_, fun _ p hp => ?_⟩)
    · have e : cutD ds lo hi = ds := by
        unfold cutD
        rw [rs.length, hw.1, hw.2, List.drop_zero, Nat.sub_zero, ← rs.length, List.take_length]
      have q : FinG G (RepV G) W w Q (M.pure (.tup (cutD ds lo hi)) S) := q
      rw [e] at q
      exact fin_pure q st ⟨a, vs, rfl, hh, rs⟩
    · exact q (w.frz p _) _ (Ext.frz hp) (st.frz hp) ⟨p, _, rfl, .inl ⟨.inr rfl, .inl upd_same⟩, RepVs.mono (Ext.frz hp) st.dj _ _ (cut_rep rs)⟩
  | str z =>
    cases (show x = .str z from r)
    obtain ⟨c, q⟩ := FinG.ite q
    exact .inr (.inr ⟨z, rfl, by rw [← lim_eq]; exact c, fin_pure q st rfl⟩)
  | _ => exact q.elim
def repO : Wd → Option Int → Option Int → Prop := fun _ a b => b = a
abbrev POV (G : Sg) (X : Cx) (W : WX) (e : Option Expr) (f : List SV → M (Option Int)) : Prop := PO X e (fun σ H Q => teG G repO W f σ H Q)
theorem PO.imp {e : Option Expr} {t t' : TO} (h : PO X e t) (i : ∀ σ H Q, t' σ H Q → t σ H Q) : PO X e t' := ⟨fun p s σ H Q I q => h.run p s σ H Q I (i σ H Q q)⟩
theorem q_none : POV G X W none (fun _ => M.pure none) := by
  refine PO.imp po_none fun σ H Q h => ?_
  obtain ⟨w0, w, sd, S, e, r, q⟩ := h
  subst e
  exact fin_pure q r.st rfl
def toI : D → M (Option Int)
  | .int i => M.pure (some i)
  | _ => M.stuck
theorem q_some {e : Expr} {f : List SV → M D} (h : PV G X W e f) : POV G X W (some e) (fun sd => M.bind (f sd) toI) := by
  refine PO.imp (po_some h) fun σ H Q h => ?_
  obtain ⟨w0, w, sd, S, e, r, q⟩ := h
  refine ⟨w0, w, sd, S, e, r, fin_step q fun w1 S1 d v e1 s1 rv q1 => ?_⟩
  cases d with
  | int i => cases (show v = .int i from rv); exact ⟨i, rfl, fin_pure q1 s1 rfl⟩
  | _ => exact q1.elim
theorem v_slice {e : Expr} {lo hi : Option Expr} {f : List SV → M D} {fl fh : List SV → M (Option Int)} {p2 pos : Pos} (cK : G.K = X.K) (he : PV G X W e f) (hl : POV G X W lo fl) (hh : POV G X W hi fh) :
    PV G X W (.Subscript e (.Slice lo hi none p2) pos) (fun sd => M.bind (f sd) fun d => M.bind (fl sd) fun l => M.bind (fh sd) fun u => dSl d l u) := by
  refine PE.imp (pe_slice (sl_D cK) he hl hh) fun σ H Q h => ?_
  obtain ⟨w0, w, sd, S, e, r, q⟩ := h
  refine ⟨w0, w, sd, S, e, r, fin_step q fun w1 S1 d v e1 s1 rv q1 => ⟨w0, w1, sd, S1, rfl, r.step e1 s1, fin_step q1 fun w2 S2 l l' e2 s2 rl q2 => ⟨w0, w2, sd, S2, rfl, (r.step e1 s1).step e2 s2, fin_step q2 fun w3 S3 u u' e3 s3 ru q3 => ?_⟩⟩⟩
  cases (show l' = l from rl)
  cases (show u' = u from ru)
  exact ⟨_, w3, S3, d, rfl, s3, RepV.mono (e2.trans e3) s1.dj d v rv, q3⟩
def dRev : D → M D
  | .lst ds => M.pure (.lst ds.reverse)
  | .scr ds => M.pure (.lst ds.reverse)
  | _ => M.stuck
def dNeg : D → M D
  | .int i => M.pure (.int (-i))
  | _ => M.stuck
theorem v_neg {a : Expr} {f : List SV → M D} {pos : Pos} (ha : PV G X W a f) : PV G X W (.UnaryOp .USub a pos) (fun sd => M.bind (f sd) dNeg) := by
  refine PE.imp (pe_un un_neg ha) fun σ H Q h => ?_
  obtain ⟨w0, w, sd, S, e, r, q⟩ := h
  refine ⟨w0, w, sd, S, e, r, fin_step q fun w1 S1 d v e1 s1 rv q1 => ?_⟩
  cases d with
  | int i => cases (show v = .int i from rv); exact ⟨i, rfl, fin_pure q1 s1 rfl⟩
  | _ => exact q1.elim
def signIn (x z : Str) : Option Bool := match x.cps.toList with
  | [c] => some (decide (c ∈ z.cps.toList))
  | _ => none
def txts : List D → Option (List Str)
  | [] => some []
  | .str x :: ds => (txts ds).map (x :: ·)
  | _ :: _ => none
def dIn (neg : Bool) (d e : D) : M D := match e with
  | .str z => match d with
    | .str x => match signIn x z with
      | some b => M.pure (.bl (if neg then !b else b))
      | none => M.stuck
    | _ => M.stuck
  | .lst ds => match toP d, toPs ds with
    | some p, some ps => if SeqAt.shaped p = true ∧ SeqAt.shaped (.list ps) = true then M.pure (.bl (if neg then !(ps.any fun z => PyData.eqv z p) else ps.any fun z => PyData.eqv z p)) else M.stuck
    | _, _ => M.stuck
  | .tup ds => match d with
    | .str x => match txts ds with
      | some xs => M.pure (.bl (if neg then !xs.contains x else xs.contains x))
      | none => M.stuck
    | _ => M.stuck
  | _ => M.stuck
theorem strs_rep : ∀ {ds : List D} {xs : List Str} {vs : List V}, txts ds = some xs → RepVs G w ds vs → vs = xs.map V.str
  | [], xs, vs, h, r => by unfold txts at h; cases h; exact r
  | .str x :: ds, xs, vs, h, r => by
    unfold txts at h
    obtain ⟨ys, h1, h2⟩ := Option.map_eq_some_iff.mp h
    subst h2
    obtain ⟨v, t, e, h3, h4⟩ := r
    rw [e, strs_rep h1 h4]
    cases (show v = .str x from h3)
    rfl
  | .non :: _, _, _, h, _ => by cases h
  | .bl _ :: _, _, _, h, _ => by cases h
  | .int _ :: _, _, _, h, _ => by cases h
  | .tup _ :: _, _, _, h, _ => by cases h
  | .lst _ :: _, _, _, h, _ => by cases h
  | .scr _ :: _, _, _, h, _ => by cases h
  | .dct _ _ :: _, _, _, h, _ => by cases h
  | .ins _ _ :: _, _, _, h, _ => by cases h
  | .ref _ :: _, _, _, h, _ => by cases h
  | .ty _ :: _, _, _, h, _ => by cases h
  | .cls _ :: _, _, _, h, _ => by cases h
  | .raw _ _ _ _ :: _, _, _, h, _ => by cases h
theorem all_flat (xs : List Str) : (xs.map V.str).all flatV = true := by
  rw [List.all_map]
  exact List.all_eq_true.mpr fun _ _ => rfl
theorem inV_strs (x : Str) (xs : List Str) : inV (.str x) (xs.map V.str) = xs.contains x := by
  unfold inV
  induction xs with
  | nil => rfl
  | cons y ys ih =>
    rw [List.map_cons, List.any_cons, ih, List.contains_cons]
    congr 1
    show eqV (.str y) (.str x) = (x == y)
    have : eqV (.str y) (.str x) = (y == x) := by first | rfl | simp [eqV]
    rw [this]
    exact Bool.beq_comm ..
theorem o_in (cK : G.K = X.K) (hr : Rm G.gd k X.A) : OpR X (compareOp .In) (rD2 G (dIn false)) := by
  have hu : X.A.units + 65 < cLine := by have := hr.room.un; omega
  refine OpR.imp (op_in_sign.or ((op_inD hu).or op_in_seq)) fun v u H Q q => ?_
  obtain ⟨W, w, S, d, e, rfl, s, r1, r2, q⟩ := q
  unfold dIn at q
  cases e with
  | str z =>
    cases d with
    | str x =>
      cases (show v = .str x from r1)
      cases (show u = .str z from r2)
      rcases hx : signIn x z with _ | b
      · simp only [hx] at q; exact q.elim
      · simp only [hx] at q
        unfold signIn at hx
        split at hx
        · rename_i c hc
          cases hx
          refine .inl ⟨c, z, ?_, rfl, fin_pure (b := V.bl _) q s rfl⟩
          congr 1
          rcases x with ⟨⟨l⟩⟩
          have : l = [c] := hc
          rw [this]
        · cases hx
    | _ => exact q.elim
  | lst ds =>
    rcases hp : toP d with _ | p
    · simp only [hp] at q; exact q.elim
    · rcases hq : toPs ds with _ | ps
      · simp only [hp, hq] at q; exact q.elim
      · simp only [hp, hq] at q
        obtain ⟨⟨c1, c2⟩, q⟩ := FinG.ite q
        have hl : toP (.lst ds) = some (.list ps) := by show (toPs ds).map _ = _; rw [hq]; rfl
        exact .inr (.inl ⟨p, ps, toP_dp cK d v p r1 hp, toP_dp cK (.lst ds) u (.list ps) r2 hl, c1, c2, fin_pure (b := V.bl _) q s rfl⟩)
  | tup ds =>
    cases d with
    | str x =>
      cases (show v = .str x from r1)
      rcases hx : txts ds with _ | xs
      · simp only [hx] at q; exact q.elim
      · simp only [hx] at q
        obtain ⟨a, vs, e, hh, rs⟩ := r2
        have ev := strs_rep hx rs
        subst ev
        refine .inr (.inr ⟨a, _, e, .inr (sqT_of cK hh), rfl, all_flat xs, ?_⟩)
        have q2 := fin_pure (b := V.bl (xs.contains x)) q s rfl
        rw [inV_strs]
        exact q2
    | _ => exact q.elim
  | _ => exact q.elim
theorem o_notin (cK : G.K = X.K) (hr : Rm G.gd k X.A) : OpR X (compareOp .NotIn) (rD2 G (dIn true)) := by
  have hu : X.A.units + 65 < cLine := by have := hr.room.un; omega
  refine OpR.imp (op_notIn_sign.or ((op_notInD hu).or op_notIn_seq)) fun v u H Q q => ?_
  obtain ⟨W, w, S, d, e, rfl, s, r1, r2, q⟩ := q
  unfold dIn at q
  cases e with
  | str z =>
    cases d with
    | str x =>
      cases (show v = .str x from r1)
      cases (show u = .str z from r2)
      rcases hx : signIn x z with _ | b
      · simp only [hx] at q; exact q.elim
      · simp only [hx] at q
        unfold signIn at hx
        split at hx
        · rename_i c hc
          cases hx
          refine .inl ⟨c, z, ?_, rfl, fin_pure (b := V.bl _) q s rfl⟩
          congr 1
          rcases x with ⟨⟨l⟩⟩
          have : l = [c] := hc
          rw [this]
        · cases hx
    | _ => exact q.elim
  | lst ds =>
    rcases hp : toP d with _ | p
    · simp only [hp] at q; exact q.elim
    · rcases hq : toPs ds with _ | ps
      · simp only [hp, hq] at q; exact q.elim
      · simp only [hp, hq] at q
        obtain ⟨⟨c1, c2⟩, q⟩ := FinG.ite q
        have hl : toP (.lst ds) = some (.list ps) := by show (toPs ds).map _ = _; rw [hq]; rfl
        exact .inr (.inl ⟨p, ps, toP_dp cK d v p r1 hp, toP_dp cK (.lst ds) u (.list ps) r2 hl, c1, c2, fin_pure (b := V.bl _) q s rfl⟩)
  | tup ds =>
    cases d with
    | str x =>
      cases (show v = .str x from r1)
      rcases hx : txts ds with _ | xs
      · simp only [hx] at q; exact q.elim
      · simp only [hx] at q
        obtain ⟨a, vs, e, hh, rs⟩ := r2
        have ev := strs_rep hx rs
        subst ev
        refine .inr (.inr ⟨a, _, e, .inr (sqT_of cK hh), rfl, all_flat xs, ?_⟩)
        have q2 := fin_pure (b := V.bl (!xs.contains x)) q s rfl
        show Q (.bl (if true = true then !inV (.str x) (xs.map V.str) else inV (.str x) (xs.map V.str))) w.H
        rw [inV_strs]
        exact q2
    | _ => exact q.elim
  | _ => exact q.elim
end
end Ev
set_option maxRecDepth 100000
set_option maxHeartbeats 2000000
namespace Ev
open PySem PySem.Spec PyProof.Rows L2
section
variable {G : Sg} {X : Cx} {W : WX} {k : Nat} {w0 w w1 : Wd} {S : List Ob} {sd : List SV} {σ : L2.St}
def chainD (g g' : D → D → M D) (fa fb fc : List SV → M D) : List SV → M D := fun sd => M.bind (fa sd) fun x => M.bind (fb sd) fun y => M.bind (g x y) fun z => M.bind (toB z) fun k => if k = true then M.bind (fc sd) fun u => g' y u else M.pure (.bl false)
theorem toB_bind {α β : Type} {rep : Wd → α → β → Prop} {W' : Value → Option Addr → Hp → Prop} {Q : β → Hp → Prop} {d : D} {v : V} {kk : Bool → M α} (h : FinG G rep W' w Q (M.bind (toB d) kk S)) (r : RepV G w d v) : ∃ b, v = .bl b ∧ FinG G rep W' w Q (kk b S) := by
  cases d with
  | bl b => exact ⟨b, r, h⟩
  | _ => exact False.elim h
theorem chain_read {g g' : D → D → M D} {fa fb fc : List SV → M D} {H : Hp} {Q : VK} (h : teV G W (chainD g g' fa fb fc) σ H Q) : tChain (rD2 G g) (rD2 G g') (teV G W fa) (teV G W fb) (teV G W fc) σ H Q := by
  obtain ⟨w0, w, sd, S, e, r, q⟩ := h
  refine ⟨w0, w, sd, S, e, r, fin_step q fun w1 S1 d v e1 s1 rv q1 => ⟨w0, w1, sd, S1, rfl, r.step e1 s1, fin_step q1 fun w2 S2 d2 v2 e2 s2 rv2 q2 => ?_⟩⟩
  refine ⟨_, w2, S2, d, d2, rfl, s2, RepV.mono e2 s1.dj d v rv, rv2, fin_step q2 fun w3 S3 z vz e3 s3 rz q3 => ?_⟩
  obtain ⟨b, ev, q4⟩ := toB_bind q3 rz
  refine ⟨b, ev, ?_⟩
  cases b with
  | false => exact fin_pure (b := V.bl false) q4 s3 rfl
  | true =>
    refine ⟨w0, w3, sd, S3, rfl, ((r.step e1 s1).step e2 s2).step e3 s3, fin_step q4 fun w4 S4 d4 v4 e4 s4 rv4 q5 => ?_⟩
    exact ⟨_, w4, S4, d2, d4, rfl, s4, RepV.mono (e3.trans e4) s2.dj d2 v2 rv2, rv4, q5⟩
theorem marks_of {op op' : CmpOp} {b c : Expr} (h : behindInMarks op' c = false) : lastMarks [op, op'] [b, c] = false := h
theorem v_chain' {op op' : CmpOp} {g g' : D → D → M D} {a b c : Expr} {fa fb fc : List SV → M D} {pos : Pos} (ho : OpR X (compareOp op) (rD2 G g)) (ho' : OpR X (compareOp op') (rD2 G g')) (ha : PV G X W a fa) (hb : PV G X W b fb) (hc : PV G X W c fc)
    (hm : behindInMarks op' c = false) : PV G X W (.Compare a [op, op'] [b, c] pos) (chainD g g' fa fb fc) := PE.imp (pe_chain ho ho' ha hb hc (marks_of hm)) fun σ H Q h => chain_read h
theorem b_chain {op op' : CmpOp} {g g' : D → D → M D} {a b c : Expr} {fa fb fc : List SV → M D} {pos : Pos} (ho : OpR X (compareOp op) (rD2 G g)) (ho' : OpR X (compareOp op') (rD2 G g')) (ha : PV G X W a fa) (hb : PV G X W b fb) (hc : PV G X W c fc)
    (hm : behindInMarks op' c = false) : PB G X W (.Compare a [op, op'] [b, c] pos) (fun sd => M.bind (chainD g g' fa fb fc sd) toB) := by
  refine PT.imp (pt_chain ho ho' ha hb hc (marks_of hm)) fun σ H Q h => ?_
  obtain ⟨w0, w, sd, S, e, r, q⟩ := h
  exact chain_read ⟨w0, w, sd, S, e, r, fin_step q fun w1 S1 d v e1 s1 rv q1 => toB_fin q1 s1 rv⟩
theorem reps_strs : ∀ ys : List Str, RepVs G w (ys.map D.str) (ys.map V.str)
  | [] => rfl
  | y :: ys => ⟨.str y, _, rfl, rfl, reps_strs ys⟩
def isStr : D → M Str
  | .str x => M.pure x
  | _ => M.stuck
def dSplit (a : Str) : D → M D
  | .str b => if (b.length == 0) = false ∧ a.length + 2 ≤ lim then M.pure (.lst ((Txt.split a b).map .str)) else M.stuck
  | _ => M.stuck
def dJoin (a : Str) (e : D) : M D := match e with
  | .lst ds => match txts ds with
    | some ys => if (ys.map (·.length)).sum + ys.length * a.length ≤ 16777216 then M.pure (.str (Txt.join a ys)) else M.stuck
    | none => M.stuck
  | .tup ds => match txts ds with
    | some ys => if (ys.map (·.length)).sum + ys.length * a.length ≤ 16777216 then M.pure (.str (Txt.join a ys)) else M.stuck
    | none => M.stuck
  | _ => M.stuck
theorem isStr_bind {α β : Type} {rep : Wd → α → β → Prop} {W' : Value → Option Addr → Hp → Prop} {Q : β → Hp → Prop} {d : D} {v : V} {kk : Str → M α} (h : FinG G rep W' w Q (M.bind (isStr d) kk S)) (r : RepV G w d v) : ∃ b, v = .str b ∧ FinG G rep W' w Q (kk b S) := by
  cases d with
  | str b => exact ⟨b, r, h⟩
  | _ => exact False.elim h
theorem v_split {o e : Expr} {fo fe : List SV → M D} {apos pos : Pos} (ho : PV G X W o fo) (he : PV G X W e fe) (hs : notStar e = true) (hb : plainBase o = true) (hp : (apos.endLine == pos.line) = true) :
    PV G X W (.Call (.Attribute o "split" apos) [e] [] pos) (fun sd => M.bind (fo sd) fun d => M.bind (isStr d) fun a => M.bind (fe sd) fun b => dSplit a b) := by
  refine PE.imp (pe_split ho he (by rw [starEach_cons hs]; rfl) (attr_base hb) hp) fun σ H Q h => ?_
  obtain ⟨w0, w, sd, S, e, r, q⟩ := h
  refine ⟨w0, w, sd, S, e, r, fin_step q fun w1 S1 d v e1 s1 rv q1 => ?_⟩
  obtain ⟨a, ev, q2⟩ := isStr_bind q1 rv
  refine ⟨⟨a, ev⟩, w0, w1, sd, S1, rfl, r.step e1 s1, fin_step q2 fun w2 S2 d2 v2 e2 s2 rv2 q3 => ?_⟩
  cases d2 with
  | str b =>
    cases (show v2 = .str b from rv2)
    obtain ⟨⟨c1, c2⟩, q4⟩ := FinG.ite q3
    exact ⟨a, b, ev, rfl, c1, by rw [← lim_eq]; exact c2, fun p hp => q4 (w2.frz p _) _ (Ext.frz hp) (s2.frz hp) ⟨p, _, rfl, .inr rfl, upd_same, reps_strs _⟩⟩
  | _ => exact q3.elim
theorem v_join {o e : Expr} {fo fe : List SV → M D} {apos pos : Pos} (cK : G.K = X.K) (ho : PV G X W o fo) (he : PV G X W e fe) (hs : notStar e = true) (hb : plainBase o = true) (hp : (apos.endLine == pos.line) = true) :
    PV G X W (.Call (.Attribute o "join" apos) [e] [] pos) (fun sd => M.bind (fo sd) fun d => M.bind (isStr d) fun a => M.bind (fe sd) fun b => dJoin a b) := by
  refine PE.imp (pe_join ho he (by rw [starEach_cons hs]; rfl) (attr_base hb) hp) fun σ H Q h => ?_
  obtain ⟨w0, w, sd, S, e, r, q⟩ := h
  refine ⟨w0, w, sd, S, e, r, fin_step q fun w1 S1 d v e1 s1 rv q1 => ?_⟩
  obtain ⟨a, ev, q2⟩ := isStr_bind q1 rv
  refine ⟨⟨a, ev⟩, w0, w1, sd, S1, rfl, r.step e1 s1, fin_step q2 fun w2 S2 d2 v2 e2 s2 rv2 q3 => ?_⟩
  unfold dJoin at q3
  cases d2 with
  | lst ds =>
    rcases ht : txts ds with _ | ys
    · simp only [ht] at q3; exact q3.elim
    · simp only [ht] at q3
      obtain ⟨c1, q4⟩ := FinG.ite q3
      obtain ⟨p, vs, e3, f, hh, rs⟩ := rv2
      have e4 := strs_rep ht rs
      subst e4
      exact ⟨a, p, ys, ev, by rw [e3], .inl (.of hh), c1, fin_pure q4 s2 rfl⟩
  | tup ds =>
    rcases ht : txts ds with _ | ys
    · simp only [ht] at q3; exact q3.elim
    · simp only [ht] at q3
      obtain ⟨c1, q4⟩ := FinG.ite q3
      obtain ⟨p, vs, e3, hh, rs⟩ := rv2
      have e4 := strs_rep ht rs
      subst e4
      exact ⟨a, p, ys, ev, by rw [e3], .inr (sqT_of cK hh), c1, fin_pure q4 s2 rfl⟩
  | _ => exact q3.elim
def dFmt : D → M D
  | .str x => if x.length ≤ lim then M.pure (.str x) else M.stuck
  | .int i => if strOk i = true then M.pure (.str (toString i : String)) else M.stuck
  | _ => M.stuck
theorem v_fmt {e : Expr} {f : List SV → M D} {pos : Pos} (he : PV G X W e f) : PV G X W (.FormattedValue e (-1) none pos) (fun sd => M.bind (f sd) dFmt) := by
  refine PE.imp (pe_fmt he) fun σ H Q h => ?_
  obtain ⟨w0, w, sd, S, e, r, q⟩ := h
  refine ⟨w0, w, sd, S, e, r, fin_step q fun w1 S1 d v e1 s1 rv q1 => ?_⟩
  cases d with
  | str x =>
    obtain ⟨c, q2⟩ := FinG.ite q1
    exact .inl ⟨x, rv, by rw [← lim_eq]; exact c, fin_pure q2 s1 rfl⟩
  | int i =>
    obtain ⟨c, q2⟩ := FinG.ite q1
    exact .inr ⟨i, rv, of_decide_eq_true c, fin_pure q2 s1 rfl⟩
  | _ => exact q1.elim
inductive PJV (G : Sg) (X : Cx) (W : WX) : List Expr → List (List SV → M D) → Prop where
  | nil : PJV G X W [] []
  | cons {e : Expr} {f : List SV → M D} {es : List Expr} {fs : List (List SV → M D)} (h : PV G X W e f) (r : PJV G X W es fs) : PJV G X W (e :: es) (f :: fs)
def joinFs : List (List SV → M D) → Str → List SV → M D
  | [], acc, _ => M.pure (.str acc)
  | f :: fs, acc, sd => M.bind (f sd) fun d => M.bind (isStr d) fun y => if (acc ++ y).length ≤ lim then joinFs fs (acc ++ y) sd else M.stuck
theorem PJV.pj {es : List Expr} {fs : List (List SV → M D)} (h : PJV G X W es fs) : PJ X es (fs.map (teV G W)) := by
  induction h with
  | nil => exact .nil
  | cons h r ih => exact .cons h ih
theorem join_read : ∀ (fs : List (List SV → M D)) (acc : Str) (σ : L2.St) (H : Hp) (Q : VK), teV G W (joinFs fs acc) σ H Q → tJs (fs.map (teV G W)) acc σ H (fun out H1 => Q (.str out) H1)
  | [], acc, σ, H, Q, h => by
    obtain ⟨w0, w, sd, S, e, r, q⟩ := h
    subst e
    exact fin_pure (b := V.str acc) q r.st rfl
  | f :: fs, acc, σ, H, Q, h => by
    obtain ⟨w0, w, sd, S, e, r, q⟩ := h
    refine ⟨w0, w, sd, S, e, r, fin_step (f := f sd) q fun w1 S1 d v e1 s1 rv q1 => ?_⟩
    obtain ⟨y, ev, q2⟩ := isStr_bind q1 rv
    obtain ⟨c, q3⟩ := FinG.ite q2
    exact ⟨y, ev, by rw [← lim_eq]; exact c, join_read fs (acc ++ y) σ w1.H Q ⟨w0, w1, sd, S1, rfl, r.step e1 s1, q3⟩⟩
theorem v_joined {v1 v2 : Expr} {rest : List Expr} {fs : List (List SV → M D)} {pos : Pos} (h : PJV G X W (v1 :: v2 :: rest) fs) : PV G X W (.JoinedStr (v1 :: v2 :: rest) pos) (joinFs fs Str.empty) :=
  PE.imp (pe_joined h.pj) fun σ H Q q => join_read fs Str.empty σ H Q q
def subT (a b : TyN) : Bool := a = b || (a = .bool && b = .int)
theorem kitT {K : PySem.W.Frag} (a b : TyN) : PySem.W.kitOne K (.type a.name) (.type b.name) = some (subT a b) := by
  cases a <;> cases b <;> exact kit_ty (by decide +kernel)
structure ClsT (X : Cx) (G : Sg) (known : Nat → Bool) (sub : Nat → Nat → Option Bool) : Prop where
  cl : ∀ c, known c = true → Cls X.K (G.ca c) ∧ PySem.W.findIn X.K (.ref (G.ca c)) "__class__" = some (some (.builtin "object.__class__")) ∧ PySem.W.mroIn X.K (G.ca c) (.type "object") = some true
  hn : PySem.W.specialIn X.K (.builtin "object.__class__") "__get__" = some (some (.builtin "getset_descriptor.__get__"))
  ht : PySem.W.takesIn X.K (.builtin "object.__class__") = some true
  cc : ∀ c c' b, sub c c' = some b → PySem.W.kitOne X.K (.ref (G.ca c)) (.ref (G.ca c')) = some b
  ct : ∀ c t, known c = true → PySem.W.kitOne X.K (.ref (G.ca c)) (.type (TyN.name t)) = some false
  tc : ∀ t c, known c = true → PySem.W.kitOne X.K (.type (TyN.name t)) (.ref (G.ca c)) = some false
def tyOf (d : D) : M (Sum TyN Nat) := fun S => match d with
  | .non => some (.ok (.inl .none_), S)
  | .bl _ => some (.ok (.inl .bool), S)
  | .int _ => some (.ok (.inl .int), S)
  | .str _ => some (.ok (.inl .str), S)
  | .tup _ => some (.ok (.inl .tuple), S)
  | .lst _ => some (.ok (.inl .list), S)
  | .scr _ => some (.ok (.inl .list), S)
  | .dct _ _ => some (.ok (.inl .dict), S)
  | .ins c _ => some (.ok (.inr c), S)
  | .ref n => match S[n]? with
    | some (.lst _) => some (.ok (.inl .list), S)
    | some (.dct _ _) => some (.ok (.inl .dict), S)
    | some (.ins c _) => some (.ok (.inr c), S)
    | _ => none
  | _ => none
def isaD (known : Nat → Bool) (sub : Nat → Nat → Option Bool) (t : Sum TyN Nat) : D → Option Bool
  | .ty b => match t with
    | .inl a => some (subT a b)
    | .inr c => if known c = true then some false else none
  | .cls c' => match t with
    | .inl _ => if known c' = true then some false else none
    | .inr c => if known c = true then sub c c' else none
  | _ => none
def dIsa (known : Nat → Bool) (sub : Nat → Nat → Option Bool) (d e : D) : M D := M.bind (tyOf d) fun t => match isaD known sub t e with
  | some b => M.pure (.bl b)
  | none => M.stuck
def tyV' (G : Sg) : Sum TyN Nat → Value
  | .inl t => .type t.name
  | .inr c => .ref (G.ca c)
theorem tyOf_rep {d : D} {v : V} {t : Sum TyN Nat} {S' : List Ob} {known : Nat → Bool} {sub : Nat → Nat → Option Bool} (cK : G.K = X.K) (T : ClsT X G known sub) (s : RepS G w S) (r : RepV G w d v) (h : tyOf d S = some (.ok t, S')) (hk : ∀ c, t = .inr c → known c = true) : S' = S ∧ TyX X.K w.H v (tyV' G t) := by
  have insX : ∀ {a dx : Addr} {fs : List (Str × V)} {c : Nat}, w.H a = some (.ins (G.ca c) dx fs) → known c = true → TyX X.K w.H (.ref a) (.ref (G.ca c)) := fun e hc => by
    obtain ⟨h1, h2, h3⟩ := T.cl _ hc
    exact .base (.ins e h1 h2 T.hn T.ht h3)
  unfold tyOf at h
  cases d with
  | non => cases h; cases (show v = .non from r); exact ⟨rfl, .base .non⟩
  | bl b => cases h; cases (show v = .bl b from r); exact ⟨rfl, .base (.bl b)⟩
  | int b => cases h; cases (show v = .int b from r); exact ⟨rfl, .base (.int b)⟩
  | str b => cases h; cases (show v = .str b from r); exact ⟨rfl, .base (.str b)⟩
  | tup ds =>
    cases h
    obtain ⟨a, vs, e, hh, rs⟩ := r
    subst e
    rcases hh with ⟨_, hh | ⟨o, hh⟩⟩ | ⟨o, its, n, h1, h2, _⟩
    · exact ⟨rfl, .base (.tup hh)⟩
    · exact ⟨rfl, .fTuple hh⟩
    · exact ⟨rfl, .kTuple (by rw [← cK]; exact h1) h2⟩
  | lst ds =>
    cases h
    obtain ⟨a, vs, e, f, hh, rs⟩ := r
    subst e
    exact ⟨rfl, .base (.lst hh)⟩
  | scr ds =>
    cases h
    obtain ⟨a, vs, e, hh, rs⟩ := r
    subst e
    rcases hh with ⟨_, hh | ⟨o, hh⟩⟩ | ⟨o, its, n, h1, h2, _⟩
    · exact ⟨rfl, .base (.lst hh)⟩
    · exact ⟨rfl, .base (.frz hh)⟩
    · exact ⟨rfl, .kList (by rw [← cK]; exact h1) h2⟩
  | dct ks ds =>
    cases h
    obtain ⟨a, vs, e, f, hh, _⟩ := r
    subst e
    exact ⟨rfl, .base (.dK hh)⟩
  | ins c ds =>
    cases h
    obtain ⟨a, dx, vs, e, f, hh, _⟩ := r
    subst e
    exact ⟨rfl, insX hh (hk c rfl)⟩
  | ref n =>
    obtain ⟨a, e, hm⟩ := r
    subst e
    rcases hn : S[n]? with _ | ⟨ds | ⟨ks, ds⟩ | ⟨c, ds⟩ | jt⟩
    · simp only [hn] at h; cases h
    · simp only [hn] at h
      cases h
      obtain ⟨vs, hh, _⟩ := s.ob n a _ hm hn
      exact ⟨rfl, .base (.lst hh)⟩
    · simp only [hn] at h
      cases h
      obtain ⟨vs, hh, _⟩ := s.ob n a _ hm hn
      exact ⟨rfl, .base (.dK hh)⟩
    · simp only [hn] at h
      cases h
      obtain ⟨dx, vs, hh, _⟩ := s.ob n a _ hm hn
      exact ⟨rfl, insX hh (hk c rfl)⟩
    · simp only [hn] at h; cases h
  | ty t => cases h
  | cls c => cases h
  | raw _ _ _ _ => cases h
theorem tyOf_noerr {d : D} {S' : List Ob} {x : Exn} : tyOf d S ≠ some (.error x, S') := by
  intro h
  unfold tyOf at h
  cases d with
  | ref n => rcases hn : S[n]? with _ | ⟨ds | ⟨ks, ds⟩ | ⟨c, ds⟩ | jt⟩ <;> simp [hn] at h
  | _ => simp at h
theorem c_isa {known : Nat → Bool} {sub : Nat → Nat → Option Bool} (cK : G.K = X.K) (T : ClsT X G known sub) : CallR X (.builtin "isinstance") (rDs G (on2 (dIsa known sub))) := by
  refine CallR.imp call_isi fun vs H Q h => ?_
  obtain ⟨W, w, S, d, e, v, u, rfl, s, rfl, r, r', q⟩ := on2_of h
  unfold dIsa M.bind at q
  rcases ht : tyOf d S with _ | ⟨x | t, S2⟩
  · rw [ht] at q; exact q.elim
  · exact absurd ht tyOf_noerr
  · rw [ht] at q
    simp only at q
    rcases hi : isaD known sub t e with _ | b
    · simp only [hi] at q; exact q.elim
    · simp only [hi] at q
      have hk : ∀ c, t = .inr c → known c = true := fun c e2 => by
        subst e2
        unfold isaD at hi
        cases e with
        | ty b => by_cases hc : known c = true
                  · exact hc
                  · simp [hc] at hi
        | cls c' => by_cases hc : known c = true
                    · exact hc
                    · simp [hc] at hi
        | _ => simp at hi
      obtain ⟨rfl, ty⟩ := tyOf_rep cK T s r ht hk
      have kit : ∃ c, ClsV u c ∧ PySem.W.kitOne X.K (tyV' G t) c = some b := by
        unfold isaD at hi
        cases e with
        | ty y =>
          cases (show u = .ty y.name from r')
          refine ⟨.type y.name, .ty _, ?_⟩
          rcases t with a | c
          · simp only [Option.some.injEq] at hi
            subst hi
            exact kitT a y
          · have hc := hk c rfl
            simp only [hc, if_true, Option.some.injEq] at hi
            subst hi
            exact T.ct c y hc
        | cls c' =>
          cases (show u = .ref (G.ca c') from r')
          refine ⟨.ref (G.ca c'), .own _, ?_⟩
          rcases t with a | c
          · by_cases hc : known c' = true
            · simp only [hc, if_true, Option.some.injEq] at hi
              subst hi
              exact T.tc a c' hc
            · simp [hc] at hi
          · have hc := hk c rfl
            simp only [hc, if_true] at hi
            exact T.cc c c' b hi
        | _ => simp at hi
      obtain ⟨cc, h1, h2⟩ := kit
      exact ⟨v, u, tyV' G t, cc, b, rfl, h1, ty, h2, fin_pure q s rfl⟩
end
end Ev
set_option maxRecDepth 100000
set_option maxHeartbeats 2000000
namespace Ev
open PySem PySem.Spec PyProof.Rows L2
def FnS (P : Program) (w : World) (K : PySem.W.Frag) (mg : Str → Option Value) (base : Heap) (b : Bool) (k : Nat) (f : Addr) (sp : Sp) : Prop :=
  ∀ (A : Around) (fr : List Env) (s : Shared) (H : Hp) (us : List Value) (vs : List V) (Q : VK) (E : XK),
    Rm b k A → Env0 P w K mg base A fr s H → Vals vs us → sp vs H Q E → codeAny (model P w) A (.call (.ref f) ⟨us, []⟩) (CR (L2N.CX P w) fr P w H s Q E) s
def finR : Option (Out × List Ob) → Option (Except Exn D × List Ob)
  | some (.next _, S) => some (.ok .non, S)
  | some (.ret d, S) => some (.ok d, S)
  | some (.err e _, S) => some (.error e, S)
  | _ => none
def slots (n : Nat) (sv : List SV) : List SV := sv ++ List.replicate (n - sv.length) .no
def runFn (m n : Nat) (ms : MS) : List D → M D := fun ds S => if ds.length = m then finR (ms (slots n (ds.map .val)) S) else none
def mkR (c : Nat) : Option (Out × List Ob) → Option (Except Exn D × List Ob)
  | some (.next sd, S) => match sd[0]? with
    | some (SV.own (Ob.ins c' es)) => if c' = c then some (.ok (.ins c es), S) else none
    | _ => none
  | some (.err e _, S) => some (.error e, S)
  | _ => none
def mkFn (c m n : Nat) (ms : MS) : List D → M D := fun ds S => if ds.length + 1 = m then mkR c (ms (slots n (.own (.ins c []) :: ds.map .val)) S) else none
def mkStar (c m n : Nat) (ms : MS) : List D → M D := fun ds => if m ≤ ds.length + 1 ∧ ds.length + 1 < m + lim then mkFn c (m + 1) n ms (ds.take (m - 1) ++ [.tup (ds.drop (m - 1))]) else M.stuck
section
variable {P : Program} {w : World} {K : PySem.W.Frag} {mg : Str → Option Value} {base : Heap} {G : Sg} {k : Nat} {f : Addr} {x qual : Str} {st : Stmt} {fd : FuncData} {N ps : List Str} {ms : MS}
abbrev XF (P : Program) (w : World) (K : PySem.W.Frag) (mg : Str → Option Value) (base : Heap) (N : List Str) (qual : Str) (st : Stmt) (f : Addr) (cdv : Value) (A : Around) (fr : List Env) (s : Shared) (H : Hp) (E : XK) : Cx :=
  cxOf (L2N.CX P w) P w K mg base N qual (defScope st) f cdv A fr s H E
abbrev WF (E : XK) : WX := fun c d _ H => E c d H
def Body (P : Program) (w : World) (K : PySem.W.Frag) (mg : Str → Option Value) (base : Heap) (G : Sg) (k : Nat) (f : Addr) (N : List Str) (qual : Str) (st : Stmt) (ms : MS) : Prop :=
  ∀ (cdv : Value) (A : Around) (fr : List Env) (s : Shared) (H : Hp) (E : XK), Ctx G (XF P w K mg base N qual st f cdv A fr s H E) (WF E) k → PSsV G (XF P w K mg base N qual st f cdv A fr s H E) (WF E) (defBody st) ms
def spT (G : Sg) (N : List Str) (ms : MS) : Sp := fun vs H Q E => tsV G (WF E) ms { nx := fun _ H' => Q .non H', rt := Q } (start N vs) H
theorem ctxF (cK : G.K = K) (SC : FnScope N ps (defScope st)) {cdv : Value} {A : Around} {fr : List Env} {s : Shared} {H : Hp} {E : XK} (hr : Rm G.gd (k + 1) (A.deeper (envOfC qual (defScope st) s.heap.objs.size f cdv))) :
    Ctx G (XF P w K mg base N qual st f cdv A fr s H E) (WF E) k := ⟨cK, rfl, hr, SC.nd, fun σ => L2N.passAt (L2N.takes_of rfl rfl rfl rfl) σ, L2.passes_of rfl⟩
theorem fns_rule (F : Fun K x qual st f fd) (SC : FnScope N ps (defScope st)) (hb : Binds K fd ps []) (cK : G.K = K) (B : Body P w K mg base G k f N qual st ms) :
    FnS P w K mg base G.gd (k + 2) f (fun vs H Q E => vs.length = ps.length ∧ spT G N ms vs H Q E) := by
  obtain ⟨oc, od, kV, doc, pm, an, cdv, ct, osl, rfl, lk, hcd⟩ := F.ex
  have g := gn_of (sp := fun vs H Q E => vs.length = ps.length ∧ spT G N ms vs H Q E) (P := P) (w := w) (mg := mg) (base := base) (k := k + 1) lk hcd SC (fun _ _ _ _ z => z.1) (fun A fr s H vs Q E hr hsp => ⟨_, B cdv A fr s H E (ctxF cK SC hr), hsp.2⟩)
  intro A fr s H us vs Q E hr e0 r h
  have inK : K.In s.heap := e0.mod.kin.keeps fun b o e => (e0.bs b o e).1
  have b2 := hb s us inK (by rw [List.append_nil, ← r.length]; exact h.1)
  rw [List.append_nil] at b2
  exact g.run A fr s H ⟨us, []⟩ us vs Q E hr e0 b2 r h
theorem slots_val {n i : Nat} {ds : List D} {d : D} (h : (slots n (ds.map .val))[i]? = some (.val d)) : ds[i]? = some d := by
  unfold slots at h
  by_cases l : i < (ds.map SV.val).length
  · rw [List.getElem?_append_left l, List.getElem?_map] at h
    cases e : ds[i]? with
    | none => rw [e] at h; cases h
    | some y => rw [e] at h; cases h; rfl
  · rw [List.getElem?_append_right (Nat.le_of_not_lt l), List.getElem?_replicate] at h
    split at h <;> cases h
theorem slots_own {n i : Nat} {ds : List D} {o : Ob} (h : (slots n (ds.map .val))[i]? = some (.own o)) : False := by
  unfold slots at h
  by_cases l : i < (ds.map SV.val).length
  · rw [List.getElem?_append_left l, List.getElem?_map] at h
    cases e : ds[i]? with
    | none => rw [e] at h; cases h
    | some y => rw [e] at h; cases h
  · rw [List.getElem?_append_right (Nat.le_of_not_lt l), List.getElem?_replicate] at h
    split at h <;> cases h
theorem start_get {vs : List V} {i : Nat} {v : V} (h : vs[i]? = some v) : (start N vs)[i]? = some (some v) := by
  unfold L2.start
  have l : i < vs.length := (List.getElem?_eq_some_iff.mp h).1
  rw [List.getElem?_append_left (by simpa using l), List.getElem?_map, h]
  rfl
theorem start_len {vs : List V} (h : vs.length ≤ N.length) : (start N vs).length = N.length := by
  unfold L2.start
  rw [List.length_append, List.length_map, List.length_replicate]
  omega
theorem slots_len {n : Nat} {sv : List SV} (h : sv.length ≤ n) : (slots n sv).length = n := by
  unfold slots
  rw [List.length_append, List.length_replicate]
  omega
theorem R.enter {wd : Wd} {ds : List D} {vs : List V} {S : List Ob} (s : RepS G wd S) (r : RepVs G wd ds vs) (h : ds.length ≤ N.length) : R G wd wd (slots N.length (ds.map .val)) S (start N vs) := by
  refine ⟨Ext.refl wd, s, ?_, fun i d e => ?_, fun i o e => (slots_own e).elim, fun i j o o' a e => (slots_own e).elim, fun a o _ e => (slots_own e).elim⟩
  · rw [start_len (by rw [← r.length]; exact h), slots_len (by simpa using h)]
  · obtain ⟨v, h1, h2⟩ := r.get (slots_val e)
    exact ⟨v, start_get h1, h2⟩
theorem fin_body {wd : Wd} {ds : List D} {vs : List V} {S : List Ob} {H : Hp} {Q : VK} {E : XK} (eH : wd.H = H) (s : RepS G wd S) (r : RepVs G wd ds vs) (h : ds.length ≤ N.length) (q : FinG G (RepV G) E wd Q (finR (ms (slots N.length (ds.map .val)) S))) : spT G N ms vs H Q E := by
  refine ⟨wd, wd, _, S, eH, R.enter s r h, ?_⟩
  rcases hm : ms (slots N.length (ds.map .val)) S with _ | ⟨_ | _ | _ | _ | _, S1⟩
  · rw [hm] at q; exact q
  · rw [hm] at q
    exact fun w' σ' _ r' => q w' .non r'.ex r'.st rfl
  · rw [hm] at q
    exact fun w' v e s' rv => q w' v e s' rv
  · rw [hm] at q; exact q.elim
  · rw [hm] at q; exact q.elim
  · rw [hm] at q
    exact fun w' σ' cls y _ r' rx => q w' cls y r'.ex r'.st rx
theorem fna_rule (F : Fun K x qual st f fd) (SC : FnScope N ps (defScope st)) (hb : Binds K fd ps []) (cK : G.K = K) (B : Body P w K mg base G k f N qual st ms) {m n : Nat} (em : ps.length = m) (en : N.length = n) (hmn : m ≤ n) :
    FnA P w K mg base G (k + 2) f (runFn m n ms) := by
  have z := fns_rule (P := P) (w := w) (mg := mg) (base := base) F SC hb cK B
  refine ⟨fun A fr s H us vs Q E hr e0 r ⟨wd, ds, S, eH, rs, rv, q⟩ => z A fr s H us vs Q E hr e0 r ?_, F.kp⟩
  unfold runFn at q
  split at q
  · next e =>
    subst em en
    exact ⟨by rw [← rv.length]; exact e, fin_body eH rs rv (by omega) q⟩
  · exact q.elim
theorem cxUpN {P : Program} {w : World} : StX.CXUp (L2N.CX P w) := by
  intro outer s H s2 H2 E e s' un kp ho c
  obtain ⟨a, B, Ho, cls, d, ea, fl, hok, ub, na, os, ag, he⟩ := c
  have gone : ∀ b o, s.heap.get? b = some o → H b = none → H2 b = none := fun b o q n => un.free b o q n (by simp)
  refine ⟨a, B, Ho, cls, d, ea, fl, hok, ?_, na, os.trans ho, ag, he⟩
  constructor
  · intro b o q n hb
    exact ub.keep b o (kp b o q) (gone b o q n) hb
  · intro b o q hb
    exact ub.slot b o (kp b o q) hb
  · intro b o q n
    exact ub.free b o (kp b o q) (gone b o q n)
  · intro b o q hb
    exact ub.there b o (kp b o q) hb
  · intro b xs q
    exact ub.tups b xs (un.tups b xs q)
  · intro b o xs q
    exact ub.frzs b o xs (un.frzs b o xs q)
  · intro b ps q
    obtain ⟨x1, y1⟩ := un.tbls b ps q
    obtain ⟨x2, y2⟩ := ub.tbls b _ y1
    exact ⟨x1 ++ x2, by rw [y2, Array.append_assoc]⟩
theorem fns_starred {pv : Str} (F : Fun K x qual st f fd) (SC : FnScope N (ps ++ [pv]) (defScope st)) (cK : G.K = K) (B : Body P w K mg base G k f N qual st ms)
    (hb : ∀ (kV doc pm : Value) (an : Option Addr) (cdv ct : Value) (us rest : List Value), us.length = ps.length → bindArgs (PySem.W.fnOf x qual (defArgs st) (defBody st) (defScope st) .none kV doc pm an cdv ct) ⟨us ++ rest, []⟩ = (newTuple rest >>= fun t => pure (ps.zip us ++ [(pv, t)]))) :
    FnS P w K mg base G.gd (k + 2) f (fun vs H Q E => ∃ ws more, vs = ws ++ more ∧ ws.length = ps.length ∧ more.length ≤ sizeLine ∧ ∀ p, H p = none → spT G N ms (ws ++ [V.ref p]) (upd H p (.tup more)) Q E) := by
  obtain ⟨oc, od, kV, doc, pm, an, cdv, ct, osl, rfl, lk, hcd⟩ := F.ex
  rintro A fr s H us vs Q E hr e0 r ⟨ws, more, rfl, lw, lm, q⟩
  obtain ⟨u1, u2, rfl, r1, r2⟩ := StX.vals_split r
  have free : H s.heap.objs.size = none := e0.hok.fresh (Nat.le_refl _)
  refine StX.run_bnd (CX := L2N.CX P w) (k := k + 1) lk hcd SC hr.room e0 (G := fun xs H2 => ∃ p, H p = none ∧ xs = ws ++ [V.ref p] ∧ H2 = upd H p (.tup more)) ?_ ?_
  · intro A' Ex Q' h
    have l1 : u1.length = ps.length := r1.length.symm.trans lw
    have l2 : u2.length ≤ sizeLine := r2.length ▸ lm
    rw [hb _ _ _ _ _ _ u1 u2 l1]
    refine wpAny_bind (wpAny_newTuple (wpAny_pure ?_) l2)
    have made : ObjOk P w (upd H s.heap.objs.size (.tup more)) (s.heap.push { cls := .type "tuple", data := .seq u2.toArray }) s.heap.objs.size (.tup more) := ⟨lm, u2, r2, _, Heap.get?_push_size _ rfl, rfl, _, rfl⟩
    have keep := StX.un_laid (fs := frs fr) (o := ({ cls := .type "tuple", data := .seq u2.toArray } : Obj)) (u := .tup more) free
    have got := h _ _ (ws ++ [V.ref s.heap.objs.size]) (u1 ++ [Value.ref s.heap.objs.size]) (StX.env0_laid e0 made) keep rfl (fun e s' => cxUpN fr s H _ _ E e s' keep (fun b o y => Heap.get?_push_of_some _ y) rfl)
      (r1.append (.cons rfl .nil)) (by simp [lw]) ⟨_, free, rfl, rfl⟩
    rwa [List.zip_append l1.symm] at got
  · rintro s2 H2 xs ⟨p, hp, rfl, rfl⟩ hr2
    exact ⟨_, B cdv A fr s2 _ E (ctxF cK SC ⟨hr2, hr.gd⟩), q p hp⟩
theorem rep_tail {wd : Wd} : ∀ (m : Nat) {ds : List D} {vs : List V}, RepVs G wd ds vs → m ≤ ds.length → ∃ a b, vs = a ++ b ∧ a.length = m ∧ RepVs G wd (ds.take m) a ∧ RepVs G wd (ds.drop m) b := fun m ds vs r h =>
  ⟨vs.take m, vs.drop m, (List.take_append_drop m vs).symm, by rw [List.length_take, ← r.length]; omega, r.take m, r.drop m⟩
end
end Ev
set_option maxRecDepth 100000
set_option maxHeartbeats 2000000
namespace Ev
open PySem PySem.Spec PyProof.Rows L2
def spN (G : Sg) (c : Nat) (sem : List D → M D) : Sp := fun vs' H' Q' E => ∃ (x dx : Addr) (vs : List V) (H : Hp) (Q : VK), vs' = V.ref x :: vs ∧ H' = upd (upd H dx (.own x)) x (.ins (G.ca c) dx []) ∧ H x = none ∧ H dx = none ∧ dx ≠ x ∧
  (Q' = fun v H2 => v = V.non ∧ Q (.ref x) H2) ∧ spV G sem vs H Q E
structure ClA (P : Program) (w : World) (K : PySem.W.Frag) (mg : Str → Option Value) (base : Heap) (G : Sg) (k c : Nat) (sem : List D → M D) : Prop where
  ex : ∃ f, Mk K (G.ca c) f ∧ FnS P w K mg base G.gd k f (spN G c sem)
theorem ClA.mono {P : Program} {w : World} {K : PySem.W.Frag} {mg : Str → Option Value} {base : Heap} {G : Sg} {j k c : Nat} {sem : List D → M D} (F : ClA P w K mg base G j c sem) (h : j ≤ k) : ClA P w K mg base G k c sem :=
  ⟨let ⟨f, M, g⟩ := F.ex; ⟨f, M, fun A fr s H us vs Q E hr => g A fr s H us vs Q E (hr.mono h)⟩⟩
section
variable {P : Program} {w : World} {K : PySem.W.Frag} {mg : Str → Option Value} {base : Heap} {G : Sg} {k c : Nat} {f : Addr} {x qual : Str} {st : Stmt} {fd : FuncData} {N ps : List Str} {ms : MS}
theorem R.enterI {wd w1 : Wd} {ds : List D} {vs : List V} {S : List Ob} {a dx : Addr} (e : Ext wd w1) (s : RepS G w1 S) (r : RepVs G w1 ds vs) (h : ds.length + 1 ≤ N.length) (ha : w1.H a = some (.ins (G.ca c) dx [])) (nF : ¬ w1.F a) (nm : a ∉ w1.m) (n0 : wd.H a = none) :
    R G { wd with x := some a } w1 (slots N.length (.own (.ins c []) :: ds.map .val)) S (L2.start N (V.ref a :: vs)) := by
  have hd : ∀ {i : Nat} {y : SV}, (slots N.length (SV.own (.ins c []) :: ds.map .val))[i]? = some y → (i = 0 ∧ y = .own (.ins c [])) ∨ (∃ j, i = j + 1 ∧ (slots (N.length - 1) (ds.map SV.val))[j]? = some y) := fun {i y} z => by
    cases i with
    | zero =>
      refine .inl ⟨rfl, ?_⟩
      unfold slots at z
      simp at z
      exact z.symm
    | succ j =>
      refine .inr ⟨j, rfl, ?_⟩
      unfold slots at z ⊢
      have e1 : N.length - (SV.own (Ob.ins c []) :: ds.map SV.val).length = N.length - 1 - (ds.map SV.val).length := by
        rw [List.length_cons]
        omega
      rw [e1, List.cons_append, List.getElem?_cons_succ] at z
      exact z
  have s0 : (L2.start N (V.ref a :: vs))[0]? = some (some (V.ref a)) := start_get rfl
  refine ⟨⟨e.m, e.F, e.H, e.nm, e.nF, e.al⟩, s, ?_, fun i d z => ?_, fun i o z => ?_, fun i j o o' b z1 z2 _ _ => ?_, fun b o eb z => ?_⟩
  · have l : vs.length = ds.length := r.length.symm
    rw [start_len (by rw [List.length_cons, l]; exact h), slots_len (by rw [List.length_cons, List.length_map]; exact h)]
  · rcases hd z with ⟨_, e2⟩ | ⟨j, rfl, z2⟩
    · cases e2
    · obtain ⟨v, h1, h2⟩ := r.get (slots_val z2)
      exact ⟨v, start_get (by rw [List.getElem?_cons_succ]; exact h1), h2⟩
  · rcases hd z with ⟨rfl, e2⟩ | ⟨j, rfl, z2⟩
    · cases e2
      exact ⟨a, s0, ⟨dx, [], by rw [List.zip_nil_right]; exact ha, Nat.zero_le _, rfl⟩, nF, nm, n0⟩
    · exact (slots_own z2).elim
  · rcases hd z1 with ⟨e1, _⟩ | ⟨j1, _, z1⟩
    · rcases hd z2 with ⟨e2, _⟩ | ⟨j2, _, z2⟩
      · rw [e1, e2]
      · exact (slots_own z2).elim
    · exact (slots_own z1).elim
  · cases eb
    exact s0
theorem fin_mk {wd w1 : Wd} {ds : List D} {vs : List V} {S : List Ob} {a dx : Addr} {Q : VK} {E : XK} (e : Ext wd w1) (s : RepS G w1 S) (r : RepVs G w1 ds vs) (h : ds.length + 1 ≤ N.length) (ha : w1.H a = some (.ins (G.ca c) dx [])) (nF : ¬ w1.F a) (nm : a ∉ w1.m) (n0 : wd.H a = none)
    (q : FinG G (RepV G) E wd Q (mkR c (ms (slots N.length (.own (.ins c []) :: ds.map .val)) S))) : spT G N ms (V.ref a :: vs) w1.H (fun v H2 => v = .non ∧ Q (.ref a) H2) E := by
  refine ⟨{ wd with x := some a }, w1, _, S, rfl, R.enterI e s r h ha nF nm n0, ?_⟩
  rcases hm : ms (slots N.length (.own (.ins c []) :: ds.map .val)) S with _ | ⟨sd | _ | _ | _ | _, S1⟩
  · rw [hm] at q; exact q
  · rw [hm] at q
    intro w' σ' _ r'
    have ex : Ext wd w' := ⟨r'.ex.m, r'.ex.F, r'.ex.H, r'.ex.nm, r'.ex.nF, r'.ex.al⟩
    unfold mkR at q
    simp only at q
    rcases hs : sd[0]? with _ | _ | _ | ⟨_ | _ | ⟨c', es⟩ | jt⟩
    · rw [hs] at q; exact q.elim
    · rw [hs] at q; exact q.elim
    · rw [hs] at q; exact q.elim
    · rw [hs] at q; exact q.elim
    · rw [hs] at q; exact q.elim
    · rw [hs] at q
      simp only at q
      split at q
      · next ec =>
        subst ec
        obtain ⟨b, hb, ho, bF, bm, b0⟩ := r'.ow 0 _ hs
        have hb2 := r'.sf a _ rfl hs
        rw [hb] at hb2
        cases hb2
        obtain ⟨dx', vs', h1, h2, h3⟩ := id ho
        refine ⟨rfl, q (w'.fz a) (.ref a) (Ext.fz ex n0) (r'.st.fz bm ho.there) ⟨a, dx', vs', rfl, .inr rfl, h1, h2, RepVs.stay Stay.fz _ _ h3⟩⟩
      · exact q.elim
    · rw [hs] at q; exact q.elim
  · rw [hm] at q; exact q.elim
  · rw [hm] at q; exact q.elim
  · rw [hm] at q; exact q.elim
  · rw [hm] at q
    exact fun w' σ' cls y _ r' rx => q w' cls y ⟨r'.ex.m, r'.ex.F, r'.ex.H, r'.ex.nm, r'.ex.nF, r'.ex.al⟩ r'.st rx
theorem made {wd : Wd} {S : List Ob} {a dx C : Addr} (s : RepS G wd S) (ha : wd.H a = none) (hdx : wd.H dx = none) (ne : dx ≠ a) :
    ∃ w1 : Wd, w1.H = upd (upd wd.H dx (.own a)) a (.ins C dx []) ∧ Ext wd w1 ∧ RepS G w1 S ∧ ¬ w1.F a ∧ a ∉ w1.m := by
  have ha2 : (wd.new dx (.own a)).H a = none := by
    show upd wd.H dx _ a = none
    rw [upd_ne (fun e => ne e.symm)]
    exact ha
  exact ⟨(wd.new dx (.own a)).new a (.ins C dx []), rfl, (Ext.new hdx).trans (Ext.new ha2), (s.new hdx).new ha2, fun z => s.fh a z ha, fun z => s.there z ha⟩
theorem cla_rule (F : Fun K x qual st f fd) (SC : FnScope N ps (defScope st)) (hb : Binds K fd ps []) (cK : G.K = K) (B : Body P w K mg base G k f N qual st ms) (M : Mk K (G.ca c) f) {m n : Nat} (em : ps.length = m) (en : N.length = n) (hmn : m ≤ n) :
    ClA P w K mg base G (k + 2) c (mkFn c m n ms) := by
  have z := fns_rule (P := P) (w := w) (mg := mg) (base := base) F SC hb cK B
  refine ⟨f, M, fun A fr s H us vs Q E hr e0 r h => z A fr s H us vs Q E hr e0 r ?_⟩
  obtain ⟨a, dx, vs, H, Q, rfl, rfl, ha, hdx, ne, rfl, wd, ds, S, eH, rs, rv, q⟩ := h
  subst em en eH
  obtain ⟨w1, e1, ex, s1, nF, nm⟩ := made (C := G.ca c) rs ha hdx ne
  unfold mkFn at q
  split at q
  · next e =>
    refine ⟨by rw [List.length_cons, ← rv.length]; exact e, ?_⟩
    rw [← e1]
    exact fin_mk ex s1 (RepVs.mono ex rs.dj _ _ rv) (by omega) (by rw [e1, upd_same]) nF nm ha q
  · exact q.elim
theorem cla_star {pv : Str} (F : Fun K x qual st f fd) (SC : FnScope N (ps ++ [pv]) (defScope st)) (cK : G.K = K) (B : Body P w K mg base G k f N qual st ms)
    (hb : ∀ (kV doc pm : Value) (an : Option Addr) (cdv ct : Value) (us rest : List Value), us.length = ps.length → bindArgs (PySem.W.fnOf x qual (defArgs st) (defBody st) (defScope st) .none kV doc pm an cdv ct) ⟨us ++ rest, []⟩ = (newTuple rest >>= fun t => pure (ps.zip us ++ [(pv, t)])))
    (M : Mk K (G.ca c) f) {m n : Nat} (em : ps.length = m) (en : N.length = n) (hmn : m + 1 ≤ n) (hm1 : 1 ≤ m) : ClA P w K mg base G (k + 2) c (mkStar c m n ms) := by
  have z := fns_starred (P := P) (w := w) (mg := mg) (base := base) F SC cK B hb
  refine ⟨f, M, fun A fr s H us vs Q E hr e0 r h => z A fr s H us vs Q E hr e0 r ?_⟩
  obtain ⟨a, dx, vs, H, Q, rfl, rfl, ha, hdx, ne, rfl, wd, ds, S, eH, rs, rv, q⟩ := h
  subst eH
  unfold mkStar at q
  obtain ⟨hl, q⟩ := FinG.ite q
  obtain ⟨v1, v2, e, l1, r1, r2⟩ := rep_tail (m - 1) rv (by omega)
  subst e
  have l2 : v2.length < lim := by
    rw [← r2.length, List.length_drop]
    omega
  obtain ⟨w1, e1, ex, s1, nF, nm⟩ := made (C := G.ca c) rs ha hdx ne
  refine ⟨V.ref a :: v1, v2, rfl, by rw [List.length_cons, em, l1]; omega, by rw [lim_eq] at l2; exact Nat.le_of_lt l2, fun p hp => ?_⟩
  subst en
  rw [← e1] at hp ⊢
  have ez : Ext w1 (w1.frz p (.tup v2)) := Ext.frz hp
  have st2 := (ex.trans ez).stay rs.dj
  have nap : a ≠ p := fun z => by
    rw [← z, e1, upd_same] at hp
    cases hp
  have ll : (ds.take (m - 1) ++ [D.tup (ds.drop (m - 1))]).length + 1 = m + 1 := by simp; omega
  unfold mkFn at q
  rw [if_pos ll] at q
  have rr : RepVs G (w1.frz p (.tup v2)) (ds.take (m - 1) ++ [D.tup (ds.drop (m - 1))]) (v1 ++ [V.ref p]) := RepVs.append (RepVs.stay st2 _ _ r1) (RepVs.one ⟨p, v2, rfl, .inl ⟨.inr rfl, .inl upd_same⟩, RepVs.stay st2 _ _ r2⟩)
  refine fin_mk (ex.trans ez) (s1.frz hp) rr (by rw [ll]; exact hmn) (a := a) (dx := dx) ?_ (fun z => z.elim nF nap) nm ha q
  show upd w1.H p _ a = _
  rw [upd_ne nap, e1, upd_same]
end
section
variable {G : Sg} {X : Cx} {W : WX} {k n c : Nat} {f C : Addr} {sem : List D → M D} {sp : Sp} {x : Str} {p pos apos : Pos} {e o : Expr} {es : List Expr} {fa : List SV → M (List D)} {σ : L2.St}
theorem run_mk {pins : List (Addr × Obj)} {H : Hp} {s : Shared} {Q : VK} {us : List Value} {vs : List V} (cx : Ctx G X W k) (M : Mk X.K C f) (F : FnS X.prog X.w X.K X.mg X.base G.gd k f sp) (I : Inv X pins σ H s) (r : Vals vs us)
    (h : ∀ a dx, H a = none → H dx = none → dx ≠ a → sp (V.ref a :: vs) (upd (upd H dx (.own a)) a (.ins C dx [])) (fun v H2 => v = .non ∧ Q (.ref a) H2) (WE W σ)) :
    wpAny (model X.prog X.w) X.A (call (.ref C) us) (EP X pins σ Q) X.xe s := by
  have want := h _ _ (I.hok.fresh (Nat.le_succ _)) (I.hok.fresh (Nat.le_refl _)) (Nat.ne_of_lt (Nat.lt_succ_self s.heap.objs.size))
  have J := Inv.made (C := C) I
  have body := F _ X.stack _ _ (Value.ref (s.heap.objs.size + 1) :: us) (V.ref (s.heap.objs.size + 1) :: vs) _ _ (cx.rm.make C us []) (J.env0.make C us []) (.cons rfl r) want
  refine wpAny_call (make_map (f := f) I.kIn M.makes M.init (beq_iff_eq.mp M.fn) (codeAny_mono body ?_))
  rintro (er | fl) s' got
  · exact cx.px σ pins _ _ er s' J got
  · cases fl with
    | ret u =>
      obtain ⟨v, H', J2, rv, rfl, q3⟩ := J.after got
      exact ⟨rv, V.ref (s.heap.objs.size + 1), H', J2, rfl, q3⟩
    | next => exact got.elim
    | brk => exact got.elim
    | cont => exact got.elim
structure CallA (G : Sg) (X : Cx) (W : WX) (a : Addr) (sem : List D → M D) : Prop where
  kp : PySem.W.keepIn X.K (.ref a) = true
  run : ∀ (pins : List (Addr × Obj)) (σ : L2.St) (H : Hp) (s : Shared) (Q : VK) (us : List Value) (vs : List V), Inv X pins σ H s → Vals vs us → spV G sem vs H Q (WE W σ) → wpAny (model X.prog X.w) X.A (call (.ref a) us) (EP X pins σ Q) X.xe s
theorem FnA.call (c : Ctx G X W k) (F : FnX X G k f sem) : CallA G X W f sem := ⟨F.kp, fun _ _ _ _ _ _ _ I r h => run_fa c F I r h⟩
theorem ClA.call {c : Nat} (cx : Ctx G X W k) (F : ClA X.prog X.w X.K X.mg X.base G k c sem) : CallA G X W (G.ca c) sem := by
  obtain ⟨f, M, g⟩ := F.ex
  exact ⟨M.kp, fun pins σ H s Q us vs I r h => run_mk cx M g I r fun a dx ha hdx ne => ⟨a, dx, vs, H, Q, rfl, rfl, ha, hdx, ne, rfl, h⟩⟩
theorem v_calls (F : CallA G X W f sem) (hg : Gl X x) (hm : X.mg x = some (.ref f)) (ha : PLn G X W n (e :: es) fa) (hs : (e :: es).all notStar = true) (hd : (x == ("__debug__" : Str)) = false) :
    PV G X W (.Call (.Name x p) (e :: es) [] pos) (fun sd => M.bind (fa sd) sem) := by
  have hs2 : notStar e = true ∧ es.all notStar = true := by simpa using hs
  constructor
  intro pins s σ H Q I ⟨w0, w, sd, S, eH, r, q⟩
  refine wpAny_Call_Name_kw (ld_glob I hg hm ?_ hd)
  refine PySem.W.callWith_K (h₀ := X.base) I.ok.mod.kin F.kp (thn (ha.run pos pins s σ H (fun vs H1 => spV G sem vs H1 Q (WE W σ)) I ?_) ?_) (starEach_cons hs2.1) (starEach_all hs2.2 pos)
  · exact ⟨w0, w, sd, S, eH, r, fin_step q fun w1 S1 ds vs e1 s1 rv q1 => ⟨w1, ds, S1, rfl, s1, rv.1, q1⟩⟩
  · rintro us s1 ⟨vs, H1, I1, rv, q1⟩
    exact ⟨I1.kIn, F.run _ _ _ _ _ _ _ I1 rv q1⟩
theorem v_calls0 (F : CallA G X W f sem) (hg : Gl X x) (hm : X.mg x = some (.ref f)) (hd : (x == ("__debug__" : Str)) = false) : PV G X W (.Call (.Name x p) [] [] pos) (fun _ => sem []) := by
  constructor
  intro pins s σ H Q I ⟨w0, w, sd, S, eH, r, q⟩
  refine wpAny_Call_Name_kw (ld_glob I hg hm ?_ hd)
  exact PySem.W.callWith_K0 I.kIn F.kp (F.run pins σ H s Q [] [] I .nil ⟨w, [], S, eH, r.st, rfl, q⟩)
end
end Ev
set_option maxRecDepth 100000
set_option maxHeartbeats 2000000
namespace Ev
open PySem PySem.Spec PyProof.Rows L2
section
variable {G : Sg} {X : Cx} {W : WX} {k n : Nat} {f C : Addr} {sem : List D → M D} {x m : Str} {p pos apos : Pos} {e o fe : Expr} {es : List Expr} {fa : List SV → M (List D)} {ff : List SV → M D} {σ : L2.St}
def fldT (i : Nat) (tbl : Nat → Option Nat) : Tgt := fun d sd S => match sd[i]? with
  | some (.own (.ins c ds)) => match tbl c with
    | some j => match putL ds j d with
      | some es => some (sd.set i (.own (.ins c es)), S)
      | none => none
    | none => none
  | _ => none
def tgFld (K : PySem.W.Frag) (to : TE) (f : Str) : TG := fun v σ H Q => to σ H fun y H1 => ∃ a C dx fs, y = V.ref a ∧ H1 a = some (.ins C dx fs) ∧ Cls K C ∧ NoAttr K C f ∧ fs.length < 1000 ∧ Q σ (upd H1 a (.ins C dx (putF f v fs)))
theorem pg_attr {to : TE} (ho : PE X o to) : PG X (.Attribute o m pos) (tgFld X.K to m) := by
  refine ⟨fun pins s σ H v u Q I r h => ?_⟩
  have tree : assign (.Attribute o m pos) X.env u = (do
    let ov ← holding [u] (eval o X.env)
    standAt pos.atName
    holding [u, ov] (setAttr ov m u)
    release [u, ov] []) := by rfl
  rw [tree]
  refine wpAny_bind (wpAny_holding (thn (ho.run pins s σ H _ I h) fun ov s1 got => ?_))
  obtain ⟨y, H1, I1, ry, a, C, dx, fs, ey, ha, cl, na, hl, q⟩ := got
  subst ey
  obtain rfl : ov = Value.ref a := ry
  refine wpAny_bind (wpAny_standAt (wpAny_bind (wpAny_holding (setattr_ok I1 ha cl na hl r fun s2 I2 => ?_))))
  exact wpAny_release ⟨σ, _, I2, q⟩
theorem g_fld {i : Nat} {tbl : Nat → Option Nat} (T : FldT X G m tbl) (hN : X.N[i]? = some x) (hv : Vis X.env.scope x) (hd : (x == ("__debug__" : Str)) = false) (hcd : (x == ("__classdict__" : Str)) = false) : PGV G X [] (.Attribute (.Name x p) m pos) (fldT i tbl) := by
  refine PG.imp (pg_attr (pe_var (X := X) (pos := p) hN hv hd hcd)) fun v σ H Q q => ?_
  obtain ⟨w0, w, sd, S, d, e, r, rv, q⟩ := q
  subst e
  unfold fldT at q
  rcases hi : sd[i]? with _ | _ | d0 | ⟨ds | ⟨ks, ds⟩ | ⟨cc, ds⟩ | jt⟩
  · simp only [hi] at q; exact q.elim
  · simp only [hi] at q; exact q.elim
  · simp only [hi] at q; exact q.elim
  · simp only [hi] at q; exact q.elim
  · simp only [hi] at q; exact q.elim
  · simp only [hi] at q
    rcases ht : tbl cc with _ | j
    · simp only [ht] at q; exact q.elim
    · simp only [ht] at q
      obtain ⟨cl, na, nd, hj, hl⟩ := T.at_ cc j ht
      obtain ⟨a, ha, ⟨dx, vs, h1, h2, h3⟩, nF, nm, n0⟩ := r.ow i _ hi
      have hlen : ((G.fn cc).zip vs).length < 1000 := by
        rw [List.length_zip]; omega
      refine ⟨.ref a, ha, a, _, dx, _, rfl, h1, cl, na, hlen, ?_⟩
      have st := Stay.wr (w := w) (p := a) (o := .ins (G.ca cc) dx ((G.fn cc).zip (vs.set j v))) nF
      unfold putL at q
      by_cases c1 : j < ds.length
      · simp only [if_pos c1] at q
        rw [putF_zip nd hj (by rw [← h3.length]; exact c1)]
        have hn : RepO G (w.wr a (.ins (G.ca cc) dx ((G.fn cc).zip (vs.set j v)))) a (.ins cc (ds.set j d)) := ⟨dx, _, upd_same, by rw [List.length_set]; exact h2, RepVs.set j (RepVs.stay (Stay.wr nF) _ _ h3) (RepV.stay (Stay.wr nF) _ _ rv)⟩
        exact q _ σ (Stay.wr nF) (r.wr hi ha hn) fun _ _ => rfl
      · simp only [if_neg c1] at q
        by_cases c2 : j = ds.length
        · simp only [if_pos c2] at q
          subst c2
          rw [h3.length] at hj
          rw [putF_new nd hj]
          have hn : RepO G (w.wr a (.ins (G.ca cc) dx ((G.fn cc).zip (vs ++ [v])))) a (.ins cc (ds ++ [d])) := ⟨dx, _, upd_same, by
            rw [List.length_append]
            exact (List.getElem?_eq_some_iff.mp hj).1, RepVs.append (RepVs.stay (Stay.wr nF) _ _ h3) (RepVs.one (RepV.stay (Stay.wr nF) _ _ rv))⟩
          exact q _ σ (Stay.wr nF) (r.wr hi ha hn) fun _ _ => rfl
        · simp only [if_neg c2] at q; exact q.elim
  · simp only [hi] at q; exact q.elim
def isObj : D → Bool
  | .ins _ _ => true
  | .ref _ => true
  | _ => false
structure StatT (X : Cx) (C : Addr) (m : Str) (f : Addr) : Prop where
  ex : ∃ (mc : Value) (p : Addr) (rest : List Value), ClX.CRead X.K C mc ∧ PySem.W.findCls X.K (.ref C) mc m = some (.get (.builtin "staticmethod.__get__") (.ref p) .none (.ref C)) ∧ PySem.W.recIn X.K p "staticmethod" = some (.ref f :: rest)
theorem v_stat {y : Str} (T : StatT X C m f) (F : CallA G X W f sem) (hg : Gl X y) (hm : X.mg y = some (.ref C)) (ha : PLn G X W n (e :: es) fa) (hs : (e :: es).all notStar = true) (hd : (y == ("__debug__" : Str)) = false) (hl : (e :: es).length < 30) (hp : (apos.endLine == pos.line) = true) :
    PV G X W (.Call (.Attribute (.Name y p) m apos) (e :: es) [] pos) (fun sd => M.bind (fa sd) sem) := by
  have hs2 : notStar e = true ∧ es.all notStar = true := by simpa using hs
  obtain ⟨mc, q, rest, rd, hat, hrec⟩ := T.ex
  constructor
  intro pins s σ H Q I ⟨w0, w, sd, S, eH, r, qq⟩
  refine PySem.W.methodCall_KW (ld_glob I hg hm ?_ hd) (meth_tree (by rfl) hs hl hp)
  refine PySem.W.method_cls I.kIn rd.ga (PySem.W.cls_bind I.kIn rd.rd hat (wpAny_call (PySem.W.sm_get (s := { s with toks := s.toks + 1 }) I.kIn hrec (PySem.W.handed_on rfl ?_))))
  have I1 := I.tok (s.toks + 1)
  refine PySem.W.callWith_K (h₀ := X.base) I.ok.mod.kin F.kp (thn (ha.run pos pins _ σ H (fun vs H1 => spV G sem vs H1 Q (WE W σ)) I1 ?_) ?_) (starEach_cons hs2.1) (starEach_all hs2.2 pos)
  · exact ⟨w0, w, sd, S, eH, r, fin_step qq fun w1 S1 ds vs e1 s1 rv q1 => ⟨w1, ds, S1, rfl, s1, rv.1, q1⟩⟩
  · rintro us s1 ⟨vs, H1, I2, rv, q1⟩
    exact ⟨I2.kIn, F.run _ _ _ _ _ _ _ I2 rv q1⟩
end
end Ev
set_option maxRecDepth 100000
set_option maxHeartbeats 2000000
namespace Ev
open PySem PySem.Spec PyProof.Rows L2
def stepLo (n : Nat) (c : Int) : Int := if c < 0 then (n : Int) - 1 else 0
def stepNo (n : Nat) (c : Int) : Nat := Builtin.Slice.slicePlaces (stepLo n c) (if c < 0 then -1 else (n : Int)) c
def stepL {α : Type} (c : Int) (xs : List α) : List α := (List.range (stepNo xs.length c)).filterMap fun (m : Nat) => xs[(stepLo xs.length c + (m : Int) * c).toNat]?
section
variable {G : Sg} {X : Cx} {W : WX} {k n : Nat} {pos : Pos} {e o fe : Expr} {es : List Expr} {σ : L2.St}
def dStep (c : Int) : D → M D
  | .tup ds => M.pure (.tup (stepL c ds))
  | _ => M.stuck
end
end Ev
set_option maxRecDepth 100000
set_option maxHeartbeats 2000000
namespace Ev
open PySem PySem.Spec PyProof.Rows L2
structure FnK (P : Program) (w : World) (K : PySem.W.Frag) (mg : Str → Option Value) (base : Heap) (G : Sg) (k : Nat) (f : Addr) (m : Nat) (ks : List Str) (sem : List D → M D) : Prop where
  run : ∀ (A : Around) (fr : List Env) (s : Shared) (H : Hp) (us ws : List Value) (vs zs : List V) (Q : VK) (E : XK),
    Rm G.gd k A → Env0 P w K mg base A fr s H → Vals vs us → Vals zs ws → vs.length = m → zs.length = ks.length → spV G sem (vs ++ zs) H Q E → codeAny (model P w) A (.call (.ref f) ⟨us, ks.zip ws⟩) (CR (L2N.CX P w) fr P w H s Q E) s
  kp : PySem.W.keepIn K (.ref f) = true
abbrev FnKX (X : Cx) (G : Sg) (k : Nat) (f : Addr) (m : Nat) (ks : List Str) (sem : List D → M D) : Prop := FnK X.prog X.w X.K X.mg X.base G k f m ks sem
theorem FnK.mono {P : Program} {w : World} {K : PySem.W.Frag} {mg : Str → Option Value} {base : Heap} {G : Sg} {j k m : Nat} {ks : List Str} {f : Addr} {sem : List D → M D} (F : FnK P w K mg base G j f m ks sem) (h : j ≤ k) : FnK P w K mg base G k f m ks sem :=
  ⟨fun A fr s H us ws vs zs Q E hr => F.run A fr s H us ws vs zs Q E (hr.mono h), F.kp⟩
section
variable {G : Sg} {X : Cx} {W : WX} {k n m j : Nat} {f C : Addr} {sem : List D → M D} {x y mm : Str} {p pos apos kpos : Pos} {e o fe : Expr} {es : List Expr} {kws : List Keyword} {ks : List Str} {fa fk : List SV → M (List D)} {ff g : List SV → M D} {σ : L2.St}
theorem PK.imp {e : List Keyword} {t t' : TA} (h : PK X e t) (i : ∀ σ H Q, t' σ H Q → t σ H Q) : PK X e t' := ⟨fun ps p s σ H Q I q => h.run ps p s σ H Q I (i σ H Q q)⟩
structure CallK (G : Sg) (X : Cx) (W : WX) (a : Addr) (m : Nat) (ks : List Str) (sem : List D → M D) : Prop where
  kp : PySem.W.keepIn X.K (.ref a) = true
  run : ∀ (pins : List (Addr × Obj)) (σ : L2.St) (H : Hp) (s : Shared) (Q : VK) (us ws : List Value) (vs zs : List V), Inv X pins σ H s → Vals vs us → Vals zs ws → vs.length = m → zs.length = ks.length → spV G sem (vs ++ zs) H Q (WE W σ) →
    wpAny (model X.prog X.w) X.A (call (.ref a) us (ks.zip ws)) (EP X pins σ Q) X.xe s
theorem after_call {pins : List (Addr × Obj)} {H : Hp} {s : Shared} {Q : VK} {a : Args} (c : Ctx G X W k) (I : Inv X pins σ H s) (h : codeAny (model X.prog X.w) X.A (.call (.ref f) a) (CR (L2N.CX X.prog X.w) X.stack X.prog X.w H s Q (WE W σ)) s) :
    wpAny (model X.prog X.w) X.A (call (.ref f) a.pos a.kw) (EP X pins σ Q) X.xe s := by
  refine wpAny_call (codeAny_mono h ?_)
  rintro (er | fl) s' hq
  · exact c.px σ pins H s er s' I hq
  · cases fl with
    | ret u => exact I.after hq
    | next => exact hq.elim
    | brk => exact hq.elim
    | cont => exact hq.elim
theorem FnK.call (c : Ctx G X W k) (F : FnKX X G k f m ks sem) : CallK G X W f m ks sem :=
  ⟨F.kp, fun pins σ H s Q us ws vs zs I r r2 l1 l2 h => after_call (a := ⟨us, ks.zip ws⟩) c I (F.run X.A X.stack s H us ws vs zs Q (WE W σ) c.rm0 I.env0 r r2 l1 l2 h)⟩
end
end Ev
set_option maxRecDepth 100000
set_option maxHeartbeats 2000000
namespace Ev
open PySem PySem.Spec PyProof.Rows L2
def GlobD (mg : Str → Option Value) (G : Sg) (x : Str) (d : D) : Prop := ∃ u v, mg x = some u ∧ RelV v u ∧ ∀ w : Wd, RepV G w d v
section
variable {G : Sg} {X : Cx} {W : WX} {k : Nat} {x : Str} {p : Pos} {d : D}
theorem v_glob (hg : Gl X x) (h : GlobD X.mg G x d) (hd : (x == ("__debug__" : Str)) = false) : PV G X W (.Name x p) (fun _ => M.pure d) := by
  obtain ⟨u, v, hm, r, rv⟩ := h
  exact v_lit (pe_glob hg hm r hd) fun w S _ => rv w
theorem v_ty {t : TyN} (hg : Gl X x) (hm : X.mg x = none) (hv : bootBuiltins x = some (.type t.name)) (hn : x ≠ "__name__") (hd : (x == ("__debug__" : Str)) = false) : PV G X W (.Name x p) (fun _ => M.pure (.ty t)) :=
  v_lit (v := .ty t.name) (pe_bltn hg hm hv rfl hn hd) fun w S _ => rfl
theorem v_int {i : Int} {j : Nat} : PV G X W (.Constant (.int i) j p) (fun _ => M.pure (.int i)) := v_lit pe_int fun _ _ _ => rfl
theorem v_str {s : Str} {j : Nat} : PV G X W (.Constant (.str s) j p) (fun _ => M.pure (.str s)) := v_lit pe_str fun _ _ _ => rfl
theorem v_bool {b : Bool} {j : Nat} : PV G X W (.Constant (.bool b) j p) (fun _ => M.pure (.bl b)) := v_lit pe_bl fun _ _ _ => rfl
theorem v_none {j : Nat} : PV G X W (.Constant .none j p) (fun _ => M.pure .non) := v_lit pe_non fun _ _ _ => rfl
theorem b_of {e : Expr} {f : List SV → M Bool} (h : PBW G X W e f) : PB G X W e f := PW.pt h
end
theorem glob_int {mg : Str → Option Value} {G : Sg} {x : Str} {i : Int} {t : Tok} (h : mg x = some (.int i t)) : GlobD mg G x (.int i) := ⟨_, .int i, h, ⟨t, rfl⟩, fun _ => rfl⟩
theorem glob_str {mg : Str → Option Value} {G : Sg} {x s : Str} {t : Tok} (h : mg x = some (.str s t)) : GlobD mg G x (.str s) := ⟨_, .str s, h, ⟨t, rfl⟩, fun _ => rfl⟩
theorem glob_cls {mg : Str → Option Value} {G : Sg} {x : Str} {c : Nat} (h : mg x = some (.ref (G.ca c))) : GlobD mg G x (.cls c) := ⟨_, .ref (G.ca c), h, rfl, fun _ => rfl⟩
theorem glob_tup {mg : Str → Option Value} {G : Sg} {x : Str} {a : Addr} {ds : List D} {vs : List V} (h : mg x = some (.ref a)) (hk : KTup G.K a vs) (hr : ∀ w : Wd, RepVs G w ds vs) : GlobD mg G x (.tup ds) := ⟨_, .ref a, h, rfl, fun w => ⟨a, vs, rfl, .inr hk, hr w⟩⟩
def tab {α : Type} : List (Nat × α) → Nat → Option α
  | [], _ => none
  | (c, x) :: l, n => if n = c then some x else tab l n
theorem tab_nil {α : Type} {P : Nat → α → Prop} : ∀ c g, tab ([] : List (Nat × α)) c = some g → P c g := fun _ _ h => nomatch h
theorem tab_cons {α : Type} {P : Nat → α → Prop} {c0 : Nat} {x : α} {l : List (Nat × α)} (h0 : P c0 x) (h : ∀ c g, tab l c = some g → P c g) : ∀ c g, tab ((c0, x) :: l) c = some g → P c g := fun c g e => by
  unfold tab at e
  split at e
  · next q => subst q; cases e; exact h0
  · exact h c g e
end Ev
namespace Ev
open PySem PySem.Spec PyProof.Rows L2
def AtOk (X : Cx) (G : Sg) (k : Nat) (m : Str) (c : Nat) : At → Prop
  | .fld i => Cls X.K (G.ca c) ∧ NoAttr X.K (G.ca c) m ∧ (G.fn c).Nodup ∧ (G.fn c)[i]? = some m
  | .prop g => ∃ p f, Cls X.K (G.ca c) ∧ PropOf X.K (G.ca c) m p f ∧ FnX X G k f g
theorem AttrT.of {X : Cx} {G : Sg} {k : Nat} {m : Str} {tbl : Nat → Option At} (h : ∀ c x, tbl c = some x → AtOk X G k m c x) : AttrT X G k m tbl := ⟨fun c i e => h c _ e, fun c g e => h c _ e⟩
end Ev
set_option maxRecDepth 100000
set_option maxHeartbeats 2000000
namespace Ev
open PySem PySem.Spec PyProof.Rows L2
theorem enum_new1 {v : Value} {o : Obj} {Hh : Heap → Prop} (B : Begins v o Hh) :
    Meets (Builtin.«enumerate.__new__» ⟨[.type "enumerate", v], []⟩) (fun _ R s => Hh s.heap ∧
      R (.ok (.ret (.ref (s.heap.push o).objs.size))) { s with heap := (s.heap.push o).push { cls := .type "enumerate", data := .fields #[.none, .bool false, .ref s.heap.objs.size, rawInt 0, .none, .none] } }) :=
  .of_wp fun prog w A R s h => by
    obtain ⟨hp, g, d, tk, os⟩ := s
    obtain ⟨h1, h⟩ := h
    have below := sub_enumerate
    have begin_ : ∀ {A' : Around} {E : Value → Shared → Prop} {Q : Value → Shared → Prop}, Q (.ref hp.objs.size) ⟨hp.push o, g, d, tk, os⟩ → wpAny (model prog w) A' (pyIter v) Q E ⟨hp, g, d, tk, os⟩ :=
      fun q => B.iter prog w _ _ ⟨hp, g, d, tk, os⟩ _ h1 q
    wp_walk using begin_
    refine wpAny_stack_any fun st => wpAny_pure ?_
    split
    · rename_i c _ _ _ _ _
      cases (c == Value.type "enumerate")
      all_goals
        wp_walk using begin_
        exact ⟨_, rfl, h⟩
    · wp_walk using begin_
      exact ⟨_, rfl, h⟩
section
variable {prog : Program} {w : World} {A : Around} {E : Value → Shared → Prop} {s : Shared}
theorem call_enum1 {v : Value} {o : Obj} {Hh : Heap → Prop} {Q : Value → Shared → Prop} (B : Begins v o Hh) (h1 : Hh s.heap)
    (h : ∀ h', IsEnum h' (s.heap.objs.size + 1) s.heap.objs.size 0 .none → h'.get? s.heap.objs.size = some o → (∀ b u, s.heap.get? b = some u → h'.get? b = some u) → Q (.ref (s.heap.objs.size + 1)) { s with heap := h' }) :
    wpAny (model prog w) A (call (.type "enumerate") [v]) Q E s := by
  have size1 : (s.heap.push o).objs.size = s.heap.objs.size + 1 := Heap.size_push ..
  refine callType_new F.called_enumerate (by decide) (F.typeCall_enumerate_1 _) (F.newCall_enumerate_1 _) (fun obj => F.args_object_init_2 obj _) F.entry_enumerate_new (enum_new1 B) ⟨h1, ?_⟩
  show _ ∧ _
  rw [size1]
  have made : IsEnum ((s.heap.push o).push { cls := .type "enumerate", data := .fields #[.none, .bool false, .ref s.heap.objs.size, rawInt 0, .none, .none] }) (s.heap.objs.size + 1) s.heap.objs.size 0 .none := by
    have z := Heap.get?_push_size (s.heap.push o) (o := { cls := .type "enumerate", data := .fields #[.none, .bool false, .ref s.heap.objs.size, rawInt 0, .none, .none] }) rfl
    rw [size1] at z
    exact z
  exact ⟨⟨_, made, rfl⟩, h _ made (Heap.get?_push_of_some _ (Heap.get?_push_size _ B.free)) fun b u x => Heap.get?_push_of_some _ (Heap.get?_push_of_some _ x)⟩
end
theorem apart_it {h : Heap} {a it : Addr} {items : Array Value} {i : Nat} (p : IsTup h a items) (q : h.IsTupleIter it a i) : a ≠ it := by
  rintro rfl
  obtain ⟨o1, h1, c1, _⟩ := p
  obtain ⟨o2, h2, c2, _⟩ := q
  rw [h1] at h2
  cases h2
  rw [c1] at c2
  exact absurd (Value.type.inj c2) (by decide)
theorem enum_done {prog : Program} {w : World} {A : Around} {E : Value → Shared → Prop} {s : Shared} {e it a : Addr} {i : Nat} {n : Int} {old : Value} {items : Array Value} {Q : Option Value → Shared → Prop} (hh : A.handled = none) (he : IsEnum s.heap e it n old) (hit : s.heap.IsTupleIter it a i)
    (ht : s.heap.IsTuple a items) (hi : items.size ≤ i) (hQ : ∀ h', Heap.ExtBut it s.heap h' → Q none { s with heap := h' }) : wpAny (model prog w) A (pyNext (.ref e)) Q E s := by
  have kind : s.TypeIs (.ref e) "enumerate" := ⟨_, he, rfl⟩
  unfold pyNext
  refine wpAny_bind (wpAny_attempt (wpAny_callSpecial?_slot (name := Str.ofString "__next__") kind F.slot_enumerate_next (wpAny_call_entry F.slot_enumerate_next kind F.entry_enumerate_next ?_ (F.args_enumerate_next_1 _))))
  show wpAny _ _ (field (.ref e) 2 >>= _) _ _ _
  refine wpAny_bind (wpAny_field he rfl (x := .ref it) rfl (wpAny_bind ?_))
  refine wpAny_nextOf_tuple_end (A := A.in1) hh hit ht (Array.getElem?_eq_none hi) fun h' x ext stop => ?_
  obtain ⟨ob, ho, hc⟩ := stop
  exact wpAny_bind (wpAny_isInstance (T := "StopIteration") (b := true) ⟨ob, ho, hc⟩ isSubtype_stop (wpAny_pure (hQ _ ext)))
def ItE (K : PySem.W.Frag) (a : Addr) : It :=
  ⟨fun i H => ∃ (xs : List V) (x : V), SqT K H a xs ∧ xs[i]? = some x, fun i H v H' => ∃ T x, v = .ref T ∧ H T = none ∧ H' = upd H T (.tup [.int (i : Nat), x]) ∧ ∀ xs, SqT K H a xs → xs[i]? = some x, fun i H => ∃ xs : List V, SqT K H a xs ∧ xs.length ≤ i⟩
theorem turn_enumT {P : Program} {w : World} {K : PySem.W.Frag} {elts : List Expr} {kk : Nat} {tpos : Pos} (a e it : Addr) :
    Turn P w K (.Tuple elts kk tpos) (ItE K a) [e, it] e (fun i h => (∃ old, IsEnum h e it ((i : Nat) : Int) old) ∧ h.IsTupleIter it a i ∧ e ≠ it) where
  mem := by simp
  obj := fun i h st b hb => by
    obtain ⟨⟨old, he⟩, ⟨o, ho, hc, hd⟩, _⟩ := st
    rcases (show b = e ∨ b = it by simpa using hb) with rfl | rfl
    · exact ⟨_, he, fun v q => nomatch q⟩
    · exact ⟨o, ho, fun v q => by rw [hd] at q; cases q⟩
  keep := fun i h h' st k => let ⟨⟨old, he⟩, hi, hne⟩ := st; ⟨⟨old, k e (by simp) _ he⟩, hi.at fun o q => k it (by simp) o q, hne⟩
  item := by
    intro X hP hw hK hc i pins s σ H E I hf st hg
    subst hP hw hK
    obtain ⟨⟨old, he⟩, hit, hne⟩ := st
    obtain ⟨xs, x, hq, hx⟩ := hg
    obtain ⟨its, rv, p, hz⟩ := I.tuple hq
    obtain ⟨u, hu, ru⟩ := rv.get hx
    have elt_ : e < s.heap.objs.size := Heap.lt_size he
    have ilt : it < s.heap.objs.size := by obtain ⟨_, q, _⟩ := hit; exact Heap.lt_size q
    have apart : a ≠ it := apart_it p hit
    have D := Draws.tuple (prog := X.prog) (w := X.w) (A := X.A.in1) (I.ok.hd hc) it a apart its.toArray
    have ea : e ∉ ([it, a] : List Addr) := by
      intro z
      rcases (show e = it ∨ e = a by simpa using z) with z | z
      · exact hne z
      · subst z
        obtain ⟨o1, h1, c1, _⟩ := p
        have h2 := he
        unfold IsEnum at h2
        rw [h1] at h2
        cases h2
        exact absurd (Value.type.inj c1) (by decide)
    have small : i < its.toArray.size := by
      rw [List.size_toArray, ← rv.length]
      exact (List.getElem?_eq_some_iff.mp hx).1
    refine wpAny_pyNext_enum_itemD D he ⟨hit, p⟩ small hne ea fun y h' tk hy ho st' hT hsz hk => ?_
    have ey : y = u := by
      have hy2 : its.toArray[i]? = some y := hy
      have hu2 : its.toArray[i]? = some u := by simpa using hu
      rw [hu2] at hy2
      exact (Option.some.inj hy2).symm
    subst ey
    refine ⟨_, rfl, wpAny_letOwnedTupleGo_enum (s := { s with heap := h', toks := tk + 1 }) ho fun h'' he' sb => ?_⟩
    have hT2 : h''.get? s.heap.objs.size = some { cls := .type "tuple", data := .seq #[.int i tk, y] } := (sb.2 _ (Nat.ne_of_gt elt_)).trans hT
    have new : ObjOk X.prog X.w (upd H s.heap.objs.size (.tup [.int (i : Nat), x])) h'' s.heap.objs.size (.tup [.int (i : Nat), x]) :=
      ⟨by show 2 ≤ sizeLine; decide, [.int i tk, y], .cons ⟨_, rfl⟩ (.cons ru .nil), ⟨_, hT2, rfl, _, rfl⟩⟩
    have I1 : Inv X pins σ (upd H s.heap.objs.size (.tup [.int (i : Nat), x])) { s with heap := h'', toks := tk + 1 } :=
      I.turnedNew (ch := [e, it]) (fun b ob hb q => (sb.2 b (fun z => hb (by simp [z]))).trans (hk b ob (fun z => hb (by simp [z])) (fun z => hb (by simp [z])) q)) hf (Nat.le_refl _) new
    refine ⟨.ref s.heap.objs.size, _, I1, rfl, ⟨_, x, rfl, I.hok.fresh (Nat.le_refl _), rfl, fun ys hy => by rw [I.tuple_inj hy hq]; exact hx⟩, ⟨⟨y, ?_⟩, st'.1.at fun o q => (sb.2 it (Ne.symm hne)).trans q, hne⟩, fun b hb => ?_⟩
    · have cast : ((i + 1 : Nat) : Int) = (i : Int) + 1 := by omega
      rw [cast]
      exact he'
    · have below : b < s.heap.objs.size := by
        rcases (show b = e ∨ b = it by simpa using hb) with rfl | rfl
        · exact elt_
        · exact ilt
      rw [upd_ne (Nat.ne_of_lt below)]
      exact (hf b hb).1
  done := by
    intro X hP hw hK hc i pins s σ H E I hf st hg
    subst hP hw hK
    obtain ⟨⟨old, he⟩, hit, hne⟩ := st
    obtain ⟨xs, hq, hx⟩ := hg
    obtain ⟨its, rv, p, hz⟩ := I.tuple hq
    obtain ⟨f0, f1, f2, f3, f4, f5⟩ := hf it (by simp)
    have hl := rv.length
    exact enum_done (I.ok.hd hc) he hit p (by rw [List.size_toArray]; omega) fun h' eb => ⟨rfl, I.turned (t' := s.toks) (fun b o hb q => eb b o hb q) f0 f1 f3 f4 f5⟩
  self := fun A i s Q E st h => let ⟨⟨_, he⟩, _⟩ := st; wpAny_pyIter_enum he h
section
variable {G : Sg} {X : Cx} {W : WX} {k : Nat} {w : Wd}
theorem pi_enumT {e : Expr} {te : TE} {p pos tpos : Pos} {elts : List Expr} {kk : Nat} (hg : Gl X "enumerate") (hm : X.mg "enumerate" = none) (he : PE X e te) (hs : notStar e = true) :
    PI X (.Tuple elts kk tpos) (.Call (.Name "enumerate" p) [e] [] pos) (fun σ H R => te σ H fun v H1 => ∃ a xs, v = .ref a ∧ SqT X.K H1 a xs ∧ R (ItE X.K a) H1) := by
  have ha := pa_cons he pa_nil (starEach_cons hs)
  refine ⟨fun pins s σ H R I h => ?_⟩
  refine Call_ (ld_blt I hg hm boot_enumerate (PyProof.Rows.callWith_type1 (thn (ha.run pos pins s σ H (fun vs H1 => match vs with | [v] => ∃ a xs, v = .ref a ∧ SqT X.K H1 a xs ∧ R (ItE X.K a) H1 | _ => False) I ?_) fun us s1 got => ?_) (starEach_cons hs) rfl))
  · exact h
  · obtain ⟨vs, H1, I1, r1, got⟩ := got
    rcases vs with _ | ⟨v, _ | ⟨v2, vs⟩⟩
    · exact got.elim
    rotate_left
    · exact got.elim
    obtain ⟨a, xs, rfl, hq, q⟩ := got
    obtain ⟨u, rfl, ru⟩ := r1.one
    cases (show u = Value.ref a from ru)
    obtain ⟨its, rv, tp, hz⟩ := I1.tuple hq
    refine call_enum1 (begins_tuple a its.toArray) tp fun h' he' hit keep => wpAny_pyIter_enum he' ?_
    have I2 : Inv X pins σ H1 { s1 with heap := h' } := I1.kept (t' := s1.toks) keep
    have ti : h'.IsTupleIter s1.heap.objs.size a 0 := ⟨_, hit, rfl, rfl⟩
    refine ⟨s1.heap.objs.size + 1, [s1.heap.objs.size + 1, s1.heap.objs.size], _, _, H1, rfl, I2, turn_enumT a (s1.heap.objs.size + 1) s1.heap.objs.size, ⟨⟨.none, he'⟩, ti, Nat.succ_ne_self _⟩, fun b hb => ?_, q⟩
    have above : s1.heap.objs.size ≤ b := by
      rcases (show b = s1.heap.objs.size + 1 ∨ b = s1.heap.objs.size by simpa using hb) with z | z
      · rw [z]; exact Nat.le_add_right _ _
      · rw [z]; exact Nat.le_refl _
    exact I1.fpOk above (I1.hok.fresh above)
def numbered : Nat → List D → List D
  | _, [] => []
  | n, d :: ds => .tup [.int n, d] :: numbered (n + 1) ds
theorem numbered_len : ∀ (n : Nat) (ds : List D), (numbered n ds).length = ds.length
  | _, [] => rfl
  | n, d :: ds => by rw [numbered, List.length_cons, List.length_cons, numbered_len (n + 1) ds]
theorem numbered_get : ∀ (n i : Nat) (ds : List D) (z : D), (numbered n ds)[i]? = some z → ∃ d, ds[i]? = some d ∧ z = .tup [.int ((n + i : Nat) : Int), d]
  | _, _, [], _, h => by simp [numbered] at h
  | n, 0, d :: ds, z, h => by
    simp [numbered] at h
    exact ⟨d, rfl, h.symm⟩
  | n, i + 1, d :: ds, z, h => by
    obtain ⟨d', h1, h2⟩ := numbered_get (n + 1) i ds z (by simpa [numbered] using h)
    exact ⟨d', by simpa using h1, by rw [h2]; congr 4; omega⟩
def enumD : D → M (List D)
  | .tup ds => M.pure (numbered 0 ds)
  | _ => M.stuck
theorem yld_enum (cK : G.K = X.K) {ds : List D} {vs : List V} {a : Addr} (h : RdF w a (.tup vs) ∨ KTup G.K a vs) (r : RepVs G w ds vs) : Yld G w (numbered 0 ds) (ItE X.K a) := by
  have sq : ∀ w', Stay w w' → SqT X.K w'.H a vs := fun w' s => sqT_of cK (h.imp (fun z => z.stay s) id)
  refine ⟨fun w' i s hi => ⟨vs, sq w' s, by rw [← r.length, ← numbered_len 0]; exact hi⟩, fun w' i s hi => ?_, fun w' i d x H' S s st hd hy => ?_⟩
  · obtain ⟨v, e⟩ := r.get_len (by rw [← numbered_len 0]; exact hi)
    exact ⟨vs, v, sq w' s, e⟩
  · obtain ⟨T, y, rfl, free, rfl, hx⟩ := hy
    obtain ⟨d', h1, rfl⟩ := numbered_get 0 i ds d hd
    obtain ⟨v, ev, rv⟩ := r.get h1
    have z := hx vs (sq w' s)
    rw [ev] at z
    cases z
    refine ⟨w'.frz T (.tup [.int (i : Nat), y]), rfl, Ext.frz free, st.frz free, T, _, rfl, .inl ⟨.inr rfl, .inl upd_same⟩, _, _, rfl, by rw [Nat.zero_add]; rfl, _, _, rfl, ?_, rfl⟩
    exact RepV.stay (s.trans ((Ext.frz free).stay st.dj)) _ _ rv
theorem i_enum {e : Expr} {f : List SV → M D} {p pos tpos : Pos} {elts : List Expr} {kk : Nat} (c : Ctx G X W k) (hg : Gl X "enumerate") (hm : X.mg "enumerate" = none) (he : PV G X W e f) (hs : notStar e = true) :
    PIV G X W (.Tuple elts kk tpos) (.Call (.Name "enumerate" p) [e] [] pos) (fun sd => M.bind (f sd) enumD) := by
  refine PI.imp (pi_enumT hg hm he hs) fun σ H Q q => ?_
  obtain ⟨w0, w, sd, S, e, r, q⟩ := q
  refine ⟨w0, w, sd, S, e, r, fin_step q fun w1 S1 d v e1 s1 rv q1 => ?_⟩
  cases d with
  | tup ds =>
    obtain ⟨a, vs, ev, ha, rs⟩ := rv
    exact ⟨a, vs, ev, sqT_of c.cK ha, q1 w1 _ (Ext.refl _) s1 (yld_enum c.cK ha rs)⟩
  | _ => exact q1.elim
def charsOf : D → M (List D)
  | .str x => M.pure (x.cps.toList.map fun c => .str ⟨#[c]⟩)
  | _ => M.stuck
theorem yld_str {x : Str} : Yld G w (x.cps.toList.map fun c => D.str ⟨#[c]⟩) (Its x) := by
  have hl : (x.cps.toList.map fun c => D.str ⟨#[c]⟩).length = x.cps.size := by simp
  refine ⟨fun w' i s hi => by rw [hl] at hi; exact hi, fun w' i s hi => by rw [hl] at hi; exact hi, fun w' i d y H' S s st hd hy => ?_⟩
  obtain ⟨e, c, hc, rfl⟩ := hy
  refine ⟨w', e.symm, Ext.refl _, st, ?_⟩
  rw [List.getElem?_map, Array.getElem?_toList, hc] at hd
  cases hd
  rfl
theorem i_str {tg e : Expr} {f : List SV → M D} (he : PV G X W e f) : PIV G X W tg e (fun sd => M.bind (f sd) charsOf) := by
  refine PI.imp (pi_str he) fun σ H Q q => ?_
  obtain ⟨w0, w, sd, S, e, r, q⟩ := q
  refine ⟨w0, w, sd, S, e, r, fin_step q fun w1 S1 d v e1 s1 rv q1 => ?_⟩
  cases d with
  | str x => exact ⟨x, rv, q1 w1 _ (Ext.refl _) s1 yld_str⟩
  | _ => exact q1.elim
variable {s : Shared} {H : Hp} {scope : Scope} {env : Env} {fp : List Addr}
theorem blkV {e : Expr} {f : List SV → M D} (c : Ctx G X W k) (h : Ctx G (X.blk s H scope env fp) NoW k → PV G (X.blk s H scope env fp) NoW e f) : PV G (X.blk s H scope env fp) NoW e f := h (c.blk s H scope env fp)
theorem blkT {e : List Expr} {f : List SV → M Bool} (c : Ctx G X W k) (h : Ctx G (X.blk s H scope env fp) NoW k → PTsV G (X.blk s H scope env fp) NoW e f) : PTsV G (X.blk s H scope env fp) NoW e f := h (c.blk s H scope env fp)
theorem blkP {e : Expr} {ts : List Nat} {f : TgP} (c : Ctx G X W k) (h : Ctx G (X.blk s H scope env fp) NoW k → PGP G (X.blk s H scope env fp) ts e f) : PGP G (X.blk s H scope env fp) ts e f := h (c.blk s H scope env fp)
end
end Ev
set_option maxRecDepth 100000
set_option maxHeartbeats 2000000
namespace Ev
open PySem PySem.Spec PyProof.Rows L2
theorem kit_cc {K : PySem.W.Frag} {t : Value} {C : Addr} {b : Bool} (h1 : PySem.W.isClsIn K C = true) (h2 : PySem.W.typeIn K (.ref C) = some (.type "type")) (h3 : PySem.W.subIn K t (.ref C) = some b) (h4 : PySem.W.subIn K (.ref C) (.ref C) = some true) : PySem.W.kitOne K t (.ref C) = some b := by
  unfold PySem.W.kitOne
  by_cases e : (t == Value.ref C) = true
  · rw [if_pos e]
    have e2 : t = Value.ref C := eq_of_beq e
    rw [e2, h4] at h3
    exact h3
  · rw [if_neg e]
    unfold PySem.W.kitCls
    have h1' : (PySem.W.clsIn K C).isSome = true := h1
    simp only [h1', h2, h3]
    rfl
theorem kit_ct {K : PySem.W.Frag} {C : Addr} {T : String} {b : Bool} (h1 : PySem.W.kitMeta T = true) (h3 : PySem.W.subIn K (.ref C) (.type T) = some b) : PySem.W.kitOne K (.ref C) (.type T) = some b := by
  unfold PySem.W.kitOne
  by_cases e : (Value.ref C == Value.type T) = true
  · cases eq_of_beq e
  rw [if_neg e]
  unfold PySem.W.kitCls
  simp only [h1, h3]
  rfl
end Ev
set_option maxRecDepth 100000
set_option maxHeartbeats 2000000
namespace Ev
open PySem L2
def Run {α : Type} (f : M α) (S : List Ob) (P : α → List Ob → Prop) : Prop := match f S with
  | some (.ok a, S') => P a S'
  | _ => False
def RunS (f : MS) (sd : List SV) (S : List Ob) (N : List SV → List Ob → Prop) (R : D → List Ob → Prop) (B C : List SV → List Ob → Prop) : Prop := match f sd S with
  | some (.next sd', S') => N sd' S'
  | some (.ret d, S') => R d S'
  | some (.brk sd', S') => B sd' S'
  | some (.cont sd', S') => C sd' S'
  | _ => False
section
variable {α β : Type} {f : M α} {S : List Ob} {P P' : α → List Ob → Prop}
theorem run_pure {a : α} : Run (M.pure a) S P ↔ P a S := Iff.rfl
theorem run_stuck : Run (M.stuck : M α) S P ↔ False := Iff.rfl
theorem run_bind {k : α → M β} {Q : β → List Ob → Prop} : Run (M.bind f k) S Q ↔ Run f S fun a S' => Run (k a) S' Q := by
  unfold Run M.bind
  rcases f S with _ | ⟨_ | a, S'⟩
  · exact Iff.rfl
  · exact Iff.rfl
  · exact Iff.rfl
theorem run_ite {c : Prop} [Decidable c] {g : M α} : Run (if c then f else g) S P ↔ if c then Run f S P else Run g S P := by split <;> exact Iff.rfl
theorem run_noErr : Run (noErr f) S P ↔ Run f S P := by
  unfold Run noErr
  rcases f S with _ | ⟨_ | a, S'⟩ <;> exact Iff.rfl
theorem Run.mono (h : Run f S P) (i : ∀ a S', P a S' → P' a S') : Run f S P' := by
  unfold Run at h ⊢
  rcases e : f S with _ | ⟨_ | a, S'⟩
  · rw [e] at h; exact h
  · rw [e] at h; exact h
  · rw [e] at h; exact i a S' h
theorem Run.ex (h : Run f S P) : ∃ a S', f S = some (.ok a, S') ∧ P a S' := by
  unfold Run at h
  rcases e : f S with _ | ⟨_ | a, S'⟩
  · rw [e] at h; exact h.elim
  · rw [e] at h; exact h.elim
  · rw [e] at h; exact ⟨a, S', rfl, h⟩
theorem pure_of {r : α} (h : ∀ S, Run f S fun d S' => d = r ∧ S' = S) : f = M.pure r := by
  funext S
  obtain ⟨a, S', e, rfl, rfl⟩ := (h S).ex
  rw [e]
  rfl
variable {sd : List SV} {N N' : List SV → List Ob → Prop} {R R' : D → List Ob → Prop} {B B' C C' : List SV → List Ob → Prop} {m1 m2 : MS}
theorem runS_next : RunS nextS sd S N R B C ↔ N sd S := Iff.rfl
theorem runS_stuck : RunS stuckS sd S N R B C ↔ False := Iff.rfl
theorem runS_seq : RunS (seqS m1 m2) sd S N R B C ↔ RunS m1 sd S (fun sd' S' => RunS m2 sd' S' N R B C) R B C := by
  unfold RunS seqS
  rcases m1 sd S with _ | ⟨_ | _ | _ | _ | _, S'⟩ <;> exact Iff.rfl
theorem runS_ex {g : List SV → M α} {k : α → MS} : RunS (exS g k) sd S N R B C ↔ Run (g sd) S fun d S' => RunS (k d) sd S' N R B C := by
  unfold RunS exS Run
  rcases g sd S with _ | ⟨_ | a, S'⟩ <;> exact Iff.rfl
theorem runS_ret {g : List SV → M D} : RunS (retS g) sd S N R B C ↔ Run (g sd) S R := by
  unfold retS
  rw [runS_ex]
  exact Iff.rfl
theorem runS_asg {g : List SV → M D} {i : Nat} : RunS (asgS g (setT i)) sd S N R B C ↔ Run (g sd) S fun d S' => N (sd.set i (.val d)) S' := by
  unfold asgS
  rw [runS_ex]
  exact Iff.rfl
theorem runS_par {g : List SV → M (List D)} {i j : Nat} : RunS (parS i j g) sd S N R B C ↔ Run (g sd) S fun ds S' => match ds with | [a, b] => N ((sd.set i (.val a)).set j (.val b)) S' | _ => False := by
  unfold parS
  rw [runS_ex]
  unfold Run
  rcases g sd S with _ | ⟨_ | ds, S'⟩
  · exact Iff.rfl
  · exact Iff.rfl
  · rcases ds with _ | ⟨a, _ | ⟨b, _ | ⟨c, ds⟩⟩⟩ <;> exact Iff.rfl
theorem runS_if {g : List SV → M Bool} : RunS (exS g fun k => if k = true then m1 else m2) sd S N R B C ↔ Run (g sd) S fun k S' => if k = true then RunS m1 sd S' N R B C else RunS m2 sd S' N R B C := by
  rw [runS_ex]
  have e : (fun (d : Bool) S' => RunS (if d = true then m1 else m2) sd S' N R B C) = fun k S' => if k = true then RunS m1 sd S' N R B C else RunS m2 sd S' N R B C := by
    funext d S'
    cases d <;> rfl
  rw [e]
theorem runS_own {g : List SV → M (List D)} {i : Nat} : RunS (ownS i g) sd S N R B C ↔ Run (g sd) S fun ds S' => N (sd.set i (.own (.lst ds))) S' := by
  unfold ownS
  rw [runS_ex]
  exact Iff.rfl
theorem runS_tgt {g : List SV → M D} {t : Tgt} : RunS (asgS g t) sd S N R B C ↔ Run (g sd) S fun d S' => match t d sd S' with | some (sd2, S2) => N sd2 S2 | none => False := by
  unfold asgS
  rw [runS_ex]
  unfold Run
  rcases g sd S with _ | ⟨_ | d, S'⟩
  · exact Iff.rfl
  · exact Iff.rfl
  · unfold RunS
    simp only
    rcases t d sd S' with _ | ⟨sd2, S2⟩
    · exact Iff.rfl
    · exact Iff.rfl
theorem RunS.mono (h : RunS m1 sd S N R B C) (hN : ∀ sd S, N sd S → N' sd S) (hR : ∀ d S, R d S → R' d S) (hB : ∀ sd S, B sd S → B' sd S) (hC : ∀ sd S, C sd S → C' sd S) : RunS m1 sd S N' R' B' C' := by
  unfold RunS at h ⊢
  rcases e : m1 sd S with _ | ⟨_ | _ | _ | _ | _, S'⟩
  · rw [e] at h; exact h
  · rw [e] at h; exact hN _ _ h
  · rw [e] at h; exact hR _ _ h
  · rw [e] at h; exact hB _ _ h
  · rw [e] at h; exact hC _ _ h
  · rw [e] at h; exact h
theorem loop_rule {t : Tgt} {body : MS} (J : List D → List SV → List Ob → Prop) (step : ∀ d ds sd S, J (d :: ds) sd S → ∃ sd1 S1, t d sd S = some (sd1, S1) ∧ RunS body sd1 S1 (fun sd2 S2 => J ds sd2 S2) R (fun sd2 S2 => N sd2 S2) (fun sd2 S2 => J ds sd2 S2))
    (fin : ∀ sd S, J [] sd S → N sd S) : ∀ ds sd S, J ds sd S → RunS (loopS t body ds) sd S N R B C
  | [], sd, S, h => fin sd S h
  | d :: ds, sd, S, h => by
    obtain ⟨sd1, S1, e, hb⟩ := step d ds sd S h
    have ih := loop_rule J step fin ds
    unfold RunS at hb ⊢
    unfold loopS
    rw [e]
    simp only
    rcases hm : body sd1 S1 with _ | ⟨_ | _ | _ | _ | _, S'⟩
    · rw [hm] at hb; exact hb
    · rw [hm] at hb; exact ih _ _ hb
    · rw [hm] at hb; exact hb
    · rw [hm] at hb; exact hb
    · rw [hm] at hb; exact ih _ _ hb
    · rw [hm] at hb; exact hb
theorem runS_for {g : List SV → M (List D)} {t : Tgt} {body : MS} : RunS (forS g t body) sd S N R B C ↔ Run (g sd) S fun ds S' => RunS (loopS t body ds) sd S' N R B C := by
  unfold forS
  rw [runS_ex]
theorem run_fn {m n : Nat} {ms : MS} {ds : List D} {Q : D → List Ob → Prop} : Run (runFn m n ms ds) S Q ↔ ds.length = m ∧ RunS ms (slots n (ds.map .val)) S (fun _ S' => Q .non S') Q (fun _ _ => False) (fun _ _ => False) := by
  unfold Run runFn RunS
  by_cases h : ds.length = m
  · simp only [h, if_true, true_and]
    rcases ms (slots n (ds.map .val)) S with _ | ⟨_ | _ | _ | _ | _, S'⟩ <;> exact Iff.rfl
  · simp only [h, if_false, false_and]
end
theorem getv_val {i : Nat} {sd : List SV} {d : D} (h : sd[i]? = some (.val d)) : getv i sd = M.pure d := by
  unfold getv
  rw [h]
theorem toB_bl (b : Bool) : toB (.bl b) = M.pure b := rfl
theorem add_int (i j : Int) : dAdd (.int i) (.int j) = M.pure (.int (i + j)) := rfl
theorem sub_int (i j : Int) : dSub (.int i) (.int j) = M.pure (.int (i - j)) := rfl
theorem mul_int {i j : Int} (h : mulOk i j = true) : dMul (.int i) (.int j) = M.pure (.int (i * j)) := by
  show (if mulOk i j = true then M.pure (D.int (i * j)) else M.stuck) = _
  rw [if_pos h]
theorem mod_int {i j : Int} (h : 0 < j) : dMod (.int i) (.int j) = M.pure (.int (i % j)) := by
  show (if 0 < j then M.pure (D.int (i % j)) else M.stuck) = _
  rw [if_pos h]
theorem fdiv_int {i j : Int} (h : divOk j = true) : dFdiv (.int i) (.int j) = M.pure (.int (i / j)) := by
  show (if divOk j = true then M.pure (D.int (i / j)) else M.stuck) = _
  rw [if_pos h]
theorem cmp_int (p : Int → Int → Bool) (i j : Int) : dCmpI p (.int i) (.int j) = M.pure (.bl (p i j)) := rfl
theorem int_int (i : Int) : dInt (.int i) = M.pure (.int i) := rfl
theorem ix_tup {ds : List D} {i : Int} {d : D} (h : atI ds i = some d) : dIx (.tup ds) (.int i) = M.pure d := by
  funext S
  show (match atI ds i with | some x => (some (Except.ok x, S) : Option (Except Exn D × List Ob)) | none => none) = _
  rw [h]
  rfl
theorem ix_lst {ds : List D} {i : Int} {d : D} (h : atI ds i = some d) : dIx (.lst ds) (.int i) = M.pure d := by
  funext S
  show (match atI ds i with | some x => (some (Except.ok x, S) : Option (Except Exn D × List Ob)) | none => none) = _
  rw [h]
  rfl
end Ev
set_option maxRecDepth 100000
set_option maxHeartbeats 2000000
namespace PySem.W
open PySem PyProof.Rows
end PySem.W
namespace Ev
open PySem PySem.Spec PyProof.Rows L2
section
variable {G : Sg} {X : Cx} {W : WX} {k n m j : Nat} {f C : Addr} {sem : List D → M D} {x y mm : Str} {p pos apos kpos : Pos} {e o fe : Expr} {es : List Expr} {kws : List Keyword} {ks : List Str} {fa fk : List SV → M (List D)} {ff g : List SV → M D} {σ : L2.St}
theorem EP.mono {pins : List (Addr × Obj)} {Q Q' : VK} {v : Value} {s : Shared} (h : EP X pins σ Q v s) (i : ∀ z H, Q z H → Q' z H) : EP X pins σ Q' v s := by
  obtain ⟨z, H, I, r, q⟩ := h
  exact ⟨z, H, I, r, i z H q⟩
end
end Ev
set_option maxRecDepth 100000
set_option maxHeartbeats 2000000
namespace Ev
open PySem PySem.Spec PyProof.Rows L2
structure ClK (P : Program) (w : World) (K : PySem.W.Frag) (mg : Str → Option Value) (base : Heap) (G : Sg) (k c m : Nat) (ks : List Str) (sem : List D → M D) : Prop where
  ex : ∃ f, Mk K (G.ca c) f ∧ ∀ (A : Around) (fr : List Env) (s : Shared) (H : Hp) (us ws : List Value) (vs zs : List V) (Q : VK) (E : XK), Rm G.gd k A → Env0 P w K mg base A fr s H → Vals vs us → Vals zs ws → vs.length = m + 1 → zs.length = ks.length →
    spN G c sem (vs ++ zs) H Q E → codeAny (model P w) A (.call (.ref f) ⟨us, ks.zip ws⟩) (CR (L2N.CX P w) fr P w H s Q E) s
theorem ClK.mono {P : Program} {w : World} {K : PySem.W.Frag} {mg : Str → Option Value} {base : Heap} {G : Sg} {j k c m : Nat} {ks : List Str} {sem : List D → M D} (F : ClK P w K mg base G j c m ks sem) (h : j ≤ k) : ClK P w K mg base G k c m ks sem :=
  ⟨let ⟨f, M, g⟩ := F.ex; ⟨f, M, fun A fr s H us ws vs zs Q E hr => g A fr s H us ws vs zs Q E (hr.mono h)⟩⟩
section
variable {G : Sg} {X : Cx} {W : WX} {k n m j c : Nat} {f C : Addr} {sem : List D → M D} {x y mm : Str} {p pos apos kpos : Pos} {e o fe : Expr} {es : List Expr} {kws : List Keyword} {ks : List Str} {fa fk : List SV → M (List D)} {ff g : List SV → M D} {σ : L2.St}
theorem ClK.call (cx : Ctx G X W k) (F : ClK X.prog X.w X.K X.mg X.base G k c m ks sem) : CallK G X W (G.ca c) m ks sem := by
  obtain ⟨f, M, g⟩ := F.ex
  refine ⟨M.kp, fun pins σ H s Q us ws vs zs I r r2 l1 l2 h => ?_⟩
  have J := Inv.made (C := G.ca c) I
  have body := g _ X.stack _ _ (Value.ref (s.heap.objs.size + 1) :: us) ws (V.ref (s.heap.objs.size + 1) :: vs) zs _ _ (cx.rm.make (G.ca c) us (ks.zip ws)) (J.env0.make (G.ca c) us (ks.zip ws)) (.cons rfl r) r2 (by rw [List.length_cons, l1]) l2
    ⟨_, _, vs ++ zs, H, Q, rfl, rfl, I.hok.fresh (Nat.le_succ _), I.hok.fresh (Nat.le_refl _), Nat.ne_of_lt (Nat.lt_succ_self s.heap.objs.size), rfl, h⟩
  refine wpAny_call (make_map (f := f) I.kIn M.makes M.init (beq_iff_eq.mp M.fn) (codeAny_mono body ?_))
  rintro (er | fl) s' got
  · exact cx.px σ pins _ _ er s' J got
  · cases fl with
    | ret u =>
      obtain ⟨v, H', J2, rv, rfl, q3⟩ := J.after got
      exact ⟨rv, V.ref (s.heap.objs.size + 1), H', J2, rfl, q3⟩
    | next => exact got.elim
    | brk => exact got.elim
    | cont => exact got.elim
end
end Ev
set_option maxRecDepth 100000
set_option maxHeartbeats 2000000
namespace Ev
open PySem PySem.Spec PyProof.Rows L2
section
variable {G : Sg} {X : Cx} {W : WX} {k j : Nat} {f : Addr} {sem : List D → M D} {σ : L2.St}
theorem run_text {A : Around} {pins : List (Addr × Obj)} {H : Hp} {s : Shared} {Q : VK} {E' : Value → Shared → Prop} {us : List Value} {vs : List V} (hr : Rm G.gd j A) (e0 : Env0 X.prog X.w X.K X.mg X.base A X.stack s H) (F : FnX X G j f sem) (I : Inv X pins σ H s) (r : Vals vs us)
    (h : spV G sem vs H (fun z H' => (∃ y, z = .str y) ∧ Q z H') (fun _ _ _ => False)) : wpAny (model X.prog X.w) A (call (.ref f) us) (PySem.W.StrBack (EP X pins σ Q)) E' s := by
  have body := F.run A X.stack s H us vs _ (fun _ _ _ => False) hr e0 r h
  refine wpAny_call (codeAny_mono body ?_)
  intro res s' hq
  rcases res with er | fl
  · obtain ⟨_, _, _, _, _, _, _, _, _, _, _, _, z⟩ := hq
    exact z.elim
  · cases fl with
    | ret u =>
      obtain ⟨z, H', I3, rz, ⟨y, rfl⟩, hQ⟩ := I.after hq
      obtain ⟨t, rfl⟩ := (show ∃ t, u = Value.str y t from rz)
      exact ⟨.str y, H', I3, ⟨t, rfl⟩, hQ⟩
    | next => exact hq.elim
    | brk => exact hq.elim
    | cont => exact hq.elim
structure TxT (X : Cx) (G : Sg) (j : Nat) (nm : Str) (tbl : Nat → Option (List D → M D)) : Prop where
  at_ : ∀ c g, tbl c = some g → ∃ f, PySem.W.findIn X.K (.ref (G.ca c)) nm = some (some (.ref f)) ∧ PySem.W.isFn X.K (.ref f) = true ∧ PySem.W.findIn X.K (.ref (G.ca c)) "__format__" = some (some (.builtin "object.__format__")) ∧
    PySem.W.mroIn X.K (G.ca c) (.type "object") = some true ∧ FnX X G j f g
def ownTx (tbl : Nat → Option (List D → M D)) (d : D) : M D := M.bind (pick tbl d) fun g => M.bind (noErr (g [d])) fun r => M.bind (isStr r) fun y => M.pure (.str y)
theorem ownTx_sp {nm : Str} {tbl : Nat → Option (List D → M D)} {w : Wd} {S : List Ob} {d : D} {v : V} {Q : VK} {Wx : Value → Option Addr → Hp → Prop} (T : TxT X G j nm tbl) (st : RepS G w S) (rd : RepV G w d v) (q : FinG G (RepV G) Wx w Q (ownTx tbl d S)) :
    ∃ c a dx fs f g, v = .ref a ∧ w.H a = some (.ins (G.ca c) dx fs) ∧ PySem.W.findIn X.K (.ref (G.ca c)) nm = some (some (.ref f)) ∧ PySem.W.isFn X.K (.ref f) = true ∧ PySem.W.findIn X.K (.ref (G.ca c)) "__format__" = some (some (.builtin "object.__format__")) ∧
      PySem.W.mroIn X.K (G.ca c) (.type "object") = some true ∧ FnX X G j f g ∧ spV G g [.ref a] w.H (fun z H' => (∃ y, z = .str y) ∧ Q z H') (fun _ _ _ => False) := by
  unfold ownTx at q
  obtain ⟨cc, g, tg, q3, hc1, a1, dx1, fs1, rfl, hb1⟩ := pick_fin st rd q
  obtain ⟨f, h1, h2, h3, h4, F⟩ := T.at_ cc g tg
  refine ⟨cc, a1, dx1, _, f, g, rfl, hb1, h1, h2, h3, h4, F, w, [d], S, rfl, st, ⟨_, _, rfl, rd, rfl⟩, ?_⟩
  unfold M.bind noErr at q3
  rcases hg : g [d] S with _ | ⟨_ | r, S3⟩
  · rw [hg] at q3; exact q3.elim
  · rw [hg] at q3; exact q3.elim
  · rw [hg] at q3
    intro w' z e s3 rz
    cases r with
    | str y =>
      cases (show z = .str y from rz)
      exact ⟨⟨y, rfl⟩, q3 w' _ e s3 rfl⟩
    | _ => exact q3.elim
def reprX (tbl : Nat → Option (List D → M D)) (d : D) : M D := if isObj d = true then ownTx tbl d else dRepr d
theorem c_reprX {tbl : Nat → Option (List D → M D)} (c : Ctx G X W k) (T : TxT X G k "__repr__" tbl) (hg : G.gd = true := by rfl) : CallR X (.builtin "repr") (rDs G (on1 (reprX tbl))) := by
  intro pins s σ H xs us Q I rx h
  obtain ⟨Wx, w, S, d, v, rfl, st, rfl, r, q⟩ := on1_of h
  unfold reprX at q
  by_cases ho : isObj d = true
  · rw [if_pos ho] at q
    obtain ⟨cc, a, dx, fs, f, g, rfl, ha, h1, h2, _, _, F, sp⟩ := ownTx_sp T st r q
    obtain ⟨u, rfl, ru⟩ := rx.one
    cases (show u = Value.ref a from ru)
    obtain ⟨m1, O1, _⟩ := ins_get I.hok ha
    obtain ⟨od1, J1, _⟩ := O1.look
    obtain ⟨m, hF⟩ := I.fr
    exact PySem.W.repr_K (c.rm.in1).room.units0 hF I.ok.mod.kin J1 h1 h2 (run_text (us := [.ref a]) (vs := [.ref a]) c.rm.in1 I.env0.in1 F I (.cons rfl .nil) sp)
  · rw [if_neg ho] at q
    exact c_repr c.cK c.rm hg pins s σ w.H _ us Q I rx ⟨Wx, w, S, [d], rfl, st, ⟨_, _, rfl, r, rfl⟩, q⟩
def fmtX (tbl : Nat → Option (List D → M D)) (d : D) : M D := if isObj d = true then ownTx tbl d else dFmt d
theorem v_fmtX {e : Expr} {fe : List SV → M D} {pos : Pos} {tbl : Nat → Option (List D → M D)} (c : Ctx G X W k) (T : TxT X G k "__str__" tbl) (he : PV G X W e fe) : PV G X W (.FormattedValue e (-1) none pos) (fun sd => M.bind (fe sd) (fmtX tbl)) := by
  constructor
  intro pins s σ H Q I ⟨w0, w, sd, S, eH, r, q⟩
  refine wpAny_FormattedValue_plain (thn (he.run pins s σ H (fun v H1 => ∃ w1 S1 d, w1.H = H1 ∧ RepS G w1 S1 ∧ RepV G w1 d v ∧ FinG G (RepV G) (fun c x H => W c x σ H) w1 Q (fmtX tbl d S1)) I ?_) ?_)
  · exact ⟨w0, w, sd, S, eH, r, fin_step q fun w1 S1 d v e1 s1 rv q1 => ⟨w1, S1, d, rfl, s1, rv, q1⟩⟩
  · rintro u s1 ⟨v, H1, I1, rv, w1, S1, d, rfl, st, rd, q1⟩
    unfold fmtX at q1
    by_cases ho : isObj d = true
    · rw [if_pos ho] at q1
      obtain ⟨cc, a, dx, fs, f, g, rfl, ha, h1, h2, h3, h4, F, sp⟩ := ownTx_sp T st rd q1
      cases (show u = Value.ref a from rv)
      obtain ⟨m1, O1, _⟩ := ins_get I1.hok ha
      obtain ⟨od1, J1, _⟩ := O1.look
      have I2 := I1.tok (s1.toks + 1)
      exact PySem.W.kfo_fieldS (c.rm.in1).room.units0 I1.kIn J1 h3 h4 h1 h2 (run_text (us := [.ref a]) (vs := [.ref a]) c.rm.in1 I2.env0.in1 F I2 (.cons rfl .nil) sp)
    · rw [if_neg ho] at q1
      cases d with
      | str x =>
        obtain ⟨cc, q2⟩ := FinG.ite q1
        cases (show v = .str x from rd)
        obtain ⟨t, rfl⟩ := (show ∃ t, u = Value.str x t from rv)
        have hQ : Q (.str x) w1.H := fin_pure q2 st rfl
        exact wpAny_formatField_str ⟨.str x, w1.H, I1, ⟨t, rfl⟩, hQ⟩ ⟨.str x, w1.H, I1.tok _, ⟨_, rfl⟩, hQ⟩ (by rw [← lim_eq]; exact cc)
      | int i =>
        obtain ⟨cc, q2⟩ := FinG.ite q1
        cases (show v = .int i from rd)
        obtain ⟨t, rfl⟩ := (show ∃ t, u = Value.int i t from rv)
        have hQ : Q (.str (toString i)) w1.H := fin_pure q2 st rfl
        exact wpAny_formatField_int (of_decide_eq_true cc) ⟨.str (toString i), w1.H, I1.tok _, ⟨_, rfl⟩, hQ⟩
      | _ => exact q1.elim
end
end Ev
set_option maxRecDepth 100000
set_option maxHeartbeats 2000000
namespace Ev
open PySem PySem.Spec PyProof.Rows L2 PySem.W NdefX
theorem FnS.mono {P : Program} {w : World} {K : Frag} {mg : Str → Option Value} {base : Heap} {b : Bool} {j k : Nat} {f : Addr} {sp : Sp} (F : FnS P w K mg base b j f sp) (h : j ≤ k) : FnS P w K mg base b k f sp := fun A fr s H us vs Q E hr => F A fr s H us vs Q E (hr.mono h)
end Ev
set_option maxRecDepth 100000
set_option maxHeartbeats 2000000
namespace Ev
open PySem L2
@[irreducible] def Bd (k : Nat) (x : Int) : Prop := x.natAbs < 2 ^ k
theorem Bd.nat {k : Nat} {x : Int} (h : Bd k x) : x.natAbs < 2 ^ k := by
  unfold Bd at h
  exact h
theorem Bd.mk {k : Nat} {x : Int} (h : x.natAbs < 2 ^ k) : Bd k x := by
  unfold Bd
  exact h
theorem Bd.mono {j k : Nat} {x : Int} (h : Bd j x) (l : j ≤ k) : Bd k x := .mk (Nat.lt_of_lt_of_le h.nat (Nat.pow_le_pow_right (by decide) l))
theorem Bd.mul {j k : Nat} {x y : Int} (h : Bd j x) (l : Bd k y) : Bd (j + k) (x * y) := by
  unfold Bd at *
  rw [Int.natAbs_mul, Nat.pow_add]
  have p : 0 < 2 ^ k := Nat.pow_pos (by decide)
  calc x.natAbs * y.natAbs ≤ x.natAbs * 2 ^ k := Nat.mul_le_mul_left _ (Nat.le_of_lt l)
    _ < 2 ^ j * 2 ^ k := Nat.mul_lt_mul_of_pos_right h p
theorem Bd.add {j k : Nat} {x y : Int} (h : Bd j x) (l : Bd k y) : Bd (j + k + 1) (x + y) := by
  have a := Bd.mono h (show j ≤ j + k by omega)
  have b := Bd.mono l (show k ≤ j + k by omega)
  unfold Bd at *
  rw [Nat.pow_succ]
  omega
theorem Bd.sub {j k : Nat} {x y : Int} (h : Bd j x) (l : Bd k y) : Bd (j + k + 1) (x - y) := by
  have a := Bd.mono h (show j ≤ j + k by omega)
  have b := Bd.mono l (show k ≤ j + k by omega)
  unfold Bd at *
  rw [Nat.pow_succ]
  omega
theorem Bd.neg {j : Nat} {x : Int} (h : Bd j x) : Bd j (-x) := by
  unfold Bd at *
  omega
theorem Bd.of64 {x : Int} (h : -18446744073709551616 < x) (l : x < 18446744073709551616) : Bd 64 x := by
  unfold Bd
  omega
theorem Bd.of128 {x : Int} (h : -340282366920938463463374607431768211456 < x) (l : x < 340282366920938463463374607431768211456) : Bd 128 x := by
  unfold Bd
  omega
theorem Bd.ediv {j : Nat} {x y : Int} (h : Bd j x) : Bd j (x / y) := by
  unfold Bd at *
  have := Int.natAbs_ediv_le_natAbs x y
  omega
theorem Bd.emod {j : Nat} {x y : Int} (h : Bd j y) (p : 0 < y) : Bd j (x % y) := by
  unfold Bd at *
  have a := Int.emod_nonneg x (show y ≠ 0 by omega)
  have b := Int.emod_lt_of_pos x p
  omega
theorem Bd.abs {j : Nat} {x : Int} (h : Bd j x) : Bd j (x.natAbs : Int) := by
  unfold Bd at *
  omega
theorem bd_bits {k : Nat} {x : Int} (h : PySem.Builtin.Int.intBits x ≤ k) : Bd k x := by
  unfold Bd
  unfold PySem.Builtin.Int.intBits at h
  by_cases z : x = 0
  · subst z
    exact Nat.pow_pos (by decide)
  · have e : (x == 0) = false := by simpa using z
    rw [e] at h
    simp only [Bool.false_eq_true, if_false] at h
    exact (Nat.log2_lt (by omega)).mp (by omega)
theorem mulOk_bd {j k : Nat} {x y : Int} (h : Bd j x) (l : Bd k y) (c : j + k ≤ 134217728) : mulOk x y = true := mulOk_by h.nat l.nat c
theorem divOk_bd {j : Nat} {x : Int} (p : 0 < x) (h : Bd j x) (c : j ≤ 9000) : divOk x = true := by
  unfold divOk
  rw [Bool.and_eq_true]
  refine ⟨decide_eq_true p, decide_eq_true ?_⟩
  have := (Nat.log2_lt (by omega)).mpr h.nat
  omega
@[irreducible] def Wp {α : Type} (f : M α) (S : List Ob) (P : α → List Ob → Prop) : Prop := Run f S P
@[irreducible] def Ws (f : MS) (sd : List SV) (S : List Ob) (N : List SV → List Ob → Prop) (R : D → List Ob → Prop) (B C : List SV → List Ob → Prop) : Prop := RunS f sd S N R B C
theorem wp_run {α : Type} {f : M α} {S : List Ob} {P : α → List Ob → Prop} : Wp f S P ↔ Run f S P := by unfold Wp; exact Iff.rfl
theorem ws_run {f : MS} {sd : List SV} {S : List Ob} {N : List SV → List Ob → Prop} {R : D → List Ob → Prop} {B C : List SV → List Ob → Prop} : Ws f sd S N R B C ↔ RunS f sd S N R B C := by unfold Ws; exact Iff.rfl
theorem Wp.run {α : Type} {f : M α} {S : List Ob} {P : α → List Ob → Prop} (h : Wp f S P) : Run f S P := wp_run.mp h
theorem Run.wp {α : Type} {f : M α} {S : List Ob} {P : α → List Ob → Prop} (h : Run f S P) : Wp f S P := wp_run.mpr h
theorem Ws.run {f : MS} {sd : List SV} {S : List Ob} {N : List SV → List Ob → Prop} {R : D → List Ob → Prop} {B C : List SV → List Ob → Prop} (h : Ws f sd S N R B C) : RunS f sd S N R B C := ws_run.mp h
theorem RunS.ws {f : MS} {sd : List SV} {S : List Ob} {N : List SV → List Ob → Prop} {R : D → List Ob → Prop} {B C : List SV → List Ob → Prop} (h : RunS f sd S N R B C) : Ws f sd S N R B C := ws_run.mpr h
theorem Wp.mono {α : Type} {f : M α} {S : List Ob} {P P' : α → List Ob → Prop} (h : Wp f S P) (i : ∀ a S', P a S' → P' a S') : Wp f S P' := (h.run.mono i).wp
theorem Ws.mono {m : MS} {sd : List SV} {S : List Ob} {N N' : List SV → List Ob → Prop} {R R' : D → List Ob → Prop} {B B' C C' : List SV → List Ob → Prop} (h : Ws m sd S N R B C) (hN : ∀ sd S, N sd S → N' sd S) (hR : ∀ d S, R d S → R' d S) (hB : ∀ sd S, B sd S → B' sd S) (hC : ∀ sd S, C sd S → C' sd S) : Ws m sd S N' R' B' C' := (h.run.mono hN hR hB hC).ws
theorem Wp.ex {α : Type} {f : M α} {S : List Ob} {P : α → List Ob → Prop} (h : Wp f S P) : ∃ a S', f S = some (.ok a, S') ∧ P a S' := h.run.ex
theorem pure_wp {α : Type} {f : M α} {r : α} (h : ∀ S, Wp f S fun d S' => d = r ∧ S' = S) : f = M.pure r := pure_of fun S => (h S).run
section
variable {α β : Type} {f : M α} {S : List Ob} {P : α → List Ob → Prop} {PD : D → List Ob → Prop} {sd : List SV} {N : List SV → List Ob → Prop} {R : D → List Ob → Prop} {B C : List SV → List Ob → Prop} {m1 m2 : MS}
theorem go_bind {k : α → M β} {Q : β → List Ob → Prop} (h : Wp f S fun a S' => Wp (k a) S' Q) : Wp (M.bind f k) S Q := wp_run.mpr (run_bind.mpr (h.run.mono fun _ _ h => h.run))
theorem go_pure {a : α} (h : P a S) : Wp (M.pure a) S P := wp_run.mpr h
theorem go_get {i : Nat} {d : D} (e : sd[i]? = some (.val d)) (h : PD d S) : Wp (getv i sd) S PD := by rw [getv_val e]; exact wp_run.mpr h
theorem go_ite {c : Prop} [Decidable c] {g : M α} (h : if c then Wp f S P else Wp g S P) : Wp (if c then f else g) S P := by split <;> rename_i c' <;> simpa only [c', if_true, if_false] using h
theorem go_noErr (h : Wp f S P) : Wp (noErr f) S P := wp_run.mpr (run_noErr.mpr h.run)
theorem go_val {r : α} (e : f = M.pure r) (h : P r S) : Wp f S P := by subst e; exact wp_run.mpr h
theorem go_use {P' : α → List Ob → Prop} (h : Wp f S P') (i : ∀ a S', P' a S' → P a S') : Wp f S P := h.mono i
theorem gs_next (h : N sd S) : Ws nextS sd S N R B C := ws_run.mpr h
theorem gs_seq (h : Ws m1 sd S (fun sd' S' => Ws m2 sd' S' N R B C) R B C) : Ws (seqS m1 m2) sd S N R B C := ws_run.mpr (runS_seq.mpr (h.run.mono (fun _ _ h => h.run) (fun _ _ h => h) (fun _ _ h => h) (fun _ _ h => h)))
theorem gs_ret {g : List SV → M D} (h : Wp (g sd) S R) : Ws (retS g) sd S N R B C := ws_run.mpr (runS_ret.mpr h.run)
theorem gs_retN (h : R .non S) : Ws (fun _ S => some (.ret .non, S)) sd S N R B C := ws_run.mpr h
theorem gs_brk (h : B sd S) : Ws (fun sd S => some (.brk sd, S)) sd S N R B C := ws_run.mpr h
theorem gs_cont (h : C sd S) : Ws (fun sd S => some (.cont sd, S)) sd S N R B C := ws_run.mpr h
theorem gs_asg {g : List SV → M D} {i : Nat} (h : Wp (g sd) S fun d S' => N (sd.set i (.val d)) S') : Ws (asgS g (setT i)) sd S N R B C := ws_run.mpr (runS_asg.mpr h.run)
theorem gs_tgt {g : List SV → M D} {t : Tgt} (h : Wp (g sd) S fun d S' => match t d sd S' with | some (sd2, S2) => N sd2 S2 | none => False) : Ws (asgS g t) sd S N R B C := ws_run.mpr (runS_tgt.mpr h.run)
theorem gs_par {g : List SV → M (List D)} {i j : Nat} (h : Wp (g sd) S fun ds S' => match ds with | [a, b] => N ((sd.set i (.val a)).set j (.val b)) S' | _ => False) : Ws (parS i j g) sd S N R B C := ws_run.mpr (runS_par.mpr h.run)
theorem gs_if {g : List SV → M Bool} (h : Wp (g sd) S fun k S' => if k = true then Ws m1 sd S' N R B C else Ws m2 sd S' N R B C) : Ws (exS g fun k => if k = true then m1 else m2) sd S N R B C := ws_run.mpr (runS_if.mpr (h.run.mono fun k _ h => by cases k <;> exact Ws.run h))
theorem gs_own {g : List SV → M (List D)} {i : Nat} (h : Wp (g sd) S fun ds S' => N (sd.set i (.own (.lst ds))) S') : Ws (ownS i g) sd S N R B C := ws_run.mpr (runS_own.mpr h.run)
theorem gs_for {g : List SV → M (List D)} {t : Tgt} {body : MS} (h : Wp (g sd) S fun ds S' => Ws (loopS t body ds) sd S' N R B C) : Ws (forS g t body) sd S N R B C := ws_run.mpr (runS_for.mpr (h.run.mono fun _ _ h => h.run))
theorem gs_expr {g : List SV → M α} (h : Wp (g sd) S fun _ S' => N sd S') : Ws (exS g fun _ => nextS) sd S N R B C := by
  refine ws_run.mpr ?_
  rw [runS_ex]
  exact h.run
theorem gs_app {g : List SV → M D} {i : Nat} {ds : List D} (e : sd[i]? = some (.own (.lst ds))) (l : ds.length < lim) (h : Wp (g sd) S fun d S' => N (sd.set i (.own (.lst (ds ++ [d])))) S') : Ws (appS i g) sd S N R B C := by
  have z : appS i g sd S = exS g (fun d sd S => some (.next (sd.set i (.own (.lst (ds ++ [d])))), S)) sd S := by
    unfold appS
    rw [e]
    simp only [l, if_true]
  refine ws_run.mpr ?_
  unfold RunS
  rw [z]
  exact (runS_ex (k := fun d sd S => some (.next (sd.set i (.own (.lst (ds ++ [d])))), S))).mpr h.run
theorem gs_frz {i : Nat} {o : Ob} (e : sd[i]? = some (.own o)) (h : N (sd.set i (.val (frzO o))) S) : Ws (frzS i) sd S N R B C := by
  refine ws_run.mpr ?_
  unfold RunS frzS
  rw [e]
  exact h
theorem go_fn {m n : Nat} {ms : MS} {ds : List D} (l : ds.length = m) (h : Ws ms (slots n (ds.map .val)) S (fun _ S' => PD .non S') PD (fun _ _ => False) (fun _ _ => False)) : Wp (runFn m n ms ds) S PD := wp_run.mpr (run_fn.mpr ⟨l, h.run⟩)
theorem gs_loop {t : Tgt} {body : MS} (J : List D → List SV → List Ob → Prop) (step : ∀ d ds sd S, J (d :: ds) sd S → ∃ sd1 S1, t d sd S = some (sd1, S1) ∧ Ws body sd1 S1 (fun sd2 S2 => J ds sd2 S2) R (fun sd2 S2 => N sd2 S2) (fun sd2 S2 => J ds sd2 S2))
    (fin : ∀ sd S, J [] sd S → N sd S) (ds : List D) (sd : List SV) (S : List Ob) (h : J ds sd S) : Ws (loopS t body ds) sd S N R B C :=
  ws_run.mpr (loop_rule J (fun d ds sd S h => let ⟨a, b, c, e⟩ := step d ds sd S h; ⟨a, b, c, e.run⟩) fin ds sd S h)
theorem ite_d {p : Prop} [Decidable p] {X Y : Prop} (h : p → X) (l : ¬p → Y) : if decide p = true then X else Y := by
  by_cases c : p
  · rw [if_pos (decide_eq_true c)]; exact h c
  · rw [if_neg (by simpa using c)]; exact l c
theorem ite_dt {p : Prop} [Decidable p] {X Y : Prop} (c : p) (h : X) : if decide p = true then X else Y := by
  rw [if_pos (decide_eq_true c)]; exact h
theorem ite_df {p : Prop} [Decidable p] {X Y : Prop} (c : ¬p) (h : Y) : if decide p = true then X else Y := by
  rw [if_neg (by simpa using c)]; exact h
theorem ite_t {X Y : Prop} (h : X) : if true = true then X else Y := h
theorem ite_f {X Y : Prop} (h : Y) : if false = true then X else Y := h
theorem ite_n {b : Bool} {X Y : Prop} (h : if b = true then Y else X) : if (!b) = true then X else Y := by
  cases b <;> exact h
theorem p_toB {b : Bool} {P : Bool → List Ob → Prop} (h : P b S) : Wp (toB (.bl b)) S P := wp_run.mpr h
theorem p_toI {i : Int} {P : Option Int → List Ob → Prop} (h : P (some i) S) : Wp (toI (.int i)) S P := wp_run.mpr h
theorem p_on1 {g : D → M D} {d : D} (h : Wp (g d) S PD) : Wp (on1 g [d]) S PD := h
theorem p_on2 {g : D → D → M D} {d e : D} (h : Wp (g d e) S PD) : Wp (on2 g [d, e]) S PD := h
theorem p_add {i j : Int} (h : PD (.int (i + j)) S) : Wp (dAdd (.int i) (.int j)) S PD := wp_run.mpr h
theorem p_sub {i j : Int} (h : PD (.int (i - j)) S) : Wp (dSub (.int i) (.int j)) S PD := wp_run.mpr h
theorem p_neg {i : Int} (h : PD (.int (-i)) S) : Wp (dNeg (.int i)) S PD := wp_run.mpr h
theorem p_abs {i : Int} (h : PD (.int (i.natAbs : Int)) S) : Wp (dAbs (.int i)) S PD := by
  have e : (if i < 0 then -i else i) = (i.natAbs : Int) := by split <;> omega
  refine wp_run.mpr ?_
  show PD (.int (if i < 0 then -i else i)) S
  rw [e]
  exact h
theorem p_mul {j k : Nat} {x y : Int} (hx : Bd j x) (hy : Bd k y) (c : j + k ≤ 134217728) (h : PD (.int (x * y)) S) : Wp (dMul (.int x) (.int y)) S PD := by
  rw [mul_int (mulOk_bd hx hy c)]
  exact wp_run.mpr h
theorem p_div {k : Nat} {x y : Int} (p : 0 < y) (hy : Bd k y) (c : k ≤ 9000) (h : PD (.int (x / y)) S) : Wp (dFdiv (.int x) (.int y)) S PD := by
  rw [fdiv_int (divOk_bd p hy c)]
  exact wp_run.mpr h
theorem p_mod {x y : Int} (p : 0 < y) (h : PD (.int (x % y)) S) : Wp (dMod (.int x) (.int y)) S PD := by
  rw [mod_int p]
  exact wp_run.mpr h
theorem p_cmp {p : Int → Int → Bool} {i j : Int} (h : PD (.bl (p i j)) S) : Wp (dCmpI p (.int i) (.int j)) S PD := wp_run.mpr h
theorem p_int {i : Int} (h : PD (.int i) S) : Wp (dInt (.int i)) S PD := wp_run.mpr h
theorem p_ixT {ds : List D} {i : Int} {d : D} (e : L2.atI ds i = some d) (h : PD d S) : Wp (dIx (.tup ds) (.int i)) S PD := by
  rw [ix_tup e]
  exact wp_run.mpr h
theorem p_ixL {ds : List D} {i : Int} {d : D} (e : L2.atI ds i = some d) (h : PD d S) : Wp (dIx (.lst ds) (.int i)) S PD := by
  rw [ix_lst e]
  exact wp_run.mpr h
theorem p_lenT {ds : List D} (h : PD (.int ds.length) S) : Wp (dLen (.tup ds)) S PD := wp_run.mpr h
theorem p_lenL {ds : List D} (h : PD (.int ds.length) S) : Wp (dLen (.lst ds)) S PD := wp_run.mpr h
theorem p_lenS {ds : List D} (h : PD (.int ds.length) S) : Wp (dLen (.scr ds)) S PD := wp_run.mpr h
theorem p_isN (h : PD (.bl true) S) : Wp (dIs false .non .non) S PD := wp_run.mpr h
theorem p_isntN (h : PD (.bl false) S) : Wp (dIs true .non .non) S PD := wp_run.mpr h
theorem p_eqI {i j : Int} (h : PD (.bl (decide (i = j))) S) : Wp (dEq false (.int i) (.int j)) S PD := wp_run.mpr h
theorem p_neI {i j : Int} (h : PD (.bl (!decide (i = j))) S) : Wp (dEq true (.int i) (.int j)) S PD := wp_run.mpr h
theorem p_eqS {x y : Str} (h : PD (.bl (decide (x = y))) S) : Wp (dEq false (.str x) (.str y)) S PD := wp_run.mpr h
theorem p_neS {x y : Str} (h : PD (.bl (!decide (x = y))) S) : Wp (dEq true (.str x) (.str y)) S PD := wp_run.mpr h
theorem p_seqT {ds : List D} {P : List D → List Ob → Prop} (h : P ds S) : Wp (seqOf (.tup ds)) S P := wp_run.mpr h
theorem p_seqL {ds : List D} {P : List D → List Ob → Prop} (h : P ds S) : Wp (seqOf (.lst ds)) S P := wp_run.mpr h
theorem p_ref {o : Ob} (h : PD (.ref S.length) (S ++ [o])) : Wp (newRef o) S PD := wp_run.mpr h
end
section
variable {S : List Ob} {PD : D → List Ob → Prop} {PL : List D → List Ob → Prop}
theorem p_min {i j : Int} (h : PD (.int (if j < i then j else i)) S) : Wp (dMin (.int i) (.int j)) S PD := wp_run.mpr h
theorem p_max {i j : Int} (h : PD (.int (if j > i then j else i)) S) : Wp (dMax (.int i) (.int j)) S PD := wp_run.mpr h
theorem p_rng1 {i : Int} (l : -4611686018427387904 ≤ i) (u : i < 4611686018427387904) (h : PL (rngD 0 i.toNat) S) : Wp (rng1 [.int i]) S PL := by
  refine wp_run.mpr ?_
  show Run (if -(2 ^ 62) ≤ i ∧ i < 2 ^ 62 then M.pure (rngD 0 i.toNat) else M.stuck) S PL
  rw [if_pos ⟨by omega, by omega⟩]
  exact h
theorem p_rng2 {i j : Int} (l : -4611686018427387904 ≤ i) (u : i < 4611686018427387904) (l2 : -4611686018427387904 ≤ j) (u2 : j < 4611686018427387904) (h : PL (rngD i (j - i).toNat) S) : Wp (rng2 [.int i, .int j]) S PL := by
  refine wp_run.mpr ?_
  show Run (if (-(2 ^ 62) ≤ i ∧ i < 2 ^ 62) ∧ -(2 ^ 62) ≤ j ∧ j < 2 ^ 62 then M.pure (rngD i (j - i).toNat) else M.stuck) S PL
  rw [if_pos ⟨⟨by omega, by omega⟩, by omega, by omega⟩]
  exact h
theorem rng_mem {lo : Int} {n : Nat} {d : D} (h : d ∈ rngD lo n) : ∃ i : Int, d = .int i ∧ lo ≤ i ∧ i < lo + n := by
  obtain ⟨m, hm, rfl⟩ := List.mem_map.mp h
  have := List.mem_range.mp hm
  exact ⟨_, rfl, by omega, by omega⟩
theorem rng_len {lo : Int} {n : Nat} : (rngD lo n).length = n := by
  unfold rngD
  rw [List.length_map, List.length_range]
theorem rng_cons {lo : Int} {n : Nat} : rngD lo (n + 1) = .int lo :: rngD (lo + 1) n := by
  unfold rngD
  rw [List.range_succ_eq_map, List.map_cons, List.map_map]
  congr 1
  · simp
  · refine List.map_congr_left fun i _ => ?_
    show D.int (lo + ((i + 1 : Nat) : Int)) = _
    congr 1
    omega
end
theorem go_lc {fi : List SV → M (List D)} {vs : List Nat} {t : TgP} {tt : List SV → M Bool} {fe : List SV → M D} {sd : List SV} {S : List Ob} {P : D → List Ob → Prop}
    (h : Wp (fi sd) S fun ds S' => Wp (compS t tt fe (wipeD sd vs) ds []) S' fun acc S2 => P (.lst acc) S2) : Wp (lcS fi vs t tt fe sd) S P :=
  go_bind (h.mono fun _ _ h => go_bind (h.mono fun _ _ h => go_pure h))
theorem go_comp {t : TgP} {tt : List SV → M Bool} {fe : List SV → M D} {sdw : List SV} {P : List D → List Ob → Prop} (J : List D → List D → List Ob → Prop)
    (step : ∀ d ds acc S, J (d :: ds) acc S → ∃ sd1, t d sdw = some sd1 ∧ acc.length < lim ∧ Wp (tt sd1) S fun b S1 => if b = true then Wp (fe sd1) S1 fun y S2 => J ds (acc ++ [y]) S2 else J ds acc S1)
    (fin : ∀ acc S, J [] acc S → P acc S) : ∀ ds acc S, J ds acc S → Wp (compS t tt fe sdw ds acc) S P
  | [], acc, S, h => go_pure (fin acc S h)
  | d :: ds, acc, S, h => by
    obtain ⟨sd1, e, l, hb⟩ := step d ds acc S h
    unfold compS
    rw [e]
    refine go_bind (go_noErr (hb.mono fun b S1 hc => ?_))
    cases b with
    | false => exact go_comp J step fin ds acc S1 hc
    | true =>
      refine go_bind (go_noErr (Wp.mono hc fun y S2 hy => ?_))
      rw [if_pos l]
      exact go_comp J step fin ds _ S2 hy
theorem all_true {acc : List D} (h : ∀ a ∈ acc, a = .bl true) : dAll (.lst acc) = M.pure (.bl true) := by
  have : ∀ acc : List D, (∀ a ∈ acc, a = .bl true) → ∃ bs, bls acc = some bs ∧ bs.all id = true := by
    intro acc
    induction acc with
    | nil => exact fun _ => ⟨[], rfl, rfl⟩
    | cons a acc ih =>
      intro h
      obtain ⟨bs, e1, e2⟩ := ih fun x hx => h x (List.mem_cons_of_mem _ hx)
      have ea := h a List.mem_cons_self
      subst ea
      refine ⟨true :: bs, ?_, ?_⟩
      · unfold bls
        rw [e1]
        rfl
      · rw [List.all_cons, e2]
        rfl
  obtain ⟨bs, e1, e2⟩ := this acc h
  unfold dAll
  simp only [e1, e2]
end Ev
local macro_rules | `(tactic| regstrif_fact) => `(tactic| first
  | assumption
  | ((with_reducible show Ev.Bd _ (_ * _)); refine Ev.Bd.mul (by regstrif_fact) (by regstrif_fact))
  | ((with_reducible show Ev.Bd _ (_ + _)); refine Ev.Bd.add (by regstrif_fact) (by regstrif_fact))
  | ((with_reducible show Ev.Bd _ (_ - _)); refine Ev.Bd.sub (by regstrif_fact) (by regstrif_fact))
  | ((with_reducible show Ev.Bd _ (-_)); refine Ev.Bd.neg (by regstrif_fact))
  | ((with_reducible show Ev.Bd _ (Int.natAbs _ : Int)); refine Ev.Bd.abs (by regstrif_fact))
  | ((with_reducible show Ev.Bd _ (_ % _)); refine Ev.Bd.emod (by regstrif_fact) (by first | assumption | omega))
  | ((with_reducible show Ev.Bd _ (_ / _)); refine Ev.Bd.ediv (by regstrif_fact))
  | exact Ev.Bd.of64 (by omega) (by omega)
  | exact Ev.Bd.of128 (by omega) (by omega))
local macro_rules | `(tactic| regstrif_gather) => `(tactic| first
  | with_reducible refine Ev.go_bind ?_
  | with_reducible refine Ev.go_pure ?_
  | ((with_reducible show Ev.Wp (Ev.getv _ _) _ _); refine Ev.go_get (by exact rfl) ?_)
  | with_reducible (first
    | refine Ev.gs_seq ?_ | refine Ev.gs_next ?_ | refine Ev.gs_asg ?_ | refine Ev.gs_if ?_ | refine Ev.gs_ret ?_ | refine Ev.gs_for ?_ | refine Ev.gs_par ?_ | refine Ev.gs_own ?_ | refine Ev.gs_expr ?_
    | refine Ev.p_toB ?_ | refine Ev.p_on1 ?_ | refine Ev.p_on2 ?_ | refine Ev.p_cmp ?_ | refine Ev.p_add ?_ | refine Ev.p_sub ?_
    | refine Ev.go_lc ?_ | refine Ev.go_ite ?_ | refine Ev.go_noErr ?_ | refine Ev.ite_t ?_ | refine Ev.ite_f ?_ | refine Ev.ite_n ?_
    | refine Ev.p_eqI ?_ | refine Ev.p_neI ?_ | refine Ev.p_eqS ?_ | refine Ev.p_neS ?_
    | refine Ev.p_neg ?_ | refine Ev.p_abs ?_ | refine Ev.p_int ?_ | refine Ev.p_toI ?_
    | refine Ev.p_lenT ?_ | refine Ev.p_lenL ?_ | refine Ev.p_lenS ?_ | refine Ev.p_isN ?_ | refine Ev.p_isntN ?_ | refine Ev.p_seqT ?_ | refine Ev.p_seqL ?_
    | refine Ev.p_min ?_ | refine Ev.p_max ?_ | refine Ev.p_ref ?_ | refine Ev.gs_retN ?_ | refine Ev.gs_brk ?_ | refine Ev.gs_cont ?_)
  | ((with_reducible refine Ev.p_mod ?_ ?_); (· first | assumption | omega))
  | ((with_reducible show Ev.Wp (Ev.dMul (.int _) (.int _)) _ _); refine Ev.p_mul (by regstrif_fact) (by regstrif_fact) (by first | decide | omega) ?_)
  | ((with_reducible show Ev.Wp (Ev.dFdiv (.int _) (.int _)) _ _); refine Ev.p_div (by first | assumption | omega) (by regstrif_fact) (by first | decide | omega) ?_)
  | ((with_reducible show Ev.Wp (Ev.dIx (.tup _) (.int _)) _ _); refine Ev.p_ixT (by exact rfl) ?_)
  | ((with_reducible show Ev.Wp (Ev.dIx (.lst _) (.int _)) _ _); refine Ev.p_ixL (by exact rfl) ?_)
  | ((with_reducible show Ev.Ws (Ev.appS _ _) _ _ _ _ _ _); refine Ev.gs_app (by exact rfl) (by first | decide | omega) ?_)
  | ((with_reducible show Ev.Ws (Ev.frzS _) _ _ _ _ _ _); refine Ev.gs_frz (by exact rfl) ?_)
  | ((with_reducible refine Ev.p_rng1 ?_ ?_ ?_); (· omega); (· omega))
  | ((with_reducible refine Ev.p_rng2 ?_ ?_ ?_ ?_ ?_); (· omega); (· omega); (· omega); (· omega))
  | ((with_reducible refine Ev.ite_dt ?_ ?_); (· first | assumption | omega))
  | ((with_reducible refine Ev.ite_df ?_ ?_); (· first | assumption | omega))
  | regstrif_slice
  | with_reducible refine Ev.gs_tgt ?_)
local macro_rules | `(tactic| regstrif_slice) => `(tactic| fail "no step is ev_known")
set_option maxRecDepth 100000
set_option maxHeartbeats 2000000
namespace Ev
open PySem L2
@[irreducible] def Shw (k n : Nat) (d : D) : Prop := ∃ p, toP d = some p ∧ p.showable = true ∧ p.canLay0 = true ∧ p.depth ≤ k ∧ p.shown.length ≤ n
@[irreducible] def ShwL (k n : Nat) (ds : List D) : Prop := ∃ ps, toPs ds = some ps ∧ PyData.showableAll ps = true ∧ PyData.canLayAll0 ps = true ∧ PyData.depthAll ps ≤ k ∧ ((PyData.shownAll ps).map (·.length)).sum + 2 * ps.length ≤ n
theorem Shw.mono {k n k' n' : Nat} {d : D} (h : Shw k n d) (hk : k ≤ k') (hn : n ≤ n') : Shw k' n' d := by
  unfold Shw at *
  obtain ⟨p, a, b, c, e, f⟩ := h
  exact ⟨p, a, b, c, by omega, by omega⟩
theorem shw_non : Shw 0 5 .non := by
  unfold Shw
  exact ⟨_, rfl, rfl, rfl, Nat.le_refl _, by decide⟩
theorem shw_bl (b : Bool) : Shw 0 5 (.bl b) := by
  unfold Shw
  exact ⟨_, rfl, rfl, rfl, Nat.le_refl _, by cases b <;> decide⟩
theorem shw_int {j : Nat} {i : Int} (h : Bd j i) (l : j ≤ 1920) : Shw 0 1921 (.int i) := by
  have a := (h.mono l).nat
  have b : i.natAbs.log2 < 1920 := by
    by_cases z : i.natAbs = 0
    · rw [z]
      decide +kernel
    · exact (Nat.log2_lt z).mpr a
  have c := PyProof.Rows.int_text_len_1921 b
  unfold Shw
  refine ⟨_, rfl, decide_eq_true b, rfl, Nat.le_refl _, ?_⟩
  show (Str.ofString (toString i)).length ≤ 1921
  omega
theorem shl_nil : ShwL 0 0 [] := by
  unfold ShwL
  exact ⟨[], rfl, rfl, rfl, Nat.le_refl _, Nat.le_refl _⟩
theorem shl_cons {k n k' n' : Nat} {d : D} {ds : List D} (h : Shw k n d) (l : ShwL k' n' ds) : ShwL (k + k') (n + 2 + n') (d :: ds) := by
  unfold Shw at h
  unfold ShwL at *
  obtain ⟨p, a, b, c, e, f⟩ := h
  obtain ⟨ps, a', b', c', e', f'⟩ := l
  refine ⟨p :: ps, ?_, ?_, ?_, ?_, ?_⟩
  · unfold toPs
    rw [a, a']
  · unfold PyData.showableAll
    rw [b, b']
    rfl
  · unfold PyData.canLayAll0
    rw [c, c']
    rfl
  · unfold PyData.depthAll
    omega
  · unfold PyData.shownAll
    simp only [List.map_cons, List.sum_cons, List.length_cons]
    omega
theorem shl_all {k n : Nat} : ∀ {ds : List D}, (∀ d ∈ ds, Shw k n d) → ShwL k (ds.length * (n + 2)) ds
  | [], _ => by
    have h := shl_nil
    unfold ShwL at *
    obtain ⟨ps, a', b', c', e', f'⟩ := h
    exact ⟨ps, a', b', c', by omega, by omega⟩
  | d :: ds, h => by
    have h1 := h d List.mem_cons_self
    have h2 := shl_all fun x hx => h x (List.mem_cons_of_mem _ hx)
    unfold Shw at h1
    unfold ShwL at *
    obtain ⟨p, a, b, c, e, f⟩ := h1
    obtain ⟨ps, a', b', c', e', f'⟩ := h2
    refine ⟨p :: ps, ?_, ?_, ?_, ?_, ?_⟩
    · unfold toPs
      rw [a, a']
    · unfold PyData.showableAll
      rw [b, b']
      rfl
    · unfold PyData.canLayAll0
      rw [c, c']
      rfl
    · unfold PyData.depthAll
      omega
    · unfold PyData.shownAll
      simp only [List.map_cons, List.sum_cons, List.length_cons, Nat.succ_mul]
      omega
theorem len_shownAll : ∀ ps : List PyData, (PyData.shownAll ps).length = ps.length
  | [] => rfl
  | p :: ps => by
    unfold PyData.shownAll
    rw [List.length_cons, List.length_cons, len_shownAll ps]
theorem shw_tup {k n : Nat} {ds : List D} (h : ShwL k n ds) : Shw (k + 1) (n + 3) (.tup ds) := by
  unfold ShwL at h
  unfold Shw
  obtain ⟨ps, a, b, c, e, f⟩ := h
  refine ⟨.tuple ps, by unfold toP; rw [a]; rfl, by unfold PyData.showable; exact b, by unfold PyData.canLay0; exact c, by unfold PyData.depth; omega, ?_⟩
  have := tupleText_len_le (PyData.shownAll ps)
  rw [len_shownAll] at this
  show (tupleText (PyData.shownAll ps)).length ≤ _
  omega
theorem shw_lst {k n : Nat} {ds : List D} (h : ShwL k n ds) : Shw (k + 1) (n + 3) (.lst ds) := by
  unfold ShwL at h
  unfold Shw
  obtain ⟨ps, a, b, c, e, f⟩ := h
  refine ⟨.list ps, by unfold toP; rw [a]; rfl, by unfold PyData.showable; exact b, by unfold PyData.canLay0; exact c, by unfold PyData.depth; omega, ?_⟩
  have := listText_len_le (PyData.shownAll ps)
  rw [len_shownAll] at this
  show (listText (PyData.shownAll ps)).length ≤ _
  omega
@[irreducible] def txtD (d : D) : Str := match toP d with
  | some p => p.shown
  | none => ""
theorem repr_get {k n : Nat} {d : D} (h : Shw k n d) (hk : k ≤ 60) (hn : n ≤ lim) : dRepr d = M.pure (.str (txtD d)) := by
  unfold Shw at h
  obtain ⟨p, a, b, c, e, f⟩ := h
  rw [dRepr_P (by rw [a]; exact fun z => nomatch z)]
  unfold dReprP txtD
  rw [a]
  have g : reprOk p = true := by
    unfold reprOk
    rw [b, PyData.hasDict_of_canLay p c]
    simp only [Bool.not_false, Bool.and_true, Bool.true_and, Bool.and_eq_true, decide_eq_true_eq]
    omega
  simp only [g, if_true]
section
variable {S : List Ob} {PD : D → List Ob → Prop}
theorem p_repr {k n : Nat} {d : D} (h : Shw k n d) (hk : k ≤ 60) (hn : n ≤ lim) (q : PD (.str (txtD d)) S) : Wp (dRepr d) S PD := by
  rw [repr_get h hk hn]
  exact go_pure q
theorem p_eqSS {x : Str} (h : PD (.bl true) S) : Wp (dEq false (.str x) (.str x)) S PD := by
  refine p_eqS ?_
  rw [decide_eq_true rfl]
  exact h
theorem p_neSS {x : Str} (h : PD (.bl false) S) : Wp (dEq true (.str x) (.str x)) S PD := by
  refine p_neS ?_
  rw [decide_eq_true rfl]
  exact h
theorem p_eqB {x y : Bool} (h : PD (.bl (decide (x = y))) S) : Wp (dEq false (.bl x) (.bl y)) S PD := wp_run.mpr h
theorem p_neB {x y : Bool} (h : PD (.bl (!decide (x = y))) S) : Wp (dEq true (.bl x) (.bl y)) S PD := wp_run.mpr h
end
theorem cut_take {α : Type} {xs : List α} {j : Int} (h0 : 0 ≤ j) : cutD xs none (some j) = xs.take j.toNat := by
  unfold cutD HT.sIx
  simp only [show ¬(j < 0) by omega, if_false, List.drop_zero, Nat.sub_zero]
  show List.take (min j.toNat xs.length) xs = _
  rw [List.take_eq_take_iff]
  omega
theorem cut_drop {α : Type} {xs : List α} {j : Int} (h0 : 0 ≤ j) : cutD xs (some j) none = xs.drop j.toNat := by
  unfold cutD HT.sIx
  simp only [show ¬(j < 0) by omega, if_false]
  show List.take (xs.length - min j.toNat xs.length) (xs.drop (min j.toNat xs.length)) = _
  by_cases l : j.toNat ≤ xs.length
  · rw [Nat.min_eq_left l]
    exact List.take_of_length_le (by rw [List.length_drop]; omega)
  · rw [Nat.min_eq_right (by omega), List.drop_of_length_le (Nat.le_refl _), List.drop_of_length_le (by omega)]
    simp
section
variable {S : List Ob} {PD : D → List Ob → Prop}
theorem p_take {ds : List D} {j : Int} (h0 : 0 ≤ j) (h : PD (.lst (ds.take j.toNat)) S) : Wp (dSl (.lst ds) none (some j)) S PD := by
  show Wp (M.pure (D.lst (cutD ds none (some j)))) S PD
  rw [cut_take h0]
  exact go_pure h
theorem p_drop {ds : List D} {j : Int} (h0 : 0 ≤ j) (h : PD (.lst (ds.drop j.toNat)) S) : Wp (dSl (.lst ds) (some j) none) S PD := by
  show Wp (M.pure (D.lst (cutD ds (some j) none))) S PD
  rw [cut_drop h0]
  exact go_pure h
theorem p_takeT {ds : List D} {j : Int} (h0 : 0 ≤ j) (h : PD (.tup (ds.take j.toNat)) S) : Wp (dSl (.tup ds) none (some j)) S PD := by
  show Wp (M.pure (D.tup (cutD ds none (some j)))) S PD
  rw [cut_take h0]
  exact go_pure h
theorem p_dropT {ds : List D} {j : Int} (h0 : 0 ≤ j) (h : PD (.tup (ds.drop j.toNat)) S) : Wp (dSl (.tup ds) (some j) none) S PD := by
  show Wp (M.pure (D.tup (cutD ds (some j) none))) S PD
  rw [cut_drop h0]
  exact go_pure h
theorem p_revL {ds : List D} (h : PD (.lst ds.reverse) S) : Wp (dRev (.lst ds)) S PD := wp_run.mpr h
theorem p_addL {as bs : List D} (l : as.length + bs.length ≤ lim) (h : PD (.lst (as ++ bs)) S) : Wp (dAdd (.lst as) (.lst bs)) S PD := by
  show Wp (if as.length + bs.length ≤ lim then M.pure (D.lst (as ++ bs)) else M.stuck) S PD
  rw [if_pos l]
  exact go_pure h
theorem p_addT {as bs : List D} (l : as.length + bs.length ≤ lim) (h : PD (.tup (as ++ bs)) S) : Wp (dAdd (.tup as) (.tup bs)) S PD := by
  show Wp (if as.length + bs.length ≤ lim then M.pure (D.tup (as ++ bs)) else M.stuck) S PD
  rw [if_pos l]
  exact go_pure h
theorem p_isT {ds : List D} {neg : Bool} (h : PD (.bl neg) S) : Wp (dIs neg (.tup ds) .non) S PD := by
  cases neg <;> exact wp_run.mpr h
theorem p_isO {c : Nat} {ds : List D} {neg : Bool} (h : PD (.bl neg) S) : Wp (dIs neg (.ins c ds) .non) S PD := by
  cases neg <;> exact wp_run.mpr h
theorem p_isI {i : Int} {neg : Bool} (h : PD (.bl neg) S) : Wp (dIs neg (.int i) .non) S PD := by
  cases neg <;> exact wp_run.mpr h
end
end Ev
local macro_rules | `(tactic| nest_fact) => `(tactic| first
  | assumption
  | exact Ev.shw_non
  | exact Ev.shw_bl _
  | exact Ev.shw_int (by regstrif_fact) (by first | decide | omega)
  | ((with_reducible apply Ev.shw_tup); nest_fact)
  | ((with_reducible apply Ev.shw_lst); nest_fact)
  | with_reducible exact Ev.shl_nil
  | ((with_reducible apply Ev.shl_cons); (· nest_fact); (· nest_fact)))
local macro_rules | `(tactic| regstrif_gather) => `(tactic| first
  | with_reducible refine Ev.p_eqSS ?_
  | with_reducible refine Ev.p_neSS ?_
  | with_reducible refine Ev.p_eqB ?_
  | with_reducible refine Ev.p_neB ?_
  | with_reducible refine Ev.p_isT ?_
  | with_reducible refine Ev.p_isO ?_
  | with_reducible refine Ev.p_isI ?_
  | with_reducible refine Ev.p_revL ?_
  | ((with_reducible show Ev.Wp (Ev.dRepr _) _ _); refine Ev.p_repr (by nest_fact) (by first | decide | omega) (by first | decide | omega) ?_)
  | ((with_reducible refine Ev.p_take ?_ ?_); (· omega))
  | ((with_reducible refine Ev.p_drop ?_ ?_); (· omega))
  | ((with_reducible refine Ev.p_takeT ?_ ?_); (· omega))
  | ((with_reducible refine Ev.p_dropT ?_ ?_); (· omega)))
set_option maxRecDepth 100000
set_option maxHeartbeats 2000000
namespace Ev
open PySem L2
@[irreducible] def Tg (t : Tgt) (d : D) (sd : List SV) (S : List Ob) (N : List SV → List Ob → Prop) : Prop := ∃ sd2 S2, t d sd S = some (sd2, S2) ∧ N sd2 S2
@[irreducible] def TgL (t : Tgts) (ds : List D) (sd : List SV) (S : List Ob) (N : List SV → List Ob → Prop) : Prop := ∃ sd2 S2, t ds sd S = some (sd2, S2) ∧ N sd2 S2
section
variable {S : List Ob} {sd : List SV} {N : List SV → List Ob → Prop} {R : D → List Ob → Prop} {B C : List SV → List Ob → Prop} {d : D} {ds : List D}
theorem gs_tg {g : List SV → M D} {t : Tgt} (h : Wp (g sd) S fun d S' => Tg t d sd S' N) : Ws (asgS g t) sd S N R B C := by
  refine gs_tgt (h.mono fun d S' q => ?_)
  unfold Tg at q
  obtain ⟨sd2, S2, e, q⟩ := q
  rw [e]
  exact q
theorem tg_set {i : Nat} (h : N (sd.set i (.val d)) S) : Tg (setT i) d sd S N := by
  unfold Tg
  exact ⟨_, _, rfl, h⟩
theorem tg_tup {k : Nat} {t : Tgts} (l : ds.length = k) (h : TgL t ds sd S N) : Tg (tupT k t) (.tup ds) sd S N := by
  unfold TgL at h
  unfold Tg
  obtain ⟨sd2, S2, e, q⟩ := h
  refine ⟨sd2, S2, ?_, q⟩
  show (if ds.length = k then t ds sd S else none) = _
  rw [if_pos l]
  exact e
theorem tg_lst {k : Nat} {t : Tgts} (l : ds.length = k) (h : TgL t ds sd S N) : Tg (tupT k t) (.lst ds) sd S N := by
  unfold TgL at h
  unfold Tg
  obtain ⟨sd2, S2, e, q⟩ := h
  refine ⟨sd2, S2, ?_, q⟩
  show (if ds.length = k then t ds sd S else none) = _
  rw [if_pos l]
  exact e
theorem tl_cons {t : Tgt} {ts : Tgts} (h : Tg t d sd S fun sd2 S2 => TgL ts ds sd2 S2 N) : TgL (consT t ts) (d :: ds) sd S N := by
  unfold Tg at h
  obtain ⟨sd1, S1, e, q⟩ := h
  unfold TgL at q ⊢
  obtain ⟨sd2, S2, e2, q⟩ := q
  refine ⟨sd2, S2, ?_, q⟩
  show (match t d sd S with | none => none | some (sd1, S1) => ts ds sd1 S1) = _
  rw [e]
  exact e2
theorem tl_nil (h : N sd S) : TgL (fun _ sd S => some (sd, S)) [] sd S N := by
  unfold TgL
  exact ⟨_, _, rfl, h⟩
theorem Tg.ex {t : Tgt} (h : Tg t d sd S N) : ∃ sd2 S2, t d sd S = some (sd2, S2) ∧ N sd2 S2 := by
  unfold Tg at h
  exact h
theorem gs_frzL {i : Nat} (e : sd[i]? = some (.own (.lst ds))) (h : N (sd.set i (.val (.lst ds))) S) : Ws (frzS i) sd S N R B C := gs_frz e h
theorem ws_sd {m : MS} {sd' : List SV} (e : sd = sd') (h : Ws m sd' S N R B C) : Ws m sd S N R B C := e ▸ h
theorem tl_sd {t : Tgts} {sd' : List SV} (e : sd = sd') (h : TgL t ds sd' S N) : TgL t ds sd S N := e ▸ h
end
end Ev
local macro_rules | `(tactic| regstrif_gather) => `(tactic| first
  | ((with_reducible show Ev.Ws _ (List.set _ _ _) _ _ _ _ _); apply Ev.ws_sd; (· first | (simp only [List.set_cons_zero, List.set_cons_succ]; done) | (simp only [List.set_cons_zero, List.set_cons_succ]; exact rfl)))
  | ((with_reducible show Ev.TgL _ _ (List.set _ _ _) _ _); apply Ev.tl_sd; (· first | (simp only [List.set_cons_zero, List.set_cons_succ]; done) | (simp only [List.set_cons_zero, List.set_cons_succ]; exact rfl)))
  | with_reducible refine Ev.gs_seq ?_
  | with_reducible refine Ev.gs_asg ?_
  | with_reducible refine Ev.tg_set ?_
  | ((with_reducible refine Ev.tg_tup ?_ ?_); (· exact rfl))
  | with_reducible refine Ev.tl_cons ?_
  | with_reducible refine Ev.tl_nil ?_
  | ((with_reducible refine Ev.tg_lst ?_ ?_); (· exact rfl))
  | ((with_reducible show Ev.Ws (Ev.asgS _ (Ev.tupT _ _)) _ _ _ _ _ _); refine Ev.gs_tg ?_)
  | ((with_reducible show Ev.Ws (Ev.appS _ _) _ _ _ _ _ _); refine Ev.gs_app (by exact rfl) (by simp only [List.length_append, List.length_cons, List.length_nil, List.length_map, Nat.zero_add, Nat.add_zero]; first | decide | (unfold Ev.lim; omega)) ?_)
  | ((with_reducible refine Ev.p_addL ?_ ?_); (· simp only [List.length_append, List.length_cons, List.length_nil, List.length_map, List.length_take, List.length_drop, List.length_reverse]; unfold Ev.lim; omega))
  | ((with_reducible refine Ev.p_addT ?_ ?_); (· simp only [List.length_append, List.length_cons, List.length_nil, List.length_map, List.length_take, List.length_drop, List.length_reverse]; unfold Ev.lim; omega))
  | ((with_reducible refine Ev.ite_dt ?_ ?_); (· first | with_reducible rfl | decide))
  | ((with_reducible refine Ev.ite_df ?_ ?_); (· decide))
  | ((with_reducible show Ev.Ws (Ev.frzS _) _ _ _ _ _ _); refine Ev.gs_frzL (by exact rfl) ?_))
set_option maxRecDepth 100000
set_option maxHeartbeats 2000000
namespace Ev
open PySem L2
theorem step_rev {α : Type} (xs : List α) : Ev.stepL (-1) xs = xs.reverse := by
  have n : stepNo xs.length (-1) = xs.length := by
    unfold stepNo stepLo Builtin.Slice.slicePlaces
    simp only [show (-1 : Int) < 0 by decide, if_true]
    simp
    omega
  unfold Ev.stepL
  rw [n]
  have lo : stepLo xs.length (-1) = (xs.length : Int) - 1 := by unfold stepLo; simp
  rw [lo]
  have : ∀ k, k ≤ xs.length → ((List.range k).filterMap fun (m : Nat) => xs[((xs.length : Int) - 1 + (m : Int) * (-1)).toNat]?) = (xs.drop (xs.length - k)).reverse := by
    intro k
    induction k with
    | zero => intro _; simp
    | succ k ih =>
      intro h
      have hk : xs.length - (k + 1) < xs.length := by omega
      have e : ((xs.length : Int) - 1 + (k : Int) * (-1)).toNat = xs.length - (k + 1) := by omega
      rw [List.range_succ, List.filterMap_append, ih (by omega), List.drop_eq_getElem_cons hk, List.reverse_cons]
      have e2 : xs.length - (k + 1) + 1 = xs.length - k := by omega
      rw [e2]
      congr 1
      simp only [List.filterMap_cons, List.filterMap_nil, e, List.getElem?_eq_getElem hk]
  have := this xs.length (Nat.le_refl _)
  simpa using this
theorem dStep_rev (ds : List D) : dStep (-1) (.tup ds) = M.pure (.tup ds.reverse) := by
  show M.pure (D.tup (Ev.stepL (-1) ds)) = _
  rw [step_rev]
section
variable {S : List Ob} {PD : D → List Ob → Prop}
theorem p_lenT0 (h : PD (.int 0) S) : Wp (dLen (.tup [])) S PD := wp_run.mpr h
theorem p_lenT1 {x0 : D} (h : PD (.int 1) S) : Wp (dLen (.tup [x0])) S PD := wp_run.mpr h
theorem p_lenT2 {x0 x1 : D} (h : PD (.int 2) S) : Wp (dLen (.tup [x0, x1])) S PD := wp_run.mpr h
theorem p_lenT3 {x0 x1 x2 : D} (h : PD (.int 3) S) : Wp (dLen (.tup [x0, x1, x2])) S PD := wp_run.mpr h
theorem p_lenT4 {x0 x1 x2 x3 : D} (h : PD (.int 4) S) : Wp (dLen (.tup [x0, x1, x2, x3])) S PD := wp_run.mpr h
theorem p_lenT5 {x0 x1 x2 x3 x4 : D} (h : PD (.int 5) S) : Wp (dLen (.tup [x0, x1, x2, x3, x4])) S PD := wp_run.mpr h
theorem p_lenL0 (h : PD (.int 0) S) : Wp (dLen (.lst [])) S PD := wp_run.mpr h
theorem p_lenL1 {x0 : D} (h : PD (.int 1) S) : Wp (dLen (.lst [x0])) S PD := wp_run.mpr h
theorem p_lenL2 {x0 x1 : D} (h : PD (.int 2) S) : Wp (dLen (.lst [x0, x1])) S PD := wp_run.mpr h
theorem p_lenL3 {x0 x1 x2 : D} (h : PD (.int 3) S) : Wp (dLen (.lst [x0, x1, x2])) S PD := wp_run.mpr h
theorem p_lenL4 {x0 x1 x2 x3 : D} (h : PD (.int 4) S) : Wp (dLen (.lst [x0, x1, x2, x3])) S PD := wp_run.mpr h
theorem p_lenL5 {x0 x1 x2 x3 x4 : D} (h : PD (.int 5) S) : Wp (dLen (.lst [x0, x1, x2, x3, x4])) S PD := wp_run.mpr h
theorem p_revT {ds : List D} (h : PD (.tup ds.reverse) S) : Wp (dStep (-1) (.tup ds)) S PD := by
  rw [dStep_rev]
  exact go_pure h
end
end Ev
local macro_rules | `(tactic| regstrif_gather) => `(tactic| first
  | with_reducible refine Ev.p_lenT0 ?_
  | with_reducible refine Ev.p_lenT1 ?_
  | with_reducible refine Ev.p_lenT2 ?_
  | with_reducible refine Ev.p_lenT3 ?_
  | with_reducible refine Ev.p_lenT4 ?_
  | with_reducible refine Ev.p_lenT5 ?_
  | with_reducible refine Ev.p_lenL0 ?_
  | with_reducible refine Ev.p_lenL1 ?_
  | with_reducible refine Ev.p_lenL2 ?_
  | with_reducible refine Ev.p_lenL3 ?_
  | with_reducible refine Ev.p_lenL4 ?_
  | with_reducible refine Ev.p_lenL5 ?_
  | with_reducible refine Ev.p_revT ?_)
set_option maxRecDepth 100000
set_option maxHeartbeats 2000000
namespace Ev
open PySem L2
end Ev
set_option maxRecDepth 100000
set_option maxHeartbeats 2000000
namespace Ev
open PySem L2
end Ev
set_option maxRecDepth 100000
set_option maxHeartbeats 2000000
namespace Ev
open PySem PySem.Spec PyProof.Rows L2
end Ev
set_option maxRecDepth 100000
set_option maxHeartbeats 2000000
namespace Ev
open PySem PySem.Spec PyProof.Rows L2
end Ev
set_option maxRecDepth 100000
set_option maxHeartbeats 2000000
namespace Ev
open PySem PySem.Spec PyProof.Rows L2
end Ev
set_option maxRecDepth 100000
set_option maxHeartbeats 2000000
namespace Ev
open PySem PySem.Spec PyProof.Rows L2
def Txt (n : Nat) (m : M D) : Prop := ∃ y : Str, m = M.pure (.str y) ∧ y.length ≤ n
end Ev
set_option maxRecDepth 100000
set_option maxHeartbeats 2000000
namespace Ev
open PySem PySem.Spec PyProof.Rows L2
end Ev
set_option maxRecDepth 100000
set_option maxHeartbeats 2000000
namespace Ev
open PySem PySem.Spec PyProof.Rows L2
end Ev
set_option maxRecDepth 100000
set_option maxHeartbeats 2000000
namespace Ev
open PySem PySem.Spec PyProof.Rows L2
section
variable {P : Program} {w : World} {K : PySem.W.Frag} {mg : Str → Option Value} {base : Heap} {j k : Nat} {f : Addr} {fd : FuncData} {N ps : List Str}
def DecR (fr : List Env) (P : Program) (w : World) (H : Hp) (s : Shared) (Q : Hp → Prop) (r : Result) (s' : Shared) : Prop :=
  r = .ok (.ret .notImplemented) ∧ CE fr P w H s (fun v H' => v = .non ∧ Q H') .none s'
def DecS (P : Program) (w : World) (K : PySem.W.Frag) (mg : Str → Option Value) (base : Heap) (G : Sg) (k m n : Nat) (f : Addr) (fc : List SV → M Bool) : Prop :=
  ∀ (A : Around) (fr : List Env) (s : Shared) (wd : Wd) (us : List Value) (vs : List V) (ds : List D) (S S' : List Ob) (Q : Hp → Prop),
    Rm G.gd k A → Env0 P w K mg base A fr s wd.H → Vals vs us → RepS G wd S → RepVs G wd ds vs → ds.length = m → fc (slots n (ds.map .val)) S = some (.ok true, S') → (∀ w', Ext wd w' → RepS G w' S' → Q w'.H) →
    codeAny (model P w) A (.call (.ref f) ⟨us, []⟩) (DecR fr P w wd.H s Q) s
end
end Ev
set_option maxRecDepth 100000
set_option maxHeartbeats 2000000
namespace PySem.W
open PySem PyProof.Rows
end PySem.W
set_option maxRecDepth 100000
set_option maxHeartbeats 2000000
namespace PySem.W
open PyProof.Rows
open PySem.AutoSeq1 (wpAny_loadPart')
end PySem.W
namespace PySem.W
open PyProof.Rows L2
def KindV (K : Frag) (H : Hp) (v : V) (T : String) : Prop :=
  (v = .non ∧ T = "NoneType") ∨ (∃ b, v = .bl b ∧ T = "bool") ∨ (∃ i, v = .int i ∧ T = "int") ∨ (∃ x, v = .str x ∧ T = "str") ∨ (∃ a xs, v = .ref a ∧ SqT K H a xs ∧ T = "tuple") ∨ (∃ a xs, v = .ref a ∧ SqL K H a xs ∧ T = "list")
section
variable {X : Cx} {pins : List (Addr × Obj)} {σ : L2.St} {H : Hp} {s : Shared} {A : Around} {E : Value → Shared → Prop} {Q : Option Value → Shared → Prop} {v : V} {u : Value} {T : String} {l C dx : Addr}
theorem KindV.type (I : Inv X pins σ H s) (k : KindV X.K H v T) (r : L2.RelV v u) : s.TypeIs u T := by
  rcases k with ⟨rfl, rfl⟩ | ⟨b, rfl, rfl⟩ | ⟨i, rfl, rfl⟩ | ⟨x, rfl, rfl⟩ | ⟨a, xs, rfl, q, rfl⟩ | ⟨a, xs, rfl, q, rfl⟩
  · cases r; exact rfl
  · cases r; exact rfl
  · obtain ⟨t, rfl⟩ := r; exact rfl
  · obtain ⟨t, rfl⟩ := r; exact rfl
  · cases r
    obtain ⟨its, _, ⟨o, e, c, _⟩, _⟩ := I.tuple q
    exact ⟨o, e, c⟩
  · cases r
    obtain ⟨its, _, ⟨o, n, e, c, _⟩, _⟩ := I.list q
    exact ⟨o, e, c⟩
end
end PySem.W
set_option maxRecDepth 100000
set_option maxHeartbeats 2000000
namespace PySem.W
open PySem PyProof.Rows
end PySem.W
namespace PySem.W
open PyProof.Rows L2
end PySem.W
namespace Ev
open PySem PySem.Spec PyProof.Rows L2
section
variable {G : Sg} {X : Cx} {W : WX} {k : Nat} {σ : L2.St}
theorem DecS.mono {P : Program} {w : World} {K : PySem.W.Frag} {mg : Str → Option Value} {base : Heap} {j m n : Nat} {f : Addr} {fc : List SV → M Bool} (h : DecS P w K mg base G j m n f fc) (l : j ≤ k) : DecS P w K mg base G k m n f fc :=
  fun A fr s wd us vs ds S S' Q hr => h A fr s wd us vs ds S S' Q (hr.mono l)
end
end Ev
set_option maxRecDepth 100000
set_option maxHeartbeats 2000000
namespace Ev
open PySem PySem.Spec PyProof.Rows L2
section
variable {G : Sg} {X : Cx} {W : WX}
def frzW (i : Nat) : MS := fun sd S => match sd[i]? with
  | some (.own o) => some (.next (sd.set i (.val (frzO o))), S)
  | _ => some (.next sd, S)
theorem ss_frzW {i : Nat} {sts : List Stmt} {f : MS} (h : PSsV G X W sts f) : PSsV G X W sts (seqS (frzW i) f) := by
  have h1 := ss_frz (i := i) h
  refine ⟨fun pins s σ H D I ⟨w0, w, sd, S, e, r, q⟩ => ?_⟩
  rcases hs : sd[i]? with _ | x
  · refine h.run pins s σ H D I ⟨w0, w, sd, S, e, r, ?_⟩
    unfold seqS frzW at q
    rw [hs] at q
    exact q
  · cases x with
    | own o =>
      refine h1.run pins s σ H D I ⟨w0, w, sd, S, e, r, ?_⟩
      unfold seqS frzW at q
      unfold seqS frzS
      rw [hs] at q ⊢
      exact q
    | _ =>
      refine h.run pins s σ H D I ⟨w0, w, sd, S, e, r, ?_⟩
      unfold seqS frzW at q
      rw [hs] at q
      exact q
end
section
variable {sd : List SV} {S : List Ob} {N B C : List SV → List Ob → Prop} {R : D → List Ob → Prop}
theorem gs_frzO {i : Nat} {o : Ob} (e : sd[i]? = some (.own o)) (h : N (sd.set i (.val (frzO o))) S) : Ws (frzW i) sd S N R B C := by
  have z : frzW i sd S = some (.next (sd.set i (.val (frzO o))), S) := by
    unfold frzW
    rw [e]
  unfold Ws RunS
  rw [z]
  exact h
end
end Ev
set_option maxRecDepth 100000
set_option maxHeartbeats 2000000
namespace Ev
open PySem PySem.Spec PyProof.Rows L2
end Ev
set_option maxRecDepth 100000
set_option maxHeartbeats 2000000
namespace Ev
open PySem PySem.Spec PyProof.Rows L2
abbrev MG : Type := List SV → List Ob → List D → Option (Out × List Ob × List D)
def FinN (G : Sg) (W : WX) (w0 w : Wd) (D : GEnds) : Option (Out × List Ob × List Ev.D) → Prop
  | none => False
  | some (.next sd, S, out) => ∀ w' σ' ys, Stay w w' → R G w0 w' sd S σ' → RepVs G w' out ys → D.nx ys σ' w'.H
  | some (.ret _, _, _) => False
  | some (.brk sd, S, out) => ∀ w' σ' ys, Stay w w' → R G w0 w' sd S σ' → RepVs G w' out ys → D.bk ys σ' w'.H
  | some (.cont sd, S, out) => ∀ w' σ' ys, Stay w w' → R G w0 w' sd S σ' → RepVs G w' out ys → D.ct ys σ' w'.H
  | some (.err e sd, S, _) => ∀ w' σ' cls x, Stay w w' → R G w0 w' sd S σ' → RepX G w' e cls x → W cls x σ' w'.H
theorem FinN.stay {G : Sg} {W : WX} {w0 w w1 : Wd} {D : GEnds} {r : Option (Out × List Ob × List Ev.D)} (e : Stay w w1) (h : FinN G W w0 w D r) : FinN G W w0 w1 D r := by
  rcases r with _ | ⟨_ | _ | _ | _ | _, _, _⟩
  · exact h
  · exact fun w' σ' ys s => h w' σ' ys (e.trans s)
  · exact h
  · exact fun w' σ' ys s => h w' σ' ys (e.trans s)
  · exact fun w' σ' ys s => h w' σ' ys (e.trans s)
  · exact fun w' σ' c x s => h w' σ' c x (e.trans s)
end Ev
set_option maxRecDepth 100000
set_option maxHeartbeats 2000000
namespace Ev
open PySem PySem.Spec PyProof.Rows L2
def Sg.un (G : Sg) : Sg := { G with gd := false }
section
variable {G : Sg} {w : Wd}
mutual
theorem rep_un : ∀ (d : D) (v : V), RepV G.un w d v ↔ RepV G w d v
  | .non, _ => Iff.rfl
  | .bl _, _ => Iff.rfl
  | .int _, _ => Iff.rfl
  | .str _, _ => Iff.rfl
  | .tup ds, v => by
    constructor
    · rintro ⟨a, vs, e, h, r⟩; exact ⟨a, vs, e, h, (reps_un ds vs).mp r⟩
    · rintro ⟨a, vs, e, h, r⟩; exact ⟨a, vs, e, h, (reps_un ds vs).mpr r⟩
  | .lst ds, v => by
    constructor
    · rintro ⟨a, vs, e, f, h, r⟩; exact ⟨a, vs, e, f, h, (reps_un ds vs).mp r⟩
    · rintro ⟨a, vs, e, f, h, r⟩; exact ⟨a, vs, e, f, h, (reps_un ds vs).mpr r⟩
  | .scr ds, v => by
    constructor
    · rintro ⟨a, vs, e, h, r⟩; exact ⟨a, vs, e, h, (reps_un ds vs).mp r⟩
    · rintro ⟨a, vs, e, h, r⟩; exact ⟨a, vs, e, h, (reps_un ds vs).mpr r⟩
  | .dct ks ds, v => by
    constructor
    · rintro ⟨a, vs, e, f, h, l, r⟩; exact ⟨a, vs, e, f, h, l, (reps_un ds vs).mp r⟩
    · rintro ⟨a, vs, e, f, h, l, r⟩; exact ⟨a, vs, e, f, h, l, (reps_un ds vs).mpr r⟩
  | .ins c ds, v => by
    constructor
    · rintro ⟨a, dx, vs, e, f, h, l, r⟩; exact ⟨a, dx, vs, e, f, h, l, (reps_un ds vs).mp r⟩
    · rintro ⟨a, dx, vs, e, f, h, l, r⟩; exact ⟨a, dx, vs, e, f, h, l, (reps_un ds vs).mpr r⟩
  | .ref _, _ => Iff.rfl
  | .ty _, _ => Iff.rfl
  | .cls _, _ => Iff.rfl
  | .raw _ _ _ ds, v => by
    constructor
    · rintro ⟨e, vs, h, r⟩; exact ⟨e, vs, h, (reps_un ds vs).mp r⟩
    · rintro ⟨e, vs, h, r⟩; exact ⟨e, vs, h, (reps_un ds vs).mpr r⟩
theorem reps_un : ∀ (ds : List D) (vs : List V), RepVs G.un w ds vs ↔ RepVs G w ds vs
  | [], _ => Iff.rfl
  | d :: ds, vs => by
    constructor
    · rintro ⟨v, r, e, h, t⟩; exact ⟨v, r, e, (rep_un d v).mp h, (reps_un ds r).mp t⟩
    · rintro ⟨v, r, e, h, t⟩; exact ⟨v, r, e, (rep_un d v).mpr h, (reps_un ds r).mpr t⟩
end
theorem repo_un {a : Addr} {o : Ob} : RepO G.un w a o ↔ RepO G w a o := by
  cases o with
  | lst ds =>
    constructor
    · rintro ⟨vs, h, r⟩; exact ⟨vs, h, (reps_un ds vs).mp r⟩
    · rintro ⟨vs, h, r⟩; exact ⟨vs, h, (reps_un ds vs).mpr r⟩
  | dct ks ds =>
    constructor
    · rintro ⟨vs, h, l, r⟩; exact ⟨vs, h, l, (reps_un ds vs).mp r⟩
    · rintro ⟨vs, h, l, r⟩; exact ⟨vs, h, l, (reps_un ds vs).mpr r⟩
  | ins c ds =>
    constructor
    · rintro ⟨dx, vs, h, l, r⟩; exact ⟨dx, vs, h, l, (reps_un ds vs).mp r⟩
    · rintro ⟨dx, vs, h, l, r⟩; exact ⟨dx, vs, h, l, (reps_un ds vs).mpr r⟩
  | tbl j => exact Iff.rfl
theorem store_un {S : List Ob} : RepS G.un w S ↔ RepS G w S := by
  constructor
  · rintro ⟨a, b, c, d, e⟩; exact ⟨a, b, c, d, fun n x o h1 h2 => repo_un.mp (e n x o h1 h2)⟩
  · rintro ⟨a, b, c, d, e⟩; exact ⟨a, b, c, d, fun n x o h1 h2 => repo_un.mpr (e n x o h1 h2)⟩
end
def FinL (G : Sg) (w : Wd) (Q : List V → Hp → Prop) : Option (Except Exn (List D) × List Ob) → Prop
  | some (.ok l, S) => ∀ w' vs, Ext w w' → RepS G w' S → RepVs G w' l vs → Q vs w'.H
  | _ => False
end Ev
set_option maxRecDepth 100000
set_option maxHeartbeats 2000000
namespace Ev
open PySem PySem.Spec PyProof.Rows L2
section
variable {P : Program} {w : World} {K : PySem.W.Frag} {mg : Str → Option Value} {base : Heap} {G : Sg} {k m : Nat} {f : Addr} {x qual : Str} {st : Stmt} {fd : FuncData} {N ps ks : List Str} {ms : MG} {ix : List Nat}
theorem FinL.un {wd : Wd} {Q : List V → Hp → Prop} {r : Option (Except Exn (List D) × List Ob)} (h : FinL G wd Q r) : FinL G.un wd Q r := by
  rcases r with _ | ⟨_ | l, S⟩
  · exact h
  · exact h
  · exact fun w' vs e s r => h w' vs e (store_un.mp s) ((reps_un _ _).mp r)
end
end Ev
set_option maxRecDepth 100000
set_option maxHeartbeats 2000000
namespace Ev
open PySem L2
end Ev
set_option maxRecDepth 100000
set_option maxHeartbeats 2000000
namespace PySem.SeqAt
open AutoSeq1 (wpAny_loadPart')
open MeetsSeq MeetsSeq2 MeetsSeq3
end PySem.SeqAt
namespace PySem.SeqAt
open PyProof.Rows
end PySem.SeqAt
namespace Ev
open PySem PySem.Spec PyProof.Rows L2
section
variable {G : Sg} {X : Cx} {W : WX} {k : Nat}
def dNeZ : D → D → M D
  | .dct _ _, .str _ => M.pure (.bl true)
  | .dct _ _, .tup _ => M.pure (.bl true)
  | d, e => dEq true d e
theorem v_dict0 {pos : Pos} : PV G X W (.Dict [] [] pos) (fun _ => M.pure (.dct [] [])) := by
  refine PE.imp pe_dnewK fun σ H Q q p hp => ?_
  obtain ⟨w0, w, sd, S, e, r, q⟩ := q
  subst e
  exact q (w.frz p (.dK [])) _ (Ext.frz hp) (r.st.frz hp) ⟨p, [], rfl, .inr rfl, upd_same, rfl, rfl⟩
end
end Ev
set_option maxRecDepth 100000
set_option maxHeartbeats 2000000
namespace Ev
open PySem PySem.Spec PyProof.Rows L2
end Ev
namespace Ev
open PySem L2
end Ev
namespace Ev
open PySem PySem.Spec PyProof.Rows L2
end Ev
set_option maxRecDepth 100000
set_option maxHeartbeats 2000000
namespace Ev
open PySem PySem.Spec PyProof.Rows L2
end Ev
set_option maxRecDepth 100000
set_option maxHeartbeats 2000000
namespace Ev
open PySem PySem.Spec PyProof.Rows L2
end Ev
set_option maxRecDepth 100000
set_option maxHeartbeats 2000000
namespace Ev
open PySem PySem.Spec PyProof.Rows L2
end Ev
set_option maxRecDepth 100000
set_option maxHeartbeats 2000000
namespace Ev
open PySem PySem.Spec PyProof.Rows L2
section
variable {G : Sg} {X : Cx} {W : WX} {k : Nat} {σ : L2.St} {pos : Pos}
structure SpT (X : Cx) (G : Sg) (k : Nat) (nm : Str) (tbl : Nat → Option (List D → M D)) : Prop where
  at_ : ∀ c g, tbl c = some g → ∃ f, PySem.W.findIn X.K (.ref (G.ca c)) nm = some (some (.ref f)) ∧ PySem.W.isFn X.K (.ref f) = true ∧ FnX X G k f g
def ownIn (neg : Bool) (tbl : Nat → Option (List D → M D)) (d e : D) : M D := M.bind (pick tbl e) fun g => M.bind (noErr (g [e, d])) fun r => M.bind (toB r) fun b => M.pure (.bl (neg != b))
theorem run_own {pins : List (Addr × Obj)} {H : Hp} {s : Shared} {Q : VK} {E' : Value → Shared → Prop} {f : Addr} {sem : List D → M D} {us : List Value} {vs : List V} (c : Ctx G X W k) (F : FnX X G k f sem) (I : Inv X pins σ H s) (r : Vals vs us)
    (h : spV G sem vs H Q (fun _ _ _ => False)) : wpAny (model X.prog X.w) X.A (call (.ref f) us) (EP X pins σ Q) E' s := by
  have lift : Rm G.gd k X.A := c.rm0
  have body := F.run X.A X.stack s H us vs Q (fun _ _ _ => False) lift I.env0 r h
  refine wpAny_call (codeAny_mono body ?_)
  intro res s' hq
  rcases res with er | fl
  · obtain ⟨_, _, _, _, _, _, _, _, _, _, _, _, z⟩ := hq
    exact z.elim
  · cases fl with
    | ret u => exact I.after hq
    | next => exact hq.elim
    | brk => exact hq.elim
    | cont => exact hq.elim
theorem in_both {op : CmpOp} {neg : Bool} {tbl : Nat → Option (List D → M D)} {pins : List (Addr × Obj)} {s : Shared} {Q : VK} (c : Ctx G X W k) (T : SpT X G k "__contains__" tbl) (hop : (op = .In ∧ neg = false) ∨ (op = .NotIn ∧ neg = true)) {u v : Value} {d d2 : D} {v1 v2 : V} {w2 : Wd} {S2 : List Ob} {Wx : Value → Option Addr → Hp → Prop}
    (I2 : Inv X pins σ w2.H s) (rv : RelV v1 v) (ru : RelV v2 u) (s2' : RepS G w2 S2) (rd : RepV G w2 d v1) (rd2 : RepV G w2 d2 v2) (q2 : FinG G (RepV G) Wx w2 Q (ownIn neg tbl d d2 S2)) :
    wpAny (model X.prog X.w) X.A (compareOp op v u) (EP X pins σ Q) X.xe s := by
  unfold ownIn at q2
  obtain ⟨cc, g, tg, q6, hc1, a1, dx1, fs1, rfl, hb1⟩ := pick_fin s2' rd2 q2
  obtain ⟨f, fi, isf, F⟩ := T.at_ cc g tg
  cases (show u = Value.ref a1 from ru)
  obtain ⟨m1, O1, _⟩ := ins_get I2.hok hb1
  obtain ⟨od1, J1, _⟩ := O1.look
  obtain ⟨fr, hF⟩ := I2.fr
  have want : spV G g [.ref a1, v1] w2.H (fun z H' => ∃ b, z = .bl b ∧ Q (.bl (neg != b)) H') (fun _ _ _ => False) := by
    refine ⟨w2, [d2, d], S2, rfl, s2', ⟨_, _, rfl, rd2, _, _, rfl, rd, rfl⟩, ?_⟩
    unfold M.bind noErr at q6
    rcases hg : g [d2, d] S2 with _ | ⟨_ | r, S3⟩
    · rw [hg] at q6; exact q6.elim
    · rw [hg] at q6; exact q6.elim
    · rw [hg] at q6
      intro w' z e s3 rz
      cases r with
      | bl b =>
        cases (show z = .bl b from rz)
        exact ⟨b, rfl, q6 w' _ e s3 rfl⟩
      | _ => exact q6.elim
  have back : wpAny (model X.prog X.w) X.A (call (.ref f) [.ref a1, v]) (fun r s' => wpAny (model X.prog X.w) X.A (truthy r) (fun b s2 => EP X pins σ Q (.bool (neg != b)) s2) X.xe s') X.xe s := by
    refine wpAny_mono (run_own (us := [.ref a1, v]) (vs := [.ref a1, v1]) c F I2 (.cons rfl (.cons rv .nil)) want) (fun r s' z => ?_) fun _ _ z => z
    obtain ⟨z', H', I3, rz, b, rfl, hQ⟩ := z
    cases (show r = Value.bool b from rz)
    exact wpAny_truthy_bool ⟨.bl (neg != b), H', I3, rfl, hQ⟩
  rcases hop with ⟨rfl, rfl⟩ | ⟨rfl, rfl⟩
  · refine PySem.W.in_K hF I2.ok.mod.kin J1 fi isf (wpAny_mono back (fun r s' z => wpAny_mono z (fun b s2 y => ?_) fun _ _ y => y) fun _ _ z => z)
    simpa using y
  · refine PySem.W.notIn_K hF I2.ok.mod.kin J1 fi isf (wpAny_mono back (fun r s' z => wpAny_mono z (fun b s2 y => ?_) fun _ _ y => y) fun _ _ z => z)
    simpa using y
theorem o_ownIn {tbl : Nat → Option (List D → M D)} (c : Ctx G X W k) (T : SpT X G k "__contains__" tbl) : OpR X (compareOp .In) (rD2 G (ownIn false tbl)) := by
  intro pins s σ H v1 v2 v u Q I rv ru ⟨Wx, w2, S2, d, d2, eH, s2, rd, rd2, q⟩
  subst eH
  exact in_both c T (.inl ⟨rfl, rfl⟩) I rv ru s2 rd rd2 q
theorem o_ownNotIn {tbl : Nat → Option (List D → M D)} (c : Ctx G X W k) (T : SpT X G k "__contains__" tbl) : OpR X (compareOp .NotIn) (rD2 G (ownIn true tbl)) := by
  intro pins s σ H v1 v2 v u Q I rv ru ⟨Wx, w2, S2, d, d2, eH, s2, rd, rd2, q⟩
  subst eH
  exact in_both c T (.inr ⟨rfl, rfl⟩) I rv ru s2 rd rd2 q
end
end Ev
set_option maxRecDepth 100000
set_option maxHeartbeats 1000000
namespace Ev
open PySem PySem.Spec PyProof.Rows L2
end Ev
set_option maxRecDepth 100000
set_option maxHeartbeats 1000000
namespace Ev
open PySem PySem.Spec PyProof.Rows L2
end Ev
set_option maxRecDepth 100000
set_option maxHeartbeats 2000000
namespace Ev
open PySem PySem.Spec PyProof.Rows L2
theorem meets_bool_own {prog : Program} {w : World} (x : Addr) : MeetsIn prog w (Builtin.«bool.__new__» ⟨[.type "bool", .ref x], []⟩) (fun A R s => wpAny (model prog w) A.in1 (truthy (.ref x)) (fun b s' => R (.ok (.ret (.bool b))) s') (fun e s' => R (.error e) s') s) :=
  MeetsIn.of_wp fun A R s hs => by
    have f1 := PySem.F.conv_sub_bool
    repeat (any_goals (first | assumption | (with_reducible refine wpAny_mono hs (fun b s' hb => ?_) (fun e s' he => he)) | wp_step))
    exact ⟨_, rfl, hb⟩
theorem call_bool_own {prog : Program} {w : World} {A : Around} {E : Value → Shared → Prop} {s : Shared} {x : Addr} {Q : Value → Shared → Prop} (h : wpAny (model prog w) A.in1.in1 (truthy (.ref x)) (fun b s' => Q (.bool b) s') E s) : wpAny (model prog w) A (call (.type "bool") [.ref x]) Q E s :=
  callType_newIn PySem.F.called_bool PySem.F.newNe_bool (PySem.F.typeCall_bool_1 _) (PySem.F.newCall_bool_1 _) (fun obj => PySem.F.args_object_init_2 obj _) PySem.F.entry_bool_new (meets_bool_own x) (wpAny_mono h (fun b s' hb => ⟨PySem.typeIs_bool _ _, hb⟩) fun _ _ y => y)
end Ev
set_option maxRecDepth 100000
set_option maxHeartbeats 2000000
namespace Ev
open PySem PySem.Spec PyProof.Rows L2
end Ev
set_option maxRecDepth 100000
set_option maxHeartbeats 1000000
namespace Ev
open PySem PySem.Spec PyProof.Rows L2
end Ev
set_option maxRecDepth 100000
set_option maxHeartbeats 1000000
namespace Ev
open PySem PySem.Spec PyProof.Rows L2
end Ev
set_option maxRecDepth 100000
set_option maxHeartbeats 1000000
namespace Ev
open PySem PySem.Spec PyProof.Rows L2
end Ev
set_option maxRecDepth 100000
set_option maxHeartbeats 2000000
namespace PySem.W
open PySem PyProof.Rows SeqAt
open MeetsSeq MeetsSeq2 MeetsSeq3 SeqRoads2
section
variable {prog : Program} {w : World}
def Nones (prog : Program) (w : World) (A0 : Around) (l : Addr) (x : Value) (m : Nat) (J : Nat → Shared → Prop) : Prop :=
  ∀ (i : Nat) (s : Shared), J i s → ∃ items n dd sl, items.size = m ∧ s.heap.get? l = some { cls := .type "list", dict := dd, data := .seq items n, slots := sl } ∧
    ∀ (h : i < items.size) (E : Value → Shared → Prop), wpAny (model prog w) A0.in1 (eqBool items[i] x) (fun b s' => b = false ∧ J (i + 1) s') E s
theorem none_loop (l : Addr) (m : Nat) (x : Value) (J : Nat → Shared → Prop) (A0 : Around) (hl : Nones prog w A0 l x m J) (k : Nat) :
    ∀ i : Nat, m - i = k → MeetsIn prog w (Builtin.«list.__contains__.loop» ⟨[.ref l, x, rawInt i], []⟩)
      (fun A R s => A = A0 ∧ J i s ∧ i ≤ m ∧ ∀ s', J m s' → R (.ok (.ret (.bool false))) s') := by
  induction k with
  | zero =>
    intro i hk A R s h
    obtain ⟨rfl, hj, hi0, h⟩ := h
    obtain ⟨items, n, dd, sl, hm, hls, _⟩ := hl i s hj
    have ei : i = items.size := by omega
    subst hm
    subst ei
    have hz := h s hj
    obtain ⟨hp, g, d, tk, os⟩ := s
    wp_walk using PySem.AutoSeq1.wpAny_loadPart' hls
    have hi : items[((items.size : Nat) : Int).toNat]? = none := by simp
    rw [hi]
    wp_walk
    exact hz
  | succ k ih =>
    intro i hk A R s h
    obtain ⟨rfl, hj, hi0, h⟩ := h
    obtain ⟨items, n, dd, sl, hm, hls, he⟩ := hl i s hj
    have hlt : i < items.size := by omega
    have one := fun E => he hlt E
    obtain ⟨hp, g, d, tk, os⟩ := s
    wp_walk using PySem.AutoSeq1.wpAny_loadPart' hls
    have hi : items[((i : Nat) : Int).toNat]? = some items[i] := by simp [hlt]
    rw [hi]
    refine wpAny_bind (wpAny_mono (one _) (fun b s' z => ?_) fun _ _ e => e)
    obtain ⟨rfl, hj'⟩ := z
    have hc : ((i : Int) + 1) = ((i + 1 : Nat) : Int) := by push_cast; rfl
    obtain ⟨hp', g', d', tk', os'⟩ := s'
    wp_walk
    rw [hc]
    exact ⟨plainId_quiet plain_contains_loop _, codeAny_builtin entry_contains_loop (by
      rw [Around.under_plainId plain_contains_loop _]
      exact ih (i + 1) (by omega) A R _ ⟨rfl, hj', by omega, h⟩)⟩
theorem none_contains (l : Addr) (m : Nat) (x : Value) (J : Nat → Shared → Prop) (A0 : Around) (hl : Nones prog w A0 l x m J) :
    MeetsIn prog w (Builtin.«list.__contains__» ⟨[.ref l, x], []⟩) (fun A R s => A = A0 ∧ J 0 s ∧ ∀ s', J m s' → R (.ok (.ret (.bool false))) s') := by
  intro A R s h
  obtain ⟨rfl, hj, h⟩ := h
  obtain ⟨items, n, dd, sl, hm, hls, _⟩ := hl 0 s hj
  obtain ⟨hp, g, d, tk, os⟩ := s
  wp_walk using PySem.AutoSeq1.wpAny_loadPart' hls
  exact ⟨plainId_quiet plain_contains_loop _, codeAny_builtin entry_contains_loop (by
    rw [Around.under_plainId plain_contains_loop _]
    exact none_loop l m x J A hl _ 0 rfl A R _ ⟨rfl, hj, Nat.zero_le _, h⟩)⟩
variable {A : Around} {E : Value → Shared → Prop} {s : Shared}
theorem none_in {l : Addr} {m : Nat} {x : Value} {Q : Value → Shared → Prop} (J : Nat → Shared → Prop) (hl : Nones prog w A l x m J) (h0 : J 0 s) (h : ∀ s', J m s' → Q (.bool false) s') :
    wpAny (model prog w) A (compareOp .In x (.ref l)) Q E s := by
  obtain ⟨items, n, dd, sl, hm, ho, _⟩ := hl 0 s h0
  show wpAny _ A (do return .bool (← contains (.ref l) x)) Q E s
  refine wpAny_bind (wpAny_contains_slot (T := "list") ⟨_, ho, rfl⟩ F.slot_list_contains (wpAny_mono (call_meetsIn (Q := fun v s' => v = .bool false ∧ J m s') F.slot_list_contains ⟨_, ho, rfl⟩ F.entry_list_contains (F.args_list_contains_2 _ _) (none_contains l m x J A hl) ⟨rfl, h0, fun s' z => ⟨rfl, z⟩⟩) (fun v s' hv => ?_) fun _ _ e => e))
  obtain ⟨rfl, z⟩ := hv
  exact wpAny_truthy_bool (wpAny_pure (h _ z))
variable {K : Frag} {x C : Addr} {ox : Obj} {od : Option Obj} {f : Addr}
end
end PySem.W
namespace PySem.W
open PyProof.Rows L2
end PySem.W
namespace Ev
open PySem PySem.Spec PyProof.Rows L2
end Ev
set_option maxRecDepth 100000
set_option maxHeartbeats 2000000
namespace Ev
open PySem PySem.Spec PyProof.Rows L2
section
variable {G : Sg} {X : Cx} {pins : List (Addr × Obj)} {σ : L2.St} {s : Shared} {w : Wd} {S : List Ob}
def Wd.lam (w : Wd) (P c' : Addr) (q : Str) (ps : Array Value) : Wd := ⟨w.m, fun a => w.F a ∨ a = c', upd (upd w.H P (.tbl ps)) c' (LamX.CodeO c' q), w.x⟩
theorem lam_world {P c' : Addr} {n j : Nat} {ps ps' : Array Value} (st : RepS G w S) (hn : w.m[n]? = some P) (hj : S[n]? = some (.tbl j)) (hP : w.H P = some (.tbl ps)) (nc : w.H c' = none) (eP : P = G.ta j)
    (tr : TriplesOk ps'.toList) (told : ∀ (pos : Pos) (cv : Value), codeAmong pos ps'.toList = some cv → cv = .ref c' ∨ ∃ c, cv = .ref c ∧ w.F c ∧ w.H c = some (LamX.CodeO c (G.tq j))) : Ext w (w.lam P c' (G.tq j) ps') ∧ RepS G (w.lam P c' (G.tq j) ps') S := by
  have hm : P ∈ w.m := List.mem_of_getElem? hn
  have cm : c' ∉ w.m := fun z => st.there z nc
  have nP : P ≠ c' := fun z => cm (z ▸ hm)
  have off : ∀ {b : Addr}, b ≠ P → b ≠ c' → (w.lam P c' (G.tq j) ps').H b = w.H b := fun {b} h1 h2 => by
    show upd (upd w.H P (.tbl ps')) c' _ b = _
    rw [upd_ne h2, upd_ne h1]
  have atc : (w.lam P c' (G.tq j) ps').H c' = some (LamX.CodeO c' (G.tq j)) := upd_same
  have atP : (w.lam P c' (G.tq j) ps').H P = some (.tbl ps') := by
    show upd (upd w.H P (.tbl ps')) c' _ P = _
    rw [upd_ne nP, upd_same]
  have there : ∀ {b : Addr}, w.H b ≠ none → b ≠ c' := fun {b} h z => h (z ▸ nc)
  have ex : Ext w (w.lam P c' (G.tq j) ps') := by
    refine ⟨⟨[], by simp [Wd.lam]⟩, fun _ h => .inl h, fun b u hb e => ?_, fun _ h => .inl h, fun b h => h.imp id fun z => by rw [z]; exact nc, fun b h => ?_⟩
    · rw [off (fun z : b = P => hb (by rw [z]; exact hm)) (there (by rw [e]; exact fun q => nomatch q))]
      exact e
    · by_cases z : b = c'
      · rw [z]; exact nc
      · by_cases y : b = P
        · rw [y, atP] at h; cases h
        · rw [off y z] at h
          exact h
  have sty := ex.stay st.dj
  refine ⟨ex, st.len, st.nd, fun a h => ?_, fun a h => ?_, fun i a u h1 h2 => ?_⟩
  · rcases h with h | h
    · exact st.dj a h
    · rw [h]; exact cm
  · rcases h with h | h
    · rw [off (fun z : a = P => st.dj a h (by rw [z]; exact hm)) (there (st.fh a h))]
      exact st.fh a h
    · rw [h, atc]
      exact fun q => nomatch q
  · by_cases y : a = P
    · subst y
      have ei : i = n := (List.getElem?_inj (List.getElem?_eq_some_iff.mp (show w.m[i]? = some a from h1)).1 st.nd).mp ((show w.m[i]? = some a from h1).trans hn.symm)
      subst ei
      rw [hj] at h2
      cases h2
      refine ⟨eP, hm, ps', atP, tr, fun pos cv hc => ?_⟩
      rcases told pos cv hc with z | ⟨c, z1, z2, z3⟩
      · exact ⟨c', z, .inr rfl, atc⟩
      · exact ⟨c, z1, .inl z2, sty.H c _ z2 z3⟩
    · exact RepO.to (off y (there (st.there (List.mem_of_getElem? h1)))) sty (st.ob i a u h1 h2)
theorem lam_make3 {c : Addr} {n j : Nat} {params : Arguments} {body : Expr} {scope : Scope} {pos : Pos} {E : Value → Shared → Prop} {Q : Value → Shared → Prop} (I : Inv X pins σ w.H s) (st : RepS G w S) (hj : S[n]? = some (.tbl j)) (TB : LamX.TabB X.base X.mg c (G.ta j))
    (hcode : X.env.code = .ref c) (hq : G.tq j = X.env.qual ++ "<lambda>") (hdef : defaultsOf params X.env = ([], [])) (hfree : ∀ y ∈ scope.names, y.2 = .free → ∃ c, X.env.cells.lookup y.1 = some c)
    (h : ∀ (f c' : Addr) (pm ctv : Value) (w1 : Wd) (s' : Shared), Inv X pins σ w1.H s' → Ext w w1 → RepS G w1 S → s'.heap.get? f = some (PySem.W.kla_obj "<lambda>" (X.env.qual ++ "<lambda>") params body scope (cloFrom X.env.cells scope.names []) pm c' ctv) →
      w1.H f = none → f ∉ frs X.stack → w1.F c' → w1.H c' = some (LamX.CodeO c' (X.env.qual ++ "<lambda>")) → Q (.ref f) s') :
    wpAny (model X.prog X.w) X.A (eval (.Lambda params body scope pos) X.env) Q E s := by
  have ln : n < w.m.length := by
    rw [st.len]
    exact (List.getElem?_eq_some_iff.mp hj).1
  have hn := List.getElem?_eq_getElem ln
  obtain ⟨eP, hm, ps, hP, tr, told⟩ := st.ob n _ _ hn hj
  generalize w.m[n] = P at hn eP hm hP
  subst eP
  have ob0 : s.heap.get? (G.ta j) = some { cls := .none, data := .fields ps } := I.hok (G.ta j) _ hP
  have bm := TB.bm.keeps I.bk
  have out : ∀ g : Addr, s.heap.objs.size ≤ g → g ∉ frs X.stack := fun g hg z => by
    rcases List.mem_cons.mp (I.stkSub _ z) with e | e
    · subst e
      exact Nat.lt_irrefl _ (Nat.lt_of_lt_of_le I.lt hg)
    · exact I.nofs hg e
  refine PySem.W.kla_eval hdef ?_
  rcases hc : codeAmong pos ps.toList with _ | cv
  · refine PySem.W.kla_makeFunction (mg := X.mg) (c := c) (P := G.ta j) (ps := ps) (closure_ok hfree) I.ok.glob (I.mod.glob.keeps I.bk) hcode (TB.code.keeps I.bk) ob0 tr hc TB.gP bm ?_
    intro c1 ctv h1 tk keep1 ge1 lt1 rec1 tab1
    obtain ⟨c2, oc, us, t, e2, ho, hd, hu⟩ := rec1
    cases e2
    have nc : w.H c1 = none := I.hok.fresh ge1
    have sz : s.heap.objs.size ≤ h1.objs.size := Nat.le_trans ge1 (Nat.le_of_lt lt1)
    have J := LamX.inv_table (q := G.tq j) (t' := tk) (more := #[rawInt pos.line, rawInt pos.col, .ref c1]) (h' := h1.push (PySem.W.kla_obj "<lambda>" (X.env.qual ++ "<lambda>") params body scope (cloFrom X.env.cells scope.names []) ((X.mg "__name__").getD .none) c1 ctv)) I hP
      (fun b o ne e => Heap.get?_push_of_some _ (keep1 b o ne e)) (Heap.get?_push_of_some _ tab1) ge1 ⟨oc, us, t, Heap.get?_push_of_some _ ho, hd, by rw [hq]; exact hu⟩
    have el : (ps ++ #[rawInt pos.line, rawInt pos.col, .ref c1]).toList = ps.toList ++ [rawInt pos.line, rawInt pos.col, .ref c1] := by simp
    obtain ⟨ex, st1⟩ := lam_world (ps' := ps ++ #[rawInt pos.line, rawInt pos.col, .ref c1]) st hn hj hP nc rfl (by rw [el]; exact PySem.TriplesOk_snoc _ _ _ _ tr) (fun p v hv => by
      rw [el] at hv
      rcases LamX.among_app _ tr hv with z | z
      · exact .inr (told p v z)
      · exact .inl z)
    refine h h1.objs.size c1 ((X.mg "__name__").getD .none) ctv (w.lam (G.ta j) c1 (G.tq j) (ps ++ #[rawInt pos.line, rawInt pos.col, .ref c1])) _ J ex st1 (Heap.get?_push_size _ rfl) ?_ (out _ sz) (.inr rfl) ?_
    · have n1 : h1.objs.size ≠ c1 := Nat.ne_of_gt lt1
      have n2 : h1.objs.size ≠ G.ta j := Nat.ne_of_gt (Nat.lt_of_lt_of_le (Heap.lt_size ob0) sz)
      show upd (upd w.H _ _) _ _ _ = none
      rw [upd_ne n1, upd_ne n2]
      exact I.hok.fresh sz
    · rw [← hq]
      exact upd_same
  · obtain ⟨c1, e, fc, hco⟩ := told pos cv hc
    subst e
    refine PySem.W.kla_makeFunctionHit (mg := X.mg) (c := c) (P := G.ta j) (ps := ps) (closure_ok hfree) I.ok.glob (I.mod.glob.keeps I.bk) hcode (TB.code.keeps I.bk) ob0 tr hc bm ?_
    intro ctv h1 tk keep1 sz
    have J : Inv X pins σ w.H { s with heap := h1.push (PySem.W.kla_obj "<lambda>" (X.env.qual ++ "<lambda>") params body scope (cloFrom X.env.cells scope.names []) ((X.mg "__name__").getD .none) c1 ctv), toks := tk } := I.kept fun b o e => Heap.get?_push_of_some _ (keep1 b o e)
    exact h h1.objs.size c1 ((X.mg "__name__").getD .none) ctv w _ J (Ext.refl w) st (Heap.get?_push_size _ rfl) (I.hok.fresh sz) (out _ sz) fc (by rw [← hq]; exact hco)
end
end Ev
set_option maxRecDepth 100000
set_option maxHeartbeats 2000000
namespace Ev
open PySem PySem.Spec PyProof.Rows L2
theorem fly_keeps {B h h' : Heap} {l : List Env} {e : Addr} {Z : Obj → Prop} (x : HandSPX.FlyingZ B l e Z h) (k : ∀ b o, h.get? b = some o → h'.get? b = some o) : HandSPX.FlyingZ B l e Z h' := by
  obtain ⟨f1, f2, f3, oe, vs, T, oT, ts, q1, q2, q3, q4, q5, q6, q7, q8, q9⟩ := x
  refine ⟨fun b o z => k b o (f1 b o z), f2, f3.of_keeps fun b o z _ => ⟨o, k b o z, rfl⟩, oe, vs, T, oT, ts, k _ _ q1, q2, q3, q4, q5, q6, k _ _ q7, q8, q9⟩
def w3 (K : PySem.W.Frag) (cs : List Value) (i : Nat) (ts : Addr → Value → Option Addr → TS) (En : Ends) : WX := fun cls d σ H => PySem.W.exmAny K cls cs = some true ∧
  ∀ a, H a = none → ts a cls d { nx := fun σ' H' => En.nx (σ'.set i none) H', rt := En.rt, bk := fun σ' H' => En.bk (σ'.set i none) H', ct := fun σ' H' => En.ct (σ'.set i none) H' } (σ.set i (some (.ref a))) H
section
variable {X : Cx} {x1 x2 x3 n : Str} {c1 c2 c3 : Value} {i kk : Nat} {body suite : List Stmt} {b₀ : Stmt} {p1 p2 p3 tp pos pos' : Pos} {tb : WX → TS} {ts : Addr → Value → Option Addr → TS}
theorem s_try3 (hs : X.stack = X.env :: X.outer) (hf : X.env.frame = some X.env.locals) (hN : X.N.Nodup) (hi : X.N[i]? = some n) (hln : X.env.kindOf n = some .local) (n1 : Names X x1 c1) (n2 : Names X x2 c2) (n3 : Names X x3 c3)
    (hb : ∀ (W : WX) (pn : List (Addr × Obj)) (xe : Value → Shared → Prop), L2N.Takes (X.tr pn xe) W → PassesOwn (model X.prog X.w) X.A X.env xe → PSs (X.tr pn xe) body (tb W))
    (hsu : ∀ (a : Addr) (oe : Obj) (cls : Value) (d : Option Addr) (pn : List (Addr × Obj)), L2N.Zn cls d oe → (∃ vs, oe.data = .fields vs) → PSs (X.suite a ((a, oe) :: pn)) (b₀ :: suite) (ts a cls d)) :
    PS X (.Try body [.ExceptHandler (some (.Tuple [.Name x1 p1, .Name x2 p2, .Name x3 p3] kk tp)) (some n) (b₀ :: suite) pos'] [] [] pos) (fun En σ H => tb (w3 X.K [c1, c2, c3] i ts En) En σ H) := by
  constructor
  intro pins s σ H En I h
  have ok := I.ok
  have frs_ : X.A.frames = some (X.env :: X.outer) := by
    rw [ok.frames, hs]
  refine wpAny_Try_except ?_
  have run := (hb (w3 X.K [c1, c2, c3] i ts En) (X.pn ++ pins) (fun e sa => wpAny (model X.prog X.w) X.A (noteFrame e X.env) (fun _ sb => wpAny (model X.prog X.w) X.A (setFlight e none) (fun _ sc =>
    wpAny (model X.prog X.w) X.A (handleBy e X.env [.ExceptHandler (some (.Tuple [.Name x1 p1, .Name x2 p2, .Name x3 p3] kk tp)) (some n) (b₀ :: suite) pos']) (SP X pins En) X.xe sc) X.xe sb) X.xe sa) ?_ PassesOwn.looking).run [] s σ H En (I.toTry _) h
  · refine wpAny_mono run (fun f s1 hsp => ?_) (fun e s1 he => he)
    cases f with
    | next =>
      obtain ⟨σ2, H2, J2, q⟩ := hsp
      exact wpAny_execs_nil ⟨σ2, H2, J2.ofTry ok, q⟩
    | ret u =>
      obtain ⟨v, σ2, H2, J2, r, q⟩ := hsp
      exact ⟨v, σ2, H2, J2.ofTry ok, r, q⟩
    | brk =>
      obtain ⟨σ2, H2, J2, q⟩ := hsp
      exact ⟨σ2, H2, J2.ofTry ok, q⟩
    | cont =>
      obtain ⟨σ2, H2, J2, q⟩ := hsp
      exact ⟨σ2, H2, J2.ofTry ok, q⟩
  · rintro u s2 ⟨a, B, sI, pins2, σ2, H2, cls, d, rfl, J0, nb, up, sky, na, os, ag, hx, go⟩
    have J : Inv X pins σ2 H2 sI := J0.ofTry ok
    show wpAny (model X.prog X.w) X.A (noteFrame (.ref a) X.env) _ _ _
    refine L2N.Sky.land L2N.Zn.steady frs_ hf (by rw [← hs]; exact sky) ?_
    intro h3 fl3 up3
    have J3 : Inv X pins σ2 H2 { s2 with heap := h3 } := J.landed nb fl3.1 (up.trans up3) os ag
    obtain ⟨oe3, vs3, e3, z3, d3⟩ := fl3.there
    have nfr : a ∉ frs (X.env :: X.outer) := by
      intro hm
      obtain ⟨_, o2, q2, hnf⟩ := fl3.2.2.1.mem hm
      rw [e3] at q2
      cases q2
      exact hnf _ d3
    have nL : a ≠ X.env.locals := by
      intro z
      exact nfr (List.mem_filterMap.mpr ⟨X.env, List.mem_cons_self, by rw [hf, z]⟩)
    have nF : a ∉ X.fs := by
      intro hm
      obtain ⟨v, hv, q⟩ := List.mem_filterMap.mp hm
      exact nfr (List.mem_filterMap.mpr ⟨v, List.mem_cons_of_mem _ hv, q⟩)
    have S3 := J3.suite e3 d3 na nL nF
    refine wpAny_handleBy_cons (codeAny_handlers_test ?_) (by intro q; cases q)
    have name : ∀ {x : Str} {c : Value} {p : Pos} {Q E : Value → Shared → Prop}, Names X x c → Q c { s2 with heap := h3 } → wpAny (model X.prog X.w) (X.A.mark (some (.ref a))) (eval (.Name x p) X.env) Q E { s2 with heap := h3 } := by
      intro x c p Q E hc q
      obtain ⟨hg, hdbg, hm | ⟨hm, hv, hnn⟩⟩ := hc
      · exact ld_glob (X := X.suite a ((a, oe3) :: (X.pn ++ pins))) S3 hg hm q hdbg
      · exact ld_blt (X := X.suite a ((a, oe3) :: (X.pn ++ pins))) S3 hg hm hv q hnn hdbg
    refine wpAny_Tuple (wpAny_items_cons (name n1 (wpAny_items_cons (name n2 (wpAny_items_cons (name n3 (wpAny_items_nil ⟨by size_fits, ?_⟩)))))))
    have kp : ∀ b o, h3.get? b = some o → (h3.push { cls := .type "tuple", data := .seq [c1, c2, c3].toArray }).get? b = some o := fun b o q => Heap.get?_push_of_some _ q
    have LT : PySem.W.Looks (model X.prog X.w) h3 (typeOf (.ref a)) cls := by
      intro A Q E s k q
      refine wpAny_typeOf_ref (k _ _ e3) ?_
      rw [z3.1]
      exact q
    refine (PySem.W.exm_tup3 (M := model X.prog X.w) (J3.kIn.keeps kp) (LT.keeps kp) (Heap.get?_push_size h3 rfl) hx).here ?_
    refine codeAny_handlers_suite_as ?_
    have flP := fly_keeps fl3 kp
    refine HandSPX.lands_againZ flP ?_
    intro h4 fl4 up4
    have J4 : Inv X pins σ2 H2 { s2 with heap := h4 } := J.landed nb fl4.1 (((up.trans up3).trans (Heap.UpToSlots.of_keeps kp)).trans up4) os ag
    obtain ⟨oe4, vs4, e4, z4, d4⟩ := fl4.there
    have S4 := J4.suite e4 d4 na nL nF
    refine store_ok (X := X.suite a ((a, oe4) :: (X.pn ++ pins))) (v := .ref a) S4 hN hi (.inl hln) rfl ?_ (.inr hln)
    intro s5 S5
    have end_ : ∀ {s6 : Shared} {σ6 : L2.St} {H6 : Hp} {Q : Shared → Prop}, Inv (X.suite a ((a, oe4) :: (X.pn ++ pins))) [] σ6 H6 s6 → (∀ s7, Inv X pins (σ6.set i none) H6 s7 → Q s7) →
        wpAny (model X.prog X.w) X.A (do bindName X.env n .none; unbindBehindTheSuite X.env n pos') (fun _ s7 => Q s7) X.xe s6 := fun S6 hq => gone_ok (S6.unsuite ok) hN hi hln hq
    refine wpAny_mono ((hsu a oe4 cls d (X.pn ++ pins) z4 ⟨_, d4⟩).run [] s5 _ H2 _ S5 (go a na)) ?_ (fun _ _ z => z.elim)
    intro f s6 hsp
    cases f with
    | ret u =>
      obtain ⟨v6, σ6, H6, S6, r6, q6⟩ := hsp
      exact end_ S6 fun s7 J7 => ⟨v6, _, H6, J7, r6, q6⟩
    | next =>
      obtain ⟨σ6, H6, S6, q6⟩ := hsp
      exact end_ S6 fun s7 J7 => ⟨_, H6, J7, q6⟩
    | brk =>
      obtain ⟨σ6, H6, S6, q6⟩ := hsp
      exact end_ S6 fun s7 J7 => ⟨_, H6, J7, q6⟩
    | cont =>
      obtain ⟨σ6, H6, S6, q6⟩ := hsp
      exact end_ S6 fun s7 J7 => ⟨_, H6, J7, q6⟩
end
end Ev
set_option maxRecDepth 100000
set_option maxHeartbeats 4000000
namespace Ev
open PySem PySem.Spec PyProof.Rows L2
def lamN (X : Cx) (A : Around) (outer : List Env) (s : Shared) (H : Hp) (E : XK) (scope : Scope) (f c' : Addr) : Cx :=
  (LamX.lamCx X A outer s H E scope f c').tr [] fun e s' => wpAny (model X.prog X.w) (A.deeper (LamX.lamEnv X scope s.heap.objs.size f c')) (leaving (LamX.lamEnv X scope s.heap.objs.size f c') e)
    (fun _ s'' => L2N.CX X.prog X.w outer H s E e s'') (fun e' s'' => L2N.CX X.prog X.w outer H s E e' s'') s'
theorem ctxL {G : Sg} {X : Cx} {A : Around} {outer : List Env} {s : Shared} {H : Hp} {E : XK} {scope : Scope} {f c' : Addr} {k : Nat} (cK : G.K = X.K) (nd : X.N.Nodup) (hr : Rm G.gd (k + 1) (A.deeper (LamX.lamEnv X scope s.heap.objs.size f c'))) :
    Ctx G (lamN X A outer s H E scope f c') (WF E) k := ⟨cK, rfl, hr, nd, fun σ => L2N.passAt (L2N.takes_of rfl rfl rfl rfl) σ, L2.passes_of rfl⟩
abbrev XC (P : Program) (w : World) (K : PySem.W.Frag) (mg : Str → Option Value) (base : Heap) (N : List Str) (qual : Str) (st : Stmt) (f : Addr) (cdv : Value) (A : Around) (fr : List Env) (s : Shared) (H : Hp) : Cx :=
  cxOf C8.CX0 P w K mg base N qual (defScope st) f cdv A fr s H C8.E0
section
variable {G : Sg} {X : Cx} {W : WX} {k : Nat}
theorem act3 {pins : List (Addr × Obj)} {σ : L2.St} {H : Hp} {s : Shared} {Ng : List Str} {qg : Str} {stg : Stmt} {g f c' : Addr} {cdg pm ctv : Value} {params : Arguments} {body : Expr} {scope : Scope} {i : Nat} {a : Str} {pn : List (Addr × Obj)} {xe : Value → Shared → Prop} {Wt : WX} {E : XK} {tb : TE} {p1 p2 : Pos}
    (I : Inv X pins σ H s) (L : LamX.LamS X.env.scope scope) (hf : s.heap.get? f = some (PySem.W.kla_obj "<lambda>" (X.env.qual ++ "<lambda>") params body scope (cloFrom X.env.cells scope.names []) pm c' ctv)) (hfn : H f = none) (hfr : f ∉ frs X.stack)
    (hbind : bindArgs (PySem.W.kla_fn "<lambda>" (X.env.qual ++ "<lambda>") params body scope (cloFrom X.env.cells scope.names []) pm (.ref c') ctv) ⟨[], []⟩ = pure [])
    (tk : L2N.Takes ((XC X.prog X.w X.K X.mg X.base Ng qg stg g cdg X.A X.stack s H).tr pn xe) Wt) (hW : ∀ cls d σ' H', σ'.length = Ng.length → E cls d H' → Wt cls d σ' H') (hr : Rm G.gd (k + 2) (X.A.deeper (envOfC qg (defScope stg) s.heap.objs.size g cdg)))
    (hbody : ∀ (A : Around) (outer : List Env) (s1 : Shared) (H1 : Hp), Rm G.gd (k + 1) (A.deeper (LamX.lamEnv X scope s1.heap.objs.size f c')) → PE (lamN X A outer s1 H1 E scope f c') body tb)
    (hN : Ng[i]? = some a) (hv : Vis (defScope stg) a) (hd : (a == ("__debug__" : Str)) = false) (hcd : (a == ("__classdict__" : Str)) = false) :
    PE ((XC X.prog X.w X.K X.mg X.base Ng qg stg g cdg X.A X.stack s H).tr pn xe) (.Call (.Name a p1) [] [] p2)
      (fun σZ HZ Q => σZ[i]? = some (some (.ref f)) ∧ HZ c' = some (LamX.CodeO c' (X.env.qual ++ "<lambda>")) ∧ tb σ HZ Q) := by
  constructor
  intro pinsZ sZ σZ HZ Q IZ ⟨hs, hc, ht⟩
  have nm := (pe_var (pos := p1) (i := i) hN hv hd hcd).run pinsZ sZ σZ HZ (fun v H1 => v = .ref f ∧ H1 = HZ) IZ ⟨.ref f, hs, rfl, rfl⟩
  refine wpAny_Call_Name_kw (thn nm ?_)
  rintro u s1 ⟨v, H1, I1, r1, rfl, rfl⟩
  obtain rfl : u = Value.ref f := r1
  have of1 := I1.base.keep f _ hf hfn hfr (fun z => nomatch (show f ∈ ([] : List Addr) from z))
  refine PySem.W.callWith_F0 ⟨_, _, _, _, of1⟩ ?_
  have un : Un (frs X.stack) [] H H1 s.heap s1.heap := I1.base
  obtain ⟨⟨oc, vs, t, hoc, hdc, hvc⟩, _, _⟩ := I1.hok c' _ hc
  have rc : codeAny (model X.prog X.w) (X.A.deeper (envOfC qg (defScope stg) s.heap.objs.size g cdg)) (.call (.ref f) ⟨[], []⟩) (CR (L2N.CX X.prog X.w) (envOfC qg (defScope stg) s.heap.objs.size g cdg :: X.stack) X.prog X.w H1 s1 Q E) s1 := by
    refine PySem.W.kla_callFunE hr.room.depth of1 rfl L.co L.gen rfl ⟨c', oc, vs, t, rfl, hoc, hdc, hvc⟩ ?_
    rw [hbind]
    refine wpAny_pure (wpAny_newFunctionEnv (fun y hy => (L.own y hy).2) (fun y hy => absurd hy (by simp)) ?_ L.kind)
    intro h₁ hns hsb
    refine ⟨I1.nolimit.fresh _ hsb, ?_⟩
    show codeAny _ _ (.expr body (LamX.lamEnv X scope s1.heap.objs.size f c')) _ _
    have kp : ∀ b o, s1.heap.get? b = some o → h₁.get? b = some o := by
      intro b o e
      exact hsb.extBut b o (Nat.ne_of_lt (Heap.lt_size e)) (Heap.get?_push_of_some _ e)
    have J0 := LamX.lam_start2 (E := E) (f := f) (c' := c') (tk := s1.toks + ([] : List (Str × Value)).length) I L I1.env0 hr.room.hd un hns kp
    have J : Inv (lamN X (X.A.deeper (envOfC qg (defScope stg) s.heap.objs.size g cdg)) (envOfC qg (defScope stg) s.heap.objs.size g cdg :: X.stack) s1 H1 E scope f c') [] σ H1 { s1 with heap := h₁, toks := s1.toks + ([] : List (Str × Value)).length } := J0.toTry _
    refine PySem.W.kla_codeExpr (wpAny_mono ((hbody _ _ s1 H1 (hr.deeper _)).run [] _ _ H1 Q J ht) ?_ fun e s' hq => hq)
    rintro v s' ⟨w', H', J', rv, q⟩
    exact ⟨w', H', J'.os, J'.bare, J'.base, J'.hok, rv, q⟩
  refine wpAny_call (codeAny_mono rc ?_)
  intro r s' hq
  rcases r with e | fl
  · exact tk e s' (L2N.XE.of_call I1 (fun cls d H' h => hW cls d σZ H' I1.len h) hq)
  · cases fl with
    | ret u => exact I1.after hq
    | next => exact hq.elim
    | brk => exact hq.elim
    | cont => exact hq.elim
def isTb (j : Nat) : Ob → Bool
  | .tbl i => i == j
  | _ => false
def hasTbl (j : Nat) (m : M D) : M D := fun S => if S.any (isTb j) = true then m S else none
theorem hasTbl_at {j : Nat} {S : List Ob} (h : S.any (isTb j) = true) : ∃ n : Nat, S[n]? = some (Ob.tbl j) := by
  obtain ⟨o, ho, e⟩ := List.any_eq_true.mp h
  obtain ⟨n, hn⟩ := List.mem_iff_getElem?.mp ho
  cases o with
  | tbl i =>
    have e : i = j := by simpa [isTb] using e
    subst e
    exact ⟨n, hn⟩
  | _ => cases e
theorem vals_one {d : D} {v : V} {w : Wd} (h : RepV G w d v) : RepVs G w [d] [v] := ⟨v, [], rfl, h, rfl⟩
end
end Ev
set_option maxRecDepth 100000
set_option maxHeartbeats 4000000
namespace Ev
open PySem PySem.Spec PyProof.Rows L2
section
variable {prog : Program} {w : World} {A : Around} {E : Value → Shared → Prop} {s : Shared} {K : PySem.W.Frag} {x Dc : Addr} {ox od : Obj}
open PySem.W PySem.Calls in
theorem err_class {Q : Option Value → Shared → Prop} (C : ExcC K Dc) (X : K.In s.heap) (I : PySem.W.InstAt s.heap x ox Dc (some od)) (h : Q (some (.ref Dc)) { s with toks := s.toks + 1 }) : wpAny (model prog w) A (getAttr? (.ref x) "__class__") Q E s := by
  have hc : (clsIn K Dc).isSome = true := by
    obtain ⟨cd, hc, _⟩ := any_some C.hd
    rw [hc]
    rfl
  have hf : findObj K Dc (some od) "__class__" = some (.bind (.builtin "getset_descriptor.__get__") (.builtin "object.__class__")) := findObj_data hc C.ha C.hn C.ht
  obtain ⟨hp, g, dr, t, os⟩ := s
  have Lt := I.type (M := model prog w)
  have Lg := looks_findIn (M := model prog w) X C.hg
  have Lh := looks_findIn (M := model prog w) X C.hk
  have Lf := looks_find (M := model prog w) X I hf
  have sub : Looks (model prog w) hp (isInstance (.ref x) (.type "BaseException")) true := Lt.andThen (looks_subIn X C.hs)
  have b0 : (false && onTheHeap (Value.builtin "BaseException.__getattribute__")) = false := rfl
  have b2 : (Value.builtin "BaseException.__getattribute__" == Value.builtin "object.__getattribute__") = false := by decide +kernel
  have b1 : (onTheHeap (Value.ref Dc) && Value.builtin "BaseException.__getattribute__" == Value.builtin "object.__getattribute__") = false := by
    rw [b2]
    rfl
  unfold getAttr? getAttrBy? getAttrBy
  refine wpAny_bind (wpAny_mkText (wpAny_bind (wpAny_attempt (wpAny_holding (wpAny_bind (Lt.at (wpAny_bind (Lg.at ?_))))))))
  show wpAny _ _ (if (onTheHeap (Value.ref Dc) && Value.builtin "BaseException.__getattribute__" == Value.builtin "object.__getattribute__") = true then _ else _) _ _ _
  rw [b1, if_neg Bool.false_ne_true]
  unfold getAttrByItsOwn hookBefore
  refine wpAny_bind ?_
  rw [if_pos (show onTheHeap (Value.ref Dc) = true from rfl)]
  refine Lh.at ?_
  refine wpAny_bind (wpAny_attempt (wpAny_holding ?_))
  unfold callGetattribute
  rw [b0, if_neg Bool.false_ne_true]
  unfold boundAndCalled
  rw [PySem.F.excAttr_ValueError.ga.bind (.ref x)]
  refine wpAny_bind (wpAny_pure ?_)
  show wpAny _ _ (call (.builtin "BaseException.__getattribute__") [.ref x, .str "__class__" t]) _ _ _
  refine wpAny_call (codeAny_call_builtin PySem.F.excAttr_ValueError.ga.plain PySem.F.entry_bexc_ga ?_)
  refine @check_slot (model prog w) _ _ ⟨hp, g, dr, t + 1, os⟩ "BaseException.__getattribute__" "BaseException" "__getattribute__" (.ref x) [.str "__class__" t] [] _ (by decide +kernel) (by decide +kernel) sub (PySem.F.args_bexc_ga (.ref x) (.str "__class__" t)) ?_
  unfold Builtin.«object.__getattribute__»
  refine wpAny_bind (wpAny_of_eq (a := ((Value.ref x : Value), [Value.str "__class__" t])) (by first | rfl | (simp only [slotArgs]; rfl)) ?_)
  refine wpAny_bind (wpAny_pure (wpAny_bind (Lt.at (wpAny_bind (Lf.at ?_)))))
  show wpAny _ _ (holding [Value.builtin "object.__class__"] (call (.builtin "getset_descriptor.__get__") [.builtin "object.__class__", .ref x, .ref Dc]) >>= ret) _ _ _
  refine wpAny_bind (wpAny_holding (wpAny_call (class_get (s := ⟨hp, g, dr, t + 1, os⟩) (ox := ox) (od := some od) X I C.hm ?_)))
  refine wpAny_pure ?_
  show wpAny _ _ (handedOut (.ref Dc)) _ _ _
  rw [handedOut_of (v := .ref Dc) rfl]
  first
    | exact wpAny_pure (wpAny_pure h)
    | exact wpAny_pure h
    | exact wpAny_pure (wpAny_bind (wpAny_pure (wpAny_pure h)))
open PySem.W in
theorem err_kit (C : ExcC K Dc) : PySem.W.KitX K (.ref x) (.ref Dc) (fun h => ∃ ox od, PySem.W.InstAt h x ox Dc (some od)) := by
  have cls : ∃ cd, clsIn K Dc = some cd := by
    obtain ⟨cd, hc, _⟩ := any_some C.hd
    exact ⟨cd, hc⟩
  have own : ∃ c' d' cd' sl', K.lookup Dc = some ⟨c', d', .cls cd', sl'⟩ := by
    obtain ⟨cd, hc⟩ := cls
    unfold clsIn at hc
    split at hc
    · rename_i c' d' cd' sl' ho
      exact ⟨c', d', cd', sl', ho⟩
    · cases hc
  obtain ⟨c', d', cd', sl', ho⟩ := own
  refine ⟨fun M h X I => ?_, fun M h X I => ?_, fun h tp dd its n sl X htp => ?_, fun X I k => ?_⟩
  · obtain ⟨ox, od, I⟩ := I
    exact I.type
  · intro A' Q' E' s' k q
    unfold isType loadHead
    exact wpAny_bind (wpAny_loadPart (k _ _ (X _ _ ho)) (wpAny_pure q))
  · refine Bool.eq_false_iff.mpr fun q => ?_
    have e : Dc = tp := Value.ref.inj (beq_iff_eq.mp q)
    rw [← e, X _ _ ho] at htp
    cases htp
  · obtain ⟨ox, od, I⟩ := I
    exact err_class C X I k
end
structure CtxH (G : Sg) (X : Cx) (k : Nat) (a dd : Addr) (Dc : Addr) : Prop where
  cK : G.K = X.K
  nd : X.N.Nodup
  room : L2H.RoomH k X.A
  gd : G.gd = true → X.A.guards = some []
  pin : ∃ o : Obj, (a, o) ∈ X.pn ∧ L2H.Hot1 X.A (a, o) ∧ L2N.Zn (.ref Dc) (some dd) o ∧ ∃ vs, o.data = .fields vs
theorem vals2 {v1 v2 : V} {us : List Value} (h : Vals [v1, v2] us) : ∃ u1 u2, us = [u1, u2] ∧ RelV v1 u1 ∧ RelV v2 u2 := by
  cases h with
  | cons a h =>
    cases h with
    | cons b h =>
      cases h
      exact ⟨_, _, rfl, a, b⟩
section
variable {G : Sg} {X : Cx} {W : WX} {k : Nat} {a dd Dc : Addr}
theorem CtxH.inst {pins : List (Addr × Obj)} {σ : L2.St} {H : Hp} {s : Shared} {fs : List (Str × V)} (c : CtxH G X k a dd Dc) (I : Inv X pins σ H s) (hd : H dd = some (.xd fs)) : ∃ (ox od : Obj) (mA : Str → Option Value), PySem.W.InstAt s.heap a ox Dc (some od) ∧ (∀ name, PySem.W.lookIn name od = some (mA name)) ∧ ∀ n, RelO (fs.lookup n) (mA n) := by
  obtain ⟨o, h1, h2, hz, vs, hv⟩ := c.pin
  obtain ⟨ha, _⟩ := I.pin (a, o) (List.mem_append_left _ h1)
  obtain ⟨mA, hns, hr⟩ := I.hok dd _ hd
  obtain ⟨od, ho, hl⟩ := lookIn_ns hns
  refine ⟨o, od, mA, ⟨ha, hz.1, ?_, by rw [hz.2.1]; exact ho⟩, hl, hr⟩
  unfold PySem.W.notCls
  rw [hv] <;> rfl
def isaH (a dd : Addr) (sub : Nat → Option Bool) (bt : String → Option Bool) : D → D → M D
  | .raw (.ref b) d2 (_ :: _) _, .cls c => if b = a ∧ d2 = dd then (match sub c with | some r => M.pure (.bl r) | none => M.stuck) else M.stuck
  | .raw (.ref b) d2 (_ :: _) _, .raw (.ty n) _ _ _ => if b = a ∧ d2 = dd then (match bt n with | some r => M.pure (.bl r) | none => M.stuck) else M.stuck
  | _, _ => M.stuck
theorem raw_at {w : Wd} {u v : V} {d2 : Addr} {f : Str} {fs : List Str} {ds : List D} (h : RepV G w (.raw u d2 (f :: fs) ds) v) : v = u ∧ ∃ vs, w.H d2 = some (.xd ((f :: fs).zip vs)) ∧ RepVs G w ds vs := by
  obtain ⟨e, vs, h1, h2⟩ := h
  rcases h1 with h1 | h1
  · cases h1
  · exact ⟨e, vs, h1.2, h2⟩
structure IsaH (G : Sg) (K : PySem.W.Frag) (Dc : Addr) (sub : Nat → Option Bool) (bt : String → Option Bool) : Prop where
  ex : ExcC K Dc
  cl : ∀ c b, sub c = some b → PySem.W.kitOne K (.ref Dc) (.ref (G.ca c)) = some b
  ty : ∀ n b, bt n = some b → PySem.W.kitOne K (.ref Dc) (.type n) = some b
theorem c_isaH {sub : Nat → Option Bool} {bt : String → Option Bool} (c : CtxH G X k a dd Dc) (T : IsaH G X.K Dc sub bt) : CallR X (.builtin "isinstance") (rDs G (on2 (isaH a dd sub bt))) := by
  intro pins s σ H xs us Q I rx ⟨W', w, S, ds, eH, st, rv, q⟩
  subst eH
  rcases ds with _ | ⟨x, _ | ⟨y, _ | ⟨z, ds⟩⟩⟩
  · exact q.elim
  · exact q.elim
  · obtain ⟨v1, r1, rfl, rv1, v2, r2, rfl, rv2, hnil⟩ := rv
    obtain rfl : r2 = [] := hnil
    obtain ⟨u1, u2, rfl, ru1, ru2⟩ := vals2 rx
    have key : ∀ {b d2 : Addr} {f : Str} {fs : List Str} {es : List D} {b' : Bool} {W' : Value → Option Addr → Hp → Prop}, x = .raw (.ref b) d2 (f :: fs) es → b = a → d2 = dd → PySem.W.kitOne X.K (.ref Dc) u2 = some b' → FinG G (RepV G) W' w Q (M.pure (.bl b') S) →
        wpAny (model X.prog X.w) X.A (call (.builtin "isinstance") [u1, u2]) (EP X pins σ Q) X.xe s := by
      intro b d2 f fs es b' W' ex eb ed hk qk
      subst ex eb ed
      obtain ⟨ev, vs, hd, _⟩ := raw_at rv1
      subst ev
      obtain rfl : u1 = Value.ref b := ru1
      obtain ⟨ox, od, mA, J, _⟩ := c.inst I hd
      have fin : Q (.bl b') w.H := fin_pure (rep := RepV G) (a := D.bl b') (b := V.bl b') qk st rfl
      exact PySem.W.kia_one (err_kit T.ex) I.kIn ⟨ox, od, J⟩ hk (fun z => nomatch z) fun tk => ⟨.bl b', w.H, I.kept (t' := tk) fun _ _ z => z, rfl, fin⟩
    replace q : FinG G (RepV G) W' w Q (isaH a dd sub bt x y S) := q
    unfold isaH at q
    split at q
    · next x1 y1 b d2 f fs es c2 =>
      obtain ⟨⟨h1, h2⟩, q2⟩ := FinG.ite q
      rcases hr : sub c2 with _ | r
      · rw [hr] at q2; exact q2.elim
      · rw [hr] at q2
        obtain rfl : v2 = V.ref (G.ca c2) := rv2
        obtain rfl : u2 = Value.ref (G.ca c2) := ru2
        exact key rfl h1 h2 (T.cl _ _ hr) q2
    · next x1 y1 b d2 f fs es n d3 f3 e3 =>
      obtain ⟨⟨h1, h2⟩, q2⟩ := FinG.ite q
      rcases hr : bt n with _ | r
      · rw [hr] at q2; exact q2.elim
      · rw [hr] at q2
        obtain ⟨rfl, _⟩ := rv2
        obtain rfl : u2 = Value.type n := ru2
        exact key rfl h1 h2 (T.ty _ _ hr) q2
    · exact q.elim
  · exact q.elim
def attrH (a dd : Addr) (n : Str) : D → M D
  | .raw (.ref b) d2 [f] [d] => if b = a ∧ d2 = dd ∧ f = n then M.pure d else M.stuck
  | _ => M.stuck
theorem v_attrH {e : Expr} {fe : List SV → M D} {n : Str} {pos : Pos} (c : CtxH G X k a dd Dc) (T : XfC X.K Dc) (hno : PySem.W.findIn X.K (.ref Dc) n = some none) (he : PV G X W e fe) (hb : plainBase e = true) : PV G X W (.Attribute e n pos) (fun sd => M.bind (fe sd) (attrH a dd n)) := by
  constructor
  intro pins s σ H Q I ⟨w0, w, sd, S, eH, r, q⟩
  refine attr_of (attr_base hb) (thn (he.run pins s σ H (fun v H1 => ∃ w1 S1 d, w1.H = H1 ∧ RepS G w1 S1 ∧ RepV G w1 d v ∧ FinG G (RepV G) (fun c x H => W c x σ H) w1 Q (attrH a dd n d S1)) I ?_) ?_)
  · exact ⟨w0, w, sd, S, eH, r, fin_step q fun w1 S1 d v e1 s1 rv q1 => ⟨w1, S1, d, rfl, s1, rv, q1⟩⟩
  · rintro u s1 ⟨v, H1, I1, rv, w1, S1, d, eH1, s1', rd, q1⟩
    subst eH1
    unfold attrH at q1
    split at q1
    · next b d2 f dv =>
      obtain ⟨⟨h1, h2, h3⟩, q2⟩ := FinG.ite q1
      clear q1
      subst h1 h2 h3
      obtain ⟨ev, vs, hd, rvs⟩ := raw_at rd
      obtain ⟨v1, r1, rfl, rv1, hn1⟩ := rvs
      obtain rfl : r1 = [] := hn1
      subst ev
      obtain rfl : u = Value.ref b := rv
      obtain ⟨ox, od, mA, J, hl, hr⟩ := c.inst I1 hd
      have hz := hr f
      rw [show ([f].zip [v1]).lookup f = some v1 by simp [List.zip]] at hz
      obtain ⟨u1, hu, ru⟩ := RelO.some_of hz
      exact HandSPX.exc_get I1.kIn J T.ga T.gg T.exC (PySem.W.findObj_own T.hdC hno rfl (by rw [hl, hu])) (handed_of ru) ⟨v1, w1.H, I1.tok _, ru, fin_pure q2 s1' rv1⟩
    · exact q1.elim
end
end Ev
set_option maxRecDepth 100000
set_option maxHeartbeats 4000000
namespace Ev
open PySem PySem.Spec PyProof.Rows L2
end Ev
set_option maxRecDepth 100000
set_option maxHeartbeats 4000000
namespace Ev
open PySem PySem.Spec PyProof.Rows L2
section
variable {G : Sg} {X : Cx} {W : WX} {k : Nat} {a dd Dc : Addr}
theorem s_setH {i : Nat} {x : Str} {e : Expr} {f : List SV → M D} {pos pos' : Pos} (c : CtxH G X k a dd Dc) (hi : X.N[i]? = some x) (hx : Loc X.env.scope x) (he : PV G X W e f) (hs : swapFree e = true) (hf : X.fn x = true ∨ X.env.scope.names.lookup x = some .local) :
    PSV G X W (.Assign [.Name x pos'] e pos) (asgS f (setT i)) := by
  refine PS.imp (ps_set c.nd hi hx he (swap_free hs) hf) ?_
  rintro D σ H ⟨w0, w, sd, S, e, r, q⟩
  exact ⟨w0, w, sd, S, e, r, exS_step q r fun w1 S1 d v e1 r1 rv q1 => q1 w1 (σ.set i (some v)) (Stay.refl w1) (r1.setv rv i)⟩
theorem c_reprH (c : CtxH G X k a dd Dc) (hg : G.gd = true) : CallR X (.builtin "repr") (rDs G (on1 dRepr)) := c_repr0 c.cK (c.gd hg) (by have := c.room.un; omega)
def dEqI : D → D → M D
  | .int i, .int j => M.pure (.bl (decide (i = j)))
  | _, _ => M.stuck
theorem o_eqI : OpR X (compareOp .Eq) (rD2 G dEqI) := by
  refine OpR.imp op_eq fun v u H Q q => ?_
  obtain ⟨W, w, S, d, e, rfl, s, r1, r2, q⟩ := q
  unfold dEqI at q
  split at q
  · cases (show v = _ from r1)
    cases (show u = _ from r2)
    have q2 := fin_pure (b := V.bl _) q s rfl
    exact ⟨rfl, by simpa using q2⟩
  · exact q.elim
end
structure FnHA (P : Program) (w : World) (K : PySem.W.Frag) (mg : Str → Option Value) (base : Heap) (G : Sg) (k : Nat) (f Dc : Addr) (sem : Addr → Addr → List D → M D) : Prop where
  run : ∀ (A : Around) (fr : List Env) (s : Shared) (H : Hp) (us : List Value) (vs : List V) (Q : VK) (a dd : Addr) (o : Obj),
    L2H.RoomH k A → (G.gd = true → A.guards = some []) → L2H.Hot1 A (a, o) → L2H.PinOk fr H s (a, o) → L2N.Zn (.ref Dc) (some dd) o → (∃ xs, o.data = .fields xs) → Env0 P w K mg base A fr s H → Vals vs us → spV G (sem a dd) vs H Q C8.E0 →
    codeAny (model P w) A (.call (.ref f) ⟨us, []⟩) (CR C8.CX0 fr P w H s Q C8.E0) s
  kp : PySem.W.keepIn K (.ref f) = true
abbrev XH (P : Program) (w : World) (K : PySem.W.Frag) (mg : Str → Option Value) (base : Heap) (N : List Str) (qual : Str) (st : Stmt) (f : Addr) (cdv : Value) (A : Around) (fr : List Env) (s : Shared) (H : Hp) (p : Addr × Obj) : Cx :=
  L2H.cxH C8.CX0 P w K mg base N qual (defScope st) f cdv A fr s H C8.E0 p
def BodyH (P : Program) (w : World) (K : PySem.W.Frag) (mg : Str → Option Value) (base : Heap) (G : Sg) (k : Nat) (f Dc : Addr) (N : List Str) (qual : Str) (st : Stmt) (ms : Addr → Addr → MS) : Prop :=
  ∀ (cdv : Value) (A : Around) (fr : List Env) (s : Shared) (H : Hp) (a dd : Addr) (o : Obj), CtxH G (XH P w K mg base N qual st f cdv A fr s H (a, o)) k a dd Dc → PSsV G (XH P w K mg base N qual st f cdv A fr s H (a, o)) NoW (defBody st) (ms a dd)
section
variable {P : Program} {w : World} {K : PySem.W.Frag} {mg : Str → Option Value} {base : Heap} {G : Sg} {k : Nat} {f Dc : Addr} {x qual : Str} {st : Stmt} {fd : FuncData} {N ps : List Str} {ms : Addr → Addr → MS}
theorem fnh_rule (F : Fun K x qual st f fd) (SC : FnScope N ps (defScope st)) (hb : L2.Binds K fd ps []) (cK : G.K = K) (B : BodyH P w K mg base G k f Dc N qual st ms) {m n : Nat} (em : ps.length = m) (en : N.length = n) (hmn : m ≤ n) :
    FnHA P w K mg base G (k + 1) f Dc (fun a dd => runFn m n (ms a dd)) := by
  have kp := F.kp
  obtain ⟨oc, od, kV, doc, pm, an, cdv, ct, osl, rfl, lk, hcd⟩ := F.ex
  refine ⟨?_, kp⟩
  rintro A fr s H us vs Q a dd o hr gd hot pin zn fl e0 rv ⟨wd, ds, S, rfl, rs, rvs, q⟩
  simp only [runFn] at q
  split at q
  case isFalse => exact q.elim
  next hl =>
  subst em en
  have lv : vs.length = ps.length := by
    rw [← rvs.length]
    exact hl
  have inK : K.In s.heap := e0.mod.kin.keeps fun b o e => (e0.bs b o e).1
  have noL : s.heap.NoLimit := e0.mod.nolimit.keeps fun b o e => (e0.bs b o e).1
  have kinds : ∀ y ∈ ps.zip us, (defScope st).names.lookup y.1 = some .local ∨ ((defScope st).names.lookup y.1 = some .cell ∧ ((cellsFrom (s.heap.objs.size + 1) (defScope st).names []).lookup y.1).isSome = true) := by
    rintro ⟨n, v⟩ hy
    exact (SC.par n (List.of_mem_zip hy).1).imp id fun q => ⟨q, PySem.W.cellsFrom_some _ _ _ (.inl q)⟩
  have bnd := hb s us inK (by rw [List.append_nil, ← rv.length]; exact lv)
  rw [List.append_nil] at bnd
  refine codeAny_call_function hr.depth (inK _ _ lk) rfl SC.co SC.gen rfl (PySem.W.codeRec_of inK hcd) (bnd _ _ _ _ ?_)
  refine wpAny_newFunctionEnv_cells SC.kind kinds ?_
  rintro env rfl s1 x
  refine ⟨noL.keeps x.toInCall.keep, codeAny_func ?_⟩
  have I := L2H.inv_startH (CX := C8.CX0) (P := P) (w := w) (E := C8.E0) SC pin e0 lv rv x
  have bd := B cdv A fr s wd.H a dd o ⟨cK, SC.nd, hr.deeper _, gd, o, List.mem_singleton.mpr rfl, hot, zn, fl⟩
  have run := bd.run [] s1 _ wd.H { nx := fun _ H' => Q .non H', rt := Q } I (fin_body (E := fun _ _ _ => False) (Q := Q) rfl rs rvs (by omega) q)
  refine wpAny_mono run ?_ (fun e s' hs => hs)
  intro fl s' hs
  cases fl with
  | ret u =>
    obtain ⟨v, σ', H', J, r', q⟩ := hs
    exact ⟨v, H', J.os, J.bare, J.base, J.hok, r', q⟩
  | next =>
    obtain ⟨σ', H', J, q⟩ := hs
    exact ⟨V.non, H', J.os, J.bare, J.base, J.hok, rfl, q⟩
  | brk =>
    obtain ⟨_, _, _, q⟩ := hs
    exact (show False from q).elim
  | cont =>
    obtain ⟨_, _, _, q⟩ := hs
    exact (show False from q).elim
end
section
variable {G : Sg} {X : Cx} {W : WX} {k n : Nat} {a dd Dc f : Addr} {sem : Addr → Addr → List D → M D} {x : Str} {p pos : Pos} {e : Expr} {es : List Expr} {fa : List SV → M (List D)}
theorem v_callH (c : CtxH G X k a dd Dc) (F : FnHA X.prog X.w X.K X.mg X.base G k f Dc sem) (hg : Gl X x) (hm : X.mg x = some (.ref f)) (ha : PLn G X W n (e :: es) fa) (hs : (e :: es).all notStar = true) (hd : (x == ("__debug__" : Str)) = false) :
    PV G X W (.Call (.Name x p) (e :: es) [] pos) (fun sd => M.bind (fa sd) fun ds => noErr (sem a dd ds)) := by
  have hs2 : notStar e = true ∧ es.all notStar = true := by simpa using hs
  constructor
  intro pins s σ H Q I ⟨w0, w, sd, S, eH, r, q⟩
  refine wpAny_Call_Name_kw (ld_glob I hg hm ?_ hd)
  refine PySem.W.callWith_K (h₀ := X.base) I.ok.mod.kin F.kp (thn (ha.run pos pins s σ H (fun vs H1 => spV G (sem a dd) vs H1 Q C8.E0) I ?_) ?_) (starEach_cons hs2.1) (starEach_all hs2.2 pos)
  · exact ⟨w0, w, sd, S, eH, r, fin_step q fun w1 S1 ds vs e1 s1 rv q1 => ⟨w1, ds, S1, rfl, s1, rv.1, noErr_fin q1⟩⟩
  · rintro us s1 ⟨vs, H1, I1, rv, q1⟩
    refine ⟨I1.kIn, ?_⟩
    obtain ⟨o, hp, hot, hz, hv⟩ := c.pin
    have P1 := I1.pin (a, o) (List.mem_append_left _ hp)
    have pin : L2H.PinOk X.stack H1 s1 (a, o) := ⟨P1.1, P1.2.1, fun hm => (List.mem_cons.mp (I1.stkSub a hm)).elim P1.2.2.1 P1.2.2.2.1, P1.2.2.2.2⟩
    refine wpAny_call (codeAny_mono (F.run X.A X.stack s1 H1 us vs Q a dd o c.room c.gd hot pin hz hv I1.env0 rv q1) ?_)
    intro res s2 hq
    rcases res with er | fl
    · exact (show False from hq).elim
    · cases fl with
      | ret u => exact I1.after hq
      | next => exact hq.elim
      | brk => exact hq.elim
      | cont => exact hq.elim
end
end Ev
set_option maxRecDepth 100000
set_option maxHeartbeats 4000000
namespace Ev
open PySem PySem.Spec PyProof.Rows L2
section
open PySem.HandSPX Builtin Builtin.ObjectAttr
variable {prog : Program} {w : World} {A : Around} {E : Value → Shared → Prop} {R : Result → Shared → Prop} {hp : Heap} {g : Array GenState} {d : Drawn} {t : Nat} {os : OsState}
def refsT (tl : List Value) : List Value → Bool
  | .ref _ :: r => refsT tl r
  | l => l == tl
theorem refsT_cases (tl : List Value) : ∀ l : List Value, refsT tl l = true → (∃ c r, l = .ref c :: r ∧ refsT tl r = true) ∨ l = tl := by
  intro l e
  cases l with
  | nil => exact .inr (beq_iff_eq.mp e)
  | cons a r =>
    cases a with
    | ref c => exact .inl ⟨c, r, rfl, e⟩
    | _ => exact .inr (beq_iff_eq.mp e)
theorem refsT_pass {tl : List Value} (self : Value) (h0 : tl.isEmpty = false) (p : refuseLoop self "__setattr__" tl = pure ()) : ∀ l : List Value, refsT tl l = true → refuseLoop self "__setattr__" l = pure ()
  | [], e => by
    rcases refsT_cases tl [] e with ⟨_, _, q, _⟩ | q
    · cases q
    · rw [← q] at h0
      cases h0
  | a :: l, e => by
    rcases refsT_cases tl (a :: l) e with ⟨c, r, q, z⟩ | q
    · obtain ⟨rfl, rfl⟩ := List.cons.inj q
      rw [refuseLoop_ref]
      exact refsT_pass self h0 p l z
    · rw [q]
      exact p
theorem refsT_contains {tl : List Value} (Y : String) : ∀ l : List Value, refsT tl l = true → l.contains (.type Y) = tl.contains (.type Y)
  | [], e => by
    rcases refsT_cases tl [] e with ⟨_, _, q, _⟩ | q
    · cases q
    · rw [q]
  | a :: l, e => by
    rcases refsT_cases tl (a :: l) e with ⟨c, r, q, z⟩ | q
    · obtain ⟨rfl, rfl⟩ := List.cons.inj q
      rw [List.contains_cons, refsT_contains Y l z]
      rfl
    · rw [q]
theorem refsT_ne {tl : List Value} (h0 : tl.isEmpty = false) {l : List Value} (e : refsT tl l = true) : l.isEmpty = false := by
  cases l with
  | nil =>
    rcases refsT_cases tl [] e with ⟨_, _, q, _⟩ | q
    · cases q
    · rw [← q] at h0
      cases h0
  | cons _ _ => rfl
theorem osaT {tl : List Value} {K : PySem.W.Frag} {nm : Str} {tk : Tok} {y : Value} {x C : Addr} {fv : Array Value} {cd : ClassData} (h0 : tl.isEmpty = false) (hO : tl.contains (.type "object") = true) (pas : ∀ self, refuseLoop self "__setattr__" tl = pure ())
    (kin : K.In hp) (hx : hp.get? x = some { cls := .ref C, data := .fields fv }) (hC : PySem.W.clsIn K C = some cd) (hm : refsT tl cd.mro = true) (hd : cd.hasDict = true) (no : PySem.W.findIn K (.ref C) nm = some none)
    (fin : ∀ h2 tk2 dx, (∀ b o, b ≠ x → hp.get? b = some o → h2.get? b = some o) → hp.objs.size ≤ dx → dx ≠ x → h2.get? x = some { cls := .ref C, dict := some dx, data := .fields fv } →
      h2.Ns1 dx (fun z => if z = nm then some y else none) → R (.ok (.ret .none)) ⟨h2, g, d, tk2, os⟩) :
    codeAny (model prog w) A (.call (.builtin "object.__setattr__") ⟨[.ref x, .str nm tk, y], []⟩) R ⟨hp, g, d, t, os⟩ := by
  have inst : PySem.W.InstAt hp x { cls := .ref C, data := .fields fv } C none := ⟨hx, rfl, rfl, trivial⟩
  have fs := F.store_object
  have ne := refsT_ne h0 hm
  have ob : cd.mro.contains (.type "object") = true := (refsT_contains "object" _ hm).trans hO
  have xs : x ≠ hp.objs.size := Nat.ne_of_lt (Heap.lt_size hx)
  have isO : PySem.W.Looks (model prog w) hp (isInstance (.ref x) (.type "object")) true := by
    refine inst.type.andThen (PySem.W.looks_mroIn kin ?_)
    unfold PySem.W.mroIn
    rw [hC, Option.bind_some, if_neg (by rw [ne]; decide), ob]
  have mr : PySem.W.Looks (model prog w) hp (mroOf (.ref C)) cd.mro := (PySem.W.looks_clsIn kin hC).andThen .now
  have l3 : PySem.W.Looks (model prog w) hp (storeTaker? none) none := .now
  have cl : PySem.W.Looks (model prog w) hp (classData C) cd := PySem.W.looks_clsIn kin hC
  refine codeAny_call_builtin fs.slot.plain fs.entry (@PySem.W.check_slot (model prog w) _ _ ⟨hp, g, d, t, os⟩ "object.__setattr__" "object" "__setattr__" (.ref x) [.str nm tk, y] [] _ fs.kind fs.split isO (fs.args (.ref x) (.str nm tk) y) ?_)
  rw [PySem.W.osa_eq, refuse_eq]
  refine wpAny_bind (wpAny_bind (inst.type.at (wpAny_bind (mr.at ?_))))
  rw [refsT_pass _ h0 (pas _) _ hm]
  refine wpAny_pure (wpAny_bind (inst.type.at (wpAny_bind ((PySem.W.looks_findIn kin no).at (wpAny_bind (l3.at ?_))))))
  show wpAny _ _ (storeInOwnDict (.ref x) (.ref C) (.str nm tk) nm y false) _ _ _
  obtain ⟨_, _, _, _, _, hdc, _, _, _, _, _⟩ := cd
  dsimp only at hd
  subst hd
  unfold storeInOwnDict
  unfold ownDictForStores
  repeat (first | with_reducible refine store_in_new ?_ ?_ | with_reducible refine wpAny_loadPart_at hx ?_ | with_reducible refine cl.at ?_ | wp_step)
  · exact ⟨_, #[], _, (Heap.get?_update_ne _ _ _ _ xs.symm).trans (Heap.get?_push_at rfl rfl), rfl, fun e he => absurd he (by simp), fun _ => rfl⟩
  · intro h2 tk2 hn hs
    have x1 : (hp.push { cls := .type "dict", data := .dict #[] }).get? x = some { cls := .ref C, data := .fields fv } := Heap.get?_push_of_some _ hx
    refine fin h2 tk2 hp.objs.size (fun b o hb ho => ?_) (Nat.le_refl _) xs.symm ?_ hn
    · exact (hs.2 b (Nat.ne_of_lt (Heap.lt_size ho))).trans ((Heap.get?_update_ne _ _ _ _ hb).trans (Heap.get?_push_of_some _ ho))
    · exact (hs.2 x xs).trans (Heap.get?_update_self _ x1 rfl)
end
structure OexG (K : PySem.W.Frag) (C : Addr) : Prop where
  cls : ∃ (tl : List Value) (B newId initId : String), ∃ nm q N bs bm sn sub ab col dd k0 k1 k2 k3 k5, ExcBaseFacts B newId initId tl ∧ tl.isEmpty = false ∧ tl.contains (.type "object") = true ∧ (∀ self, refuseLoop self "__setattr__" tl = pure ()) ∧
    K.lookup C = some (excClassObj nm q C N bs bm true sn sub ab col dd k0 k1 k2 k3 k5 newId) ∧ refsT tl bm = true
  sa : PySem.W.findIn K (.ref C) "__setattr__" = some (some (.builtin "object.__setattr__"))
  exC : PySem.W.subIn K (.ref C) (.type "BaseException") = some true
  tyC : PySem.W.typeIn K (.ref C) = some (.type "type")
  kC : PySem.W.keepIn K (.ref C) = true
abbrev tlE (B : String) : List Value := [.type B, .type "Exception", .type "BaseException", .type "object"]
theorem pas_V : ∀ self, refuseLoop self "__setattr__" (tlE "ValueError") = pure () := F.store_ValueError.passes
theorem pas_L : ∀ self, refuseLoop self "__setattr__" (tlE "LookupError") = pure () := F.store_LookupError.passes
section
variable {X : Cx} {pins : List (Addr × Obj)} {σ : L2.St} {H : Hp} {s : Shared} {a C dx : Addr} {f : Str} {y : V} {u : Value} {fs : List (Str × V)} {Q : Unit → Shared → Prop} {E : Value → Shared → Prop} {A : Around}
theorem ost_newG (T : OexG X.K C) (I : Inv X pins σ H s) (e : H a = some (exo a C none)) (no : PySem.W.findIn X.K (.ref C) f = some none) (ry : RelV y u)
    (fin : ∀ dx s2, H dx = none → dx ≠ a → Inv X pins σ (upd (upd H dx (exd dx [(f, y)])) a (exo a C (some dx))) s2 → Q () s2) : wpAny (model X.prog X.w) A (setAttr (.ref a) f u) Q E s := by
  obtain ⟨tl, B, nI, iI, nm, q, N, bs, bm, sn, sub, ab, col, dd, k0, k1, k2, k3, k5, FB, t0, tO, pas, hC, hbm⟩ := T.cls
  have hcl : PySem.W.clsIn X.K C = some { name := nm, bases := bs, mro := .ref C :: bm, ns := N, qualname := q, hasDict := true, slotNames := sn, subclasses := sub, abstract := ab, collection := col, hasDel := false } := by
    unfold PySem.W.clsIn
    rw [hC] <;> rfl
  obtain ⟨t1, ho⟩ := exo_at I.hok e
  obtain ⟨hp, g, d, t, os⟩ := s
  refine PySem.W.set_plain I.kIn (ox := { cls := .ref C, dict := none, data := .fields #[.ref t1, .none, .none, .none, .bool false, .none] }) (od := none) ⟨ho, rfl, rfl, trivial⟩ T.sa (osaT t0 tO pas I.kIn ho hcl hbm rfl no fun h2 tk2 dx k dn dne hx hn => ?_)
  have free : H dx = none := I.hok.fresh dn
  have nd : ∀ {b : Addr} {o : Obj}, hp.get? b = some o → b ≠ dx := fun {b o} q => Nat.ne_of_lt (Nat.lt_of_lt_of_le (Heap.lt_size q) dn)
  have na : ∀ {b : Addr}, H b = none → b ≠ a := by
    intro b n z
    rw [z, e] at n
    cases n
  have un : Un X.fs [] H (upd (upd H dx (exd dx [(f, y)])) a (exo a C (some dx))) hp h2 := by
    constructor
    case keep => exact fun b o q n _ _ => k b o (na n) q
    case slot => exact fun b o q n _ _ => ⟨o.slots, k b o (na n) q⟩
    case free =>
      intro b o q n _
      rw [upd_ne (na n), upd_ne (nd q)]
      exact n
    case there =>
      intro b o q _
      by_cases hb : b = a
      · rw [hb]
        exact ⟨_, hx⟩
      · exact ⟨o, k b o hb q⟩
    case tups =>
      intro b xs q
      rw [upd_ne (at_ne e q exo_tup), upd_ne (ne_of_none q free)]
      exact q
    case frzs =>
      intro b o v q
      rw [upd_ne (at_ne e q exo_frz), upd_ne (ne_of_none q free)]
      exact q
    case tbls =>
      intro b ps q
      refine ⟨#[], ?_⟩
      rw [upd_ne (at_ne e q exo_tbl), upd_ne (ne_of_none q free), q]
      simp
  refine fin dx _ free dne (I.un (t' := tk2) un fun b o q => ?_)
  by_cases hb : b = a
  · subst hb
    rw [upd_same] at q
    cases q
    exact exo_ok hx
  rw [upd_ne hb] at q
  by_cases hd : b = dx
  · subst hd
    rw [upd_same] at q
    cases q
    exact exd_ok hn (relO_put (fs := []) ry fun g => True.intro)
  rw [upd_ne hd] at q
  refine (I.hok b o q).stay (fun c v hc z => k c v ?_ z) (fun c hc => ?_) (fun c xs hc => ?_)
  · rcases hc with hc | hc
    · rw [hc]
      exact hb
    · exact at_ne e hc exo_own
  · rw [upd_ne (at_ne e hc exo_own), upd_ne (ne_of_none hc free)]
    exact hc
  · rw [upd_ne (at_ne e hc exo_tup), upd_ne (ne_of_none hc free)]
    exact hc
end
def tOstG (K : PySem.W.Frag) (f : Str) (to te : TE) : TS := fun D σ H => te σ H fun y H1 => to σ H1 fun x H2 => ∃ a C : Addr, x = .ref a ∧ OexG K C ∧ PySem.W.findIn K (.ref C) f = some none ∧ H2 a = some (exo a C none) ∧
  ∀ dx, H2 dx = none → dx ≠ a → D.nx σ (upd (upd H2 dx (exd dx [(f, y)])) a (exo a C (some dx)))
theorem ps_ostG {X : Cx} {o e : Expr} {to te : TE} {f : Str} {p2 pos : Pos} (ho : PE X o to) (he : PE X e te) (hs : swapsWith e (some (.Attribute o f p2)) pos.line X.env = pure false := by rfl) : PS X (.Assign [.Attribute o f p2] e pos) (tOstG X.K f to te) := by
  constructor
  intro pins s σ H D I h
  refine plainObj_wpAny_Assign_Attribute (thn (he.run pins s σ H _ I h) ?_) hs
  rintro v s1 ⟨y, H1, I1, r1, q1⟩
  refine thn (ho.run pins s1 σ H1 _ I1 q1) ?_
  rintro u s2 ⟨x, H2, I2, r2, a, C, rfl, T, no, ea, q⟩
  obtain rfl : u = Value.ref a := r2
  exact ost_newG T I2 ea no r1 fun dx s3 n ne J => ⟨σ, _, J, q dx n ne⟩
def ErrForm (st : Stmt) (f slf par : Str) : Prop := ∃ p1 p2 p3 p4, defBody st = [.Assign [.Attribute (.Name slf p1) f p2] (.Name par p3) p4]
structure ErrT (K : PySem.W.Frag) (mg : Str → Option Value) (G : Sg) (cx : Nat) (x : Str) : Prop where
  ex : ∃ (C fI : Addr) (fd : FuncData) (st : Stmt) (qual slf par : Str), G.xc cx = .ref C ∧ mg x = some (.ref C) ∧ OexG K C ∧ PySem.W.findIn K (.ref C) "__init__" = some (some (.ref fI)) ∧ PySem.W.typeIn K (.ref fI) = some (.type "function") ∧ PySem.W.findIn K (.ref C) (G.xf cx) = some none ∧
    Fun K "__init__" qual st fI fd ∧ L2.Binds K fd [slf, par] [] ∧ FnScope [slf, par] [slf, par] (defScope st) ∧ ErrForm st (G.xf cx) slf par ∧ ((slf == ("__debug__" : Str)) = false ∧ (slf == ("__classdict__" : Str)) = false) ∧ (par == ("__debug__" : Str)) = false ∧ (par == ("__classdict__" : Str)) = false
def spErr (f : Str) : Sp := fun vs H Q _ => ∃ (a C : Addr) (y : V), vs = [.ref a, y] ∧ H a = some (exo a C none) ∧ ∀ dx, H dx = none → dx ≠ a → Q .non (upd (upd H dx (exd dx [(f, y)])) a (exo a C (some dx)))
section
variable {P : Program} {w : World} {K : PySem.W.Frag} {mg : Str → Option Value} {base : Heap}
theorem vis_par {N ps : List Str} {sc : Scope} {y : Str} (S : FnScope N ps sc) (h : y ∈ ps) : Vis sc y := (S.par y h).elim (fun z => .inl z) fun z => .inr (.inl z)
theorem err_init {fI : Addr} {fd : FuncData} {st : Stmt} {qual slf par f : Str} (Cok : ∀ C : Addr, Prop) (hC : ∀ C, Cok C → OexG K C ∧ PySem.W.findIn K (.ref C) f = some none) (F : Fun K "__init__" qual st fI fd) (S : FnScope [slf, par] [slf, par] (defScope st)) (e : ErrForm st f slf par) (d1 : (slf == ("__debug__" : Str)) = false) (d2 : (slf == ("__classdict__" : Str)) = false)
    (d3 : (par == ("__debug__" : Str)) = false) (d4 : (par == ("__classdict__" : Str)) = false) : FnOk P w K mg base C8.CX0 1 fI fd [slf, par] (fun vs H Q E => spErr f vs H Q E ∧ ∀ a C, vs.head? = some (V.ref a) → H a = some (exo a C none) → Cok C) := by
  obtain ⟨oc, od, kV, doc, pm, an, cdv, ct, osl, rfl, lk, hcd⟩ := F.ex
  refine fn_of (k := 0) lk hcd S (fun vs H Q E h => ?_) fun A fr s H vs Q E hr h => ?_
  · obtain ⟨⟨a, C, y, rfl, _⟩, _⟩ := h
    rfl
  · obtain ⟨p1, p2, p3, p4, eb⟩ := e
    obtain ⟨⟨a, C, y, rfl, ha, q⟩, ok⟩ := h
    rw [eb]
    refine ⟨_, pss_one (ps_ostG (pe_var (i := 0) rfl (vis_par S (by simp)) d1 d2) (pe_var (i := 1) rfl (vis_par S (by simp)) d3 d4)), ?_⟩
    obtain ⟨h1, h2⟩ := hC C (ok a C rfl ha)
    exact ⟨y, rfl, .ref a, rfl, a, C, rfl, h1, h2, ha, fun dx n ne => q dx n ne⟩
end
section
variable {G : Sg} {X : Cx} {W : WX} {k cx : Nat} {x : Str} {e : Expr} {fe : List SV → M D} {p pos pos' : Pos}
theorem mkErr (c : Ctx G X W k) (hk : 1 ≤ k) (T : ErrT X.K X.mg G cx x) (hg : Gl X x) (hdb : (x == ("__debug__" : Str)) = false) (he : PV G X W e fe) (hs : notStar e = true) :
    L2N.PMk X (.Call (.Name x p) [e] [] pos) (fun σ H Q => teV G W fe σ H fun y H1 => ∀ d, H1 d = none → Q (G.xc cx) (some d) (upd H1 d (.xd [(G.xf cx, y)]))) := by
  obtain ⟨C, fI, fd, st, qual, slf, par, eC, hm, TC, iC, tI, hno, F, hb, SC, ef, ⟨d1, d2⟩, d3, d4⟩ := T.ex
  have FI := err_init (P := X.prog) (w := X.w) (mg := X.mg) (base := X.base) (fun D => D = C) (fun D eD => by rw [eD]; exact ⟨TC, hno⟩) F SC ef d1 d2 d3 d4
  intro pins s σ H Q I h
  obtain ⟨tl, B, nI, iI, nm, q, N, bs, bm, sn, sub, ab, col, dd, k0, k1, k2, k3, k5, FB, t0, tO, pas, hC, hbm⟩ := TC.cls
  refine wpAny_Call_Name_kw (ld_glob I hg hm ?_ hdb)
  have hargs := (pa_cons he pa_nil (starEach_cons hs)).run pos pins s σ H (fun vs H1 => ∃ y, vs = [y] ∧ ∀ d, H1 d = none → Q (G.xc cx) (some d) (upd H1 d (.xd [(G.xf cx, y)]))) I ?_
  · refine PySem.W.callWith_K (h₀ := X.base) I.ok.mod.kin TC.kC (thn hargs ?_) (starEach_cons hs) (by rfl)
    rintro us s1 ⟨vs, H1, I1, rv, y, rfl, q1⟩
    refine ⟨I1.kIn, ?_⟩
    show wpAny _ _ (call (.ref C) us) _ _ _
    obtain ⟨hp, g, dr, tk, os⟩ := s1
    generalize ea : hp.objs.size + 1 = a
    have la : hp.objs.size ≤ a := by omega
    have na : H1 a = none := I1.hok.fresh la
    have kk : ∀ b o, hp.get? b = some o → ((hp.push (PySem.W.kdv_tup us)).push (PySem.HandSPX.excO C hp.objs.size)).get? b = some o := by
      intro b o z
      exact Heap.get?_push_of_some _ (Heap.get?_push_of_some _ z)
    have hget : ((hp.push (PySem.W.kdv_tup us)).push (PySem.HandSPX.excO C hp.objs.size)).get? a = some (PySem.HandSPX.excO C hp.objs.size) := by
      subst ea
      heap_get
    have I2 : Inv X pins σ (upd H1 a (exo a C none)) ⟨(hp.push (PySem.W.kdv_tup us)).push (PySem.HandSPX.excO C hp.objs.size), g, dr, tk, os⟩ := I1.laid (t' := tk) (a := a) (o := exo a C none) kk la (exo_ok hget)
    have r2 : Vals [V.ref a, y] (Value.ref a :: us) := .cons rfl rv
    have lu : us.length = 1 := rv.length.symm
    have bnd := hb _ (Value.ref a :: us) I2.kIn (by rw [List.append_nil, List.length_cons, lu]; rfl)
    rw [List.append_nil] at bnd
    have sp : spErr (G.xf cx) [V.ref a, y] (upd H1 a (exo a C none)) (fun v H2 => v = .non ∧ ∃ (d : Addr) (fs : List (Str × V)), H2 a = some (exo a C (some d)) ∧ H2 d = some (exd d fs) ∧ H1 d = none ∧ Q (.ref C) (some d) (upd (del H2 a) d (.xd fs))) C8.E0 := by
      refine ⟨a, C, y, rfl, upd_same, fun dx n ne => ⟨rfl, dx, [(G.xf cx, y)], upd_same, ?_, ?_, ?_⟩⟩
      · rw [upd_ne ne, upd_same]
      · rw [upd_ne ne] at n
        exact n
      · rw [upd_ne ne] at n
        have z := q1 dx n
        rw [eC] at z
        have eH : upd (del (upd (upd (upd H1 a (exo a C none)) dx (exd dx [(G.xf cx, y)])) a (exo a C (some dx))) a) dx (.xd [(G.xf cx, y)]) = upd H1 dx (.xd [(G.xf cx, y)]) := by
          funext b
          by_cases b1 : b = dx
          · rw [b1, upd_same, upd_same]
          · rw [upd_ne b1, upd_ne b1]
            by_cases b2 : b = a
            · rw [b2, del_same]
              exact na.symm
            · rw [del_ne b2, upd_ne b2, upd_ne b1, upd_ne b2]
        rw [eH]
        exact z
    have sp2 : ∀ a' C', [V.ref a, y].head? = some (V.ref a') → upd H1 a (exo a C none) a' = some (exo a' C' none) → C' = C := by
      intro a' C' e1 e2
      have e1 : a = a' := V.ref.inj (Option.some.inj e1)
      subst e1
      obtain ⟨t1, z1⟩ := exo_at I2.hok upd_same
      obtain ⟨t2, z2⟩ := exo_at I2.hok e2
      rw [z1] at z2
      exact (Value.ref.inj (congrArg Obj.cls (Option.some.inj z2))).symm
    have hr : Room 2 X.A := c.rm.room.mono (by omega)
    have run := FI.run _ X.stack _ _ ⟨Value.ref a :: us, []⟩ (Value.ref a :: us) _ _ C8.E0 (hr.make C us []) (I2.env0.make C us []) bnd r2 ⟨sp, sp2⟩
    subst ea
    refine wpAny_call (PySem.HandSPX.call_own FB (fun Y => refsT_contains Y bm hbm) (I1.kIn _ _ hC) (PySem.W.looks_findIn I1.kIn iC) (fun self => PySem.W.bind_fn I1.kIn self tI) (by rw [lu]; decide) (codeAny_mono run ?_))
    intro res s2 hq
    rcases res with er | fl
    · exact (show False from hq).elim
    · cases fl with
      | ret u =>
        obtain ⟨v, H2, os2, bare2, un2, hok2, rr, ev, d, fs, a2, d2', hd1, q2⟩ := hq
        subst ev
        obtain ⟨h2, g2, dr2, t2, os'⟩ := s2
        obtain ⟨t0, Gh, J, kG, ge, hoe, nz⟩ := mk_end0 (d2 := dr2) (t2 := t2) I1 la kk un2 hok2 os2 bare2 a2 d2' hd1
        refine ⟨rr, hp.objs.size + 1, _, _, ⟨Gh, g2, dr2, t2, os'⟩, _, .ref C, some d, rfl, J, kG, ge, hoe, ⟨rfl, rfl, fun vs hv => ?_⟩, rfl, rfl, nz, rfl, bare2, raises_own TC.exC TC.tyC, q2⟩
        cases hv
        rfl
      | next => exact hq.elim
      | brk => exact hq.elim
      | cont => exact hq.elim
  · obtain ⟨w0, w, sd, S, eH, r, q⟩ := h
    refine ⟨w0, w, sd, S, eH, r, ?_⟩
    rcases hf : fe sd S with _ | ⟨er | d, S1⟩
    · rw [hf] at q; exact q
    · rw [hf] at q; exact q
    · rw [hf] at q
      exact fun w' v e s rv => ⟨v, rfl, q w' v e s rv⟩
def raiseS (cx : Nat) (f : List SV → M D) : MS := exS f fun d sd S => some (.err ⟨cx, some d⟩ sd, S)
theorem s_raise (c : Ctx G X W k) (hk : 1 ≤ k) (tk : L2N.Takes X W) (T : ErrT X.K X.mg G cx x) (hg : Gl X x) (hdb : (x == ("__debug__" : Str)) = false) (he : PV G X W e fe) (hs : notStar e = true) : PSV G X W (.Raise (some (.Call (.Name x p) [e] [] pos)) none pos') (raiseS cx fe) := by
  refine PS.imp (L2N.ps_raise (pos := pos') c.calm tk (mkErr (p := p) (pos := pos) c hk T hg hdb he hs)) ?_
  rintro En σ H ⟨w0, w, sd, S, eH, r, q⟩
  refine ⟨w0, w, sd, S, eH, r, exS_step q r fun w1 S1 d v e1 r1 rv q1 => fun dd hd => ?_⟩
  have ez : Ext w1 (w1.frz dd (.xd [(G.xf cx, v)])) := Ext.frz hd
  refine q1 (w1.frz dd (.xd [(G.xf cx, v)])) σ (G.xc cx) (some dd) (ez.stay r1.st.dj) (r1.step ez (r1.st.frz hd)) ⟨rfl, dd, v, rfl, .inr rfl, upd_same, RepV.mono ez r1.st.dj d v rv⟩
end
end Ev
set_option maxRecDepth 100000
set_option maxHeartbeats 4000000
namespace Ev
open PySem PySem.Spec PyProof.Rows L2
structure FunC (K : PySem.W.Frag) (x qual : Str) (st : Stmt) (f cc : Addr) (fd : FuncData) : Prop where
  fn : Fun K x qual st f fd
  ex : ∃ (oc : Value) (od : Option Addr) (kV doc pm : Value) (an : Option Addr) (ct : Value) (osl : Array (Option Value)), fd = PySem.W.fnOf x qual (defArgs st) (defBody st) (defScope st) .none kV doc pm an (.ref cc) ct ∧ K.lookup f = some ⟨oc, od, .func fd, osl⟩ ∧ PySem.W.codeIn K (.ref cc) qual = true
section
variable {P : Program} {w : World} {K : PySem.W.Frag} {mg : Str → Option Value} {base : Heap} {G : Sg} {k : Nat} {f cc : Addr} {x qual : Str} {st : Stmt} {fd : FuncData} {N ps : List Str} {ms : MS}
def BodyC (P : Program) (w : World) (K : PySem.W.Frag) (mg : Str → Option Value) (base : Heap) (G : Sg) (k : Nat) (f cc : Addr) (N : List Str) (qual : Str) (st : Stmt) (ms : MS) : Prop :=
  ∀ (A : Around) (fr : List Env) (s : Shared) (H : Hp) (E : XK), Ctx G (XF P w K mg base N qual st f (.ref cc) A fr s H E) (WF E) k → PSsV G (XF P w K mg base N qual st f (.ref cc) A fr s H E) (WF E) (defBody st) ms
theorem fna_ruleC (F : FunC K x qual st f cc fd) (SC : FnScope N ps (defScope st)) (hb : Binds K fd ps []) (cK : G.K = K) (B : BodyC P w K mg base G k f cc N qual st ms) {m n : Nat} (em : ps.length = m) (en : N.length = n) (hmn : m ≤ n) :
    FnA P w K mg base G (k + 2) f (runFn m n ms) := by
  have kp := F.fn.kp
  obtain ⟨oc, od, kV, doc, pm, an, ct, osl, rfl, lk, hcd⟩ := F.ex
  have g := gn_of (sp := fun vs H Q E => vs.length = ps.length ∧ spT G N ms vs H Q E) (P := P) (w := w) (mg := mg) (base := base) (k := k + 1) lk hcd SC (fun _ _ _ _ z => z.1) (fun A fr s H vs Q E hr hsp => ⟨_, B A fr s H E (ctxF cK SC hr), hsp.2⟩)
  refine ⟨?_, kp⟩
  rintro A fr s H us vs Q E hr e0 r ⟨wd, ds, S, eH, rs, rv, q⟩
  unfold runFn at q
  split at q
  · next e =>
    subst em en
    have lv : vs.length = ps.length := rv.length.symm.trans e
    have inK : K.In s.heap := e0.mod.kin.keeps fun b o z => (e0.bs b o z).1
    have b2 := hb s us inK (by rw [List.append_nil, ← r.length]; exact lv)
    rw [List.append_nil] at b2
    exact g.run A fr s H ⟨us, []⟩ us vs Q E hr e0 b2 r ⟨lv, fin_body eH rs rv (by omega) q⟩
  · exact q.elim
end
def tbls (n : Nat) : List Ob := (List.range n).map .tbl
section
variable {P : Program} {w : World} {K : PySem.W.Frag} {mg mb : Str → Option Value} {G : Sg} {k : Nat} {fa a : Addr} {sem : List D → M D} {s₁ : Shared} {vs : List Value} {ns : List Int} {cs : List (Addr × Addr)}
theorem end_coreT (H : Hp) (KX : K.In s₁.heap) (hns : s₁.heap.Ns mainGlobals mg) (hb : s₁.heap.Ns builtinsNs mb) (hbb : ∀ x : Str, x ≠ "__name__" → mb x = bootBuiltins x) (hlim : s₁.heap.NoLimit) (hg : s₁.gens = #[])
    (hT : ∀ p ∈ cs, s₁.heap.get? p.2 = some { cls := .none, data := .fields #[] }) (nT : ∀ p ∈ cs, K.lookup p.2 = none) (C : ∀ p ∈ cs, PySem.W.CodeHd s₁.heap p.1 p.2) (nd : (cs.map (·.2)).Nodup)
    (hbm : ∃ (bm : Addr) (ob : Obj), mg "__builtins__" = some (.ref bm) ∧ bm ≠ builtinsNs ∧ s₁.heap.get? bm = some ob ∧ ob.cls = .type "module" ∧ ob.dict = some builtinsNs ∧ ob.data = .plain)
    (ha : s₁.heap.get? a = some { cls := .type "list", data := .seq vs.toArray }) (hr : Room k callerA) (cK : G.K = K) (hta : ∀ n (p : Addr × Addr), cs[n]? = some p → G.ta n = p.2)
    (F : ∀ base : Heap, K.In base → base.Ns mainGlobals mg → (∀ p ∈ cs, LamX.TabB base mg p.1 p.2) → FnA P w K mg base G k fa sem) (hsem : ∃ S, sem [.scr (ns.map D.int)] (tbls cs.length) = some (.ok (.bl true), S))
    (told : ∀ b u, H b = some u → (b = a ∧ ∃ o xs, u = .frz o (.lst xs)) ∨ (b ∈ cs.map (·.2) ∧ u = .tbl #[])) (tabs : ∀ p ∈ cs, H p.2 = some (.tbl #[])) (unK : H a ≠ none → K.lookup a = none) (hok : HOk P w H s₁.heap) (hS : SqL K H a (ns.map V.int)) :
    codeAny (model P w) callerA (.call (.ref fa) ⟨[.ref a], []⟩) (fun r s' => r = .ok (.ret (.bool true)) ∧ OldK s₁.heap s'.heap ∧ s'.os = s₁.os ∧ AllBare s'.gens) s₁ := by
  have isT : ∀ {b : Addr}, b ∈ cs.map (·.2) → s₁.heap.get? b = some { cls := .none, data := .fields #[] } := by
    intro b hb2
    obtain ⟨p, hp, e⟩ := List.mem_map.mp hb2
    rw [← e]
    exact hT p hp
  have aT : a ∉ cs.map (·.2) := by
    intro z
    have q := isT z
    rw [ha] at q
    have z2 : Data.seq vs.toArray _ = Data.fields #[] := congrArg Obj.data (Option.some.inj q)
    cases z2
  have same : ∀ {b : Addr} {o : Obj}, s₁.heap.get? b = some o → b ≠ a → o.data ≠ .fields #[] → (hidT s₁.heap H).get? b = some o := by
    intro b o e ne nf
    refine hidT_get e ?_
    rcases q : H b with _ | u
    · rfl
    · rcases told b u q with z | z
      · exact absurd z.1 ne
      · rw [isT z.1] at e
        cases e
        exact absurd rfl nf
  have asNs : ∀ {b : Addr} {m : Str → Option Value}, s₁.heap.Ns b m → (hidT s₁.heap H).Ns b m := by
    rintro b m ⟨o, es, ep, e, d, r⟩
    refine ⟨o, es, ep, same e ?_ (by rw [d]; exact fun z => nomatch z), d, r⟩
    rintro rfl
    rw [ha] at e
    cases e
    exact Data.noConfusion d
  have inK : K.In (hidT s₁.heap H) := by
    intro b o e
    have there := KX b o e
    rcases q : H b with _ | u
    · exact hidT_get there q
    · rcases told b u q with ⟨rfl, _⟩ | z
      · rw [unK (by rw [q]; exact fun z => nomatch z)] at e
        cases e
      · obtain ⟨p, hp, ep⟩ := List.mem_map.mp z.1
        rw [← ep, nT p hp] at e
        cases e
  have md : Mod K mg (hidT s₁.heap H) := by
    obtain ⟨mc, l1, l2⟩ := hlim
    exact ⟨inK, asNs hns, ⟨mb, asNs hb, hbb⟩, ⟨mc, asNs l1, l2⟩⟩
  have gl : ∀ {b : Addr}, b ∈ cs.map (·.2) → mainGlobals ≠ b := by
    intro b hb2 z
    obtain ⟨o, es, ep, e, d, _⟩ := hns
    rw [z, isT hb2] at e
    cases e
    cases d
  have TB : ∀ p ∈ cs, LamX.TabB (hidT s₁.heap H) mg p.1 p.2 := by
    intro p hp
    have mp : p.2 ∈ cs.map (·.2) := List.mem_map.mpr ⟨p, hp, rfl⟩
    refine ⟨?_, ?_, gl mp⟩
    · obtain ⟨o, us, file, tf, flags, tg, inF, text, tt, e1, r1, r2, r3, rr⟩ := C p hp
      refine ⟨o, us, file, tf, flags, tg, inF, text, tt, same e1 ?_ ?_, r1, r2, r3, rr⟩
      · rintro z
        rw [z, ha] at e1
        cases e1
        cases r2
      · intro z
        rw [r2] at z
        cases z
        simp at r3
    · obtain ⟨bm, ob, b1, b2, b3, b4, b5, b6⟩ := hbm
      refine ⟨bm, ob, b1, b2, ?_, ?_, same b3 ?_ (by rw [b6]; exact fun z => nomatch z), b4, b5, b6⟩
      · intro q
        obtain ⟨o, es, ep, e, d, _⟩ := hns
        rw [q, e] at b3
        cases b3
        rw [d] at b6
        cases b6
      · intro q
        rw [q, hT p hp] at b3
        cases b3
        cases b6
      · intro q
        rw [q, ha] at b3
        cases b3
        cases b6
  have e0 : Env0 P w K mg (hidT s₁.heap H) callerA [] s₁ H := ⟨rfl, md, fun b o e => of_hidT e, Nat.le_of_eq (hidT_size _ _), trivial, fun b z => absurd (show b ∈ ([] : List Addr) from z) (by simp), hok, .of_eq hg⟩
  obtain ⟨S, hsem⟩ := hsem
  have numsR : ∀ (wd : Wd) (l : List Int), RepVs G wd (l.map D.int) (l.map V.int) := fun wd l => by
    induction l with
    | nil => rfl
    | cons z l ih => exact ⟨_, _, rfl, rfl, ih⟩
  have start : spV G sem [.ref a] H (fun v _ => v = .bl true) fun _ _ _ => False := by
    refine ⟨⟨cs.map (·.2), fun b => H b ≠ none ∧ b ∉ cs.map (·.2), H, none⟩, [.scr (ns.map D.int)], tbls cs.length, rfl, ⟨?_, nd, fun b z => z.2, fun b z => z.1, fun n b o z1 z2 => ?_⟩, ⟨.ref a, [], rfl, ⟨a, _, rfl, ?_, numsR _ ns⟩, rfl⟩, ?_⟩
    · simp [tbls]
    · have z1 : (cs.map (·.2))[n]? = some b := z1
      rw [List.getElem?_map] at z1
      rcases hp : cs[n]? with _ | p
      · rw [hp] at z1; cases z1
      · rw [hp] at z1
        obtain rfl : p.2 = b := Option.some.inj z1
        have hn : n < cs.length := (List.getElem?_eq_some_iff.mp hp).1
        have z3 : (tbls cs.length)[n]? = some (.tbl n) := by
          unfold tbls
          rw [List.getElem?_map, List.getElem?_range hn]
          rfl
        rw [z3] at z2
        obtain rfl := Option.some.inj z2
        have mp : p ∈ cs := List.mem_of_getElem? hp
        refine ⟨(hta n p hp).symm, List.mem_map.mpr ⟨p, mp, rfl⟩, #[], tabs p mp, True.intro, fun pos cv hcv => ?_⟩
        have z : codeAmong pos [] = some cv := hcv
        simp [codeAmong] at z
    · rcases hS with z | z
      · refine .inl ⟨⟨?_, aT⟩, z⟩
        rcases z with z | ⟨o, z⟩
        · rw [z]; exact fun q => nomatch q
        · rw [z]; exact fun q => nomatch q
      · rw [← cK] at z
        exact .inr z
    · rw [hsem]
      exact fun w' v _ _ rv => rv
  have vals : Vals [V.ref a] [Value.ref a] := .cons rfl .nil
  refine codeAny_mono ((F _ inK (asNs hns) TB).run callerA [] s₁ H [.ref a] [.ref a] _ _ ⟨hr, fun _ => rfl⟩ e0 vals start) ?_
  rintro (er | fl) s' got
  · obtain ⟨_, _, _, _, _, _, _, _, _, _, _, _, z⟩ := got
    exact z.elim
  · cases fl with
    | next => exact got.elim
    | brk => exact got.elim
    | cont => exact got.elim
    | ret u =>
      obtain ⟨v, Ho, os, bare, un, hok2, rv, rfl⟩ := got
      obtain rfl : u = Value.bool true := rv
      have kept : ∀ b o, b ∉ cs.map (·.2) → s₁.heap.get? b = some o → s'.heap.get? b = some o := by
        intro b o nb e
        rcases q : H b with _ | u
        · exact un.keep b o e q (fun z => absurd (show b ∈ ([] : List Addr) from z) (by simp)) (by simp)
        · rcases told b u q with ⟨rfl, ob, xs, rfl⟩ | z
          · have k2 := un.frzs b ob _ q
            obtain ⟨e1, _⟩ := hok b _ q
            obtain ⟨e2, _⟩ := hok2 b _ k2
            rw [e] at e1
            cases e1
            exact e2
          · exact absurd z.1 nb
      have grown : ∀ p ∈ cs, ∃ more : Array Value, s'.heap.get? p.2 = some { cls := .none, data := .fields more } := by
        intro p hp
        obtain ⟨more, z⟩ := un.tbls p.2 #[] (tabs p hp)
        exact ⟨_, hok2 p.2 _ z⟩
      refine ⟨rfl, ⟨fun b o e => ?_, fun b o e => ?_⟩, os, bare⟩
      · by_cases hb2 : b ∈ cs.map (·.2)
        · obtain ⟨p, hp, ep⟩ := List.mem_map.mp hb2
          obtain ⟨more, hm⟩ := grown p hp
          rw [← ep] at e ⊢
          rw [hT p hp] at e
          cases e
          exact .inr (.inl ⟨((C p hp).tab (hT p hp)).isCodeTable, rfl, #[], more, rfl, by rw [Array.empty_append]; exact hm⟩)
        · exact .inl (kept b o hb2 e)
      · by_cases hb2 : b ∈ cs.map (·.2)
        · obtain ⟨p, hp, ep⟩ := List.mem_map.mp hb2
          obtain ⟨more, hm⟩ := grown p hp
          rw [← ep]
          exact ⟨_, hm⟩
        · exact ⟨o, kept b o hb2 e⟩
theorem end_callT (KX : K.In s₁.heap) (hns : s₁.heap.Ns mainGlobals mg) (hb : s₁.heap.Ns builtinsNs mb) (hbb : ∀ x : Str, x ≠ "__name__" → mb x = bootBuiltins x) (hlim : s₁.heap.NoLimit) (hg : s₁.gens = #[])
    (hT : ∀ p ∈ cs, s₁.heap.get? p.2 = some { cls := .none, data := .fields #[] }) (nT : ∀ p ∈ cs, K.lookup p.2 = none) (C : ∀ p ∈ cs, PySem.W.CodeHd s₁.heap p.1 p.2) (nd : (cs.map (·.2)).Nodup)
    (hbm : ∃ (bm : Addr) (ob : Obj), mg "__builtins__" = some (.ref bm) ∧ bm ≠ builtinsNs ∧ s₁.heap.get? bm = some ob ∧ ob.cls = .type "module" ∧ ob.dict = some builtinsNs ∧ ob.data = .plain)
    (ha : s₁.heap.get? a = some { cls := .type "list", data := .seq vs.toArray }) (hi : IntsAre vs ns) (hl : ns.length ≤ sizeLine) (hr : Room k callerA) (cK : G.K = K) (hta : ∀ n (p : Addr × Addr), cs[n]? = some p → G.ta n = p.2)
    (F : ∀ base : Heap, K.In base → base.Ns mainGlobals mg → (∀ p ∈ cs, LamX.TabB base mg p.1 p.2) → FnA P w K mg base G k fa sem) (hsem : ∃ S, sem [.scr (ns.map D.int)] (tbls cs.length) = some (.ok (.bl true), S)) :
    codeAny (model P w) callerA (.call (.ref fa) ⟨[.ref a], []⟩) (fun r s' => r = .ok (.ret (.bool true)) ∧ OldK s₁.heap s'.heap ∧ s'.os = s₁.os ∧ AllBare s'.gens) s₁ := by
  have rv := vals_ints hi
  have size : vs.length ≤ sizeLine := by
    rw [hi.length]
    exact hl
  have aT : a ∉ cs.map (·.2) := by
    intro z
    obtain ⟨p, hp, e⟩ := List.mem_map.mp z
    have q := hT p hp
    rw [e, ha] at q
    have z2 : Data.seq vs.toArray _ = Data.fields #[] := congrArg Obj.data (Option.some.inj q)
    cases z2
  have mem : ∀ p ∈ cs, p.2 ∈ cs.map (·.2) := fun p hp => List.mem_map.mpr ⟨p, hp, rfl⟩
  have there : ∀ {b : Addr}, b ∈ cs.map (·.2) → s₁.heap.get? b = some { cls := .none, data := .fields #[] } := by
    intro b z
    obtain ⟨p, hp, e⟩ := List.mem_map.mp z
    rw [← e]
    exact hT p hp
  rcases hk : K.lookup a with _ | o
  · refine end_coreT (fun b => if b = a then some (.frz { cls := .type "list", data := .seq vs.toArray } (.lst (ns.map V.int))) else if b ∈ cs.map (·.2) then some (.tbl #[]) else none) KX hns hb hbb hlim hg hT nT C nd hbm ha hr cK hta F hsem (fun b u z => ?_) (fun p hp => ?_) (fun _ => hk) (fun b u z => ?_) (.inl (.inr ⟨_, if_pos rfl⟩))
    · by_cases e : b = a
      · exact .inl ⟨e, _, _, (Option.some.inj ((if_pos e).symm.trans z)).symm⟩
      · have z2 := (if_neg e).symm.trans z
        by_cases e2 : b ∈ cs.map (·.2)
        · exact .inr ⟨e2, (Option.some.inj ((if_pos e2).symm.trans z2)).symm⟩
        · cases (if_neg e2).symm.trans z2
    · have ne : ¬ p.2 = a := fun z => aT (z ▸ mem p hp)
      show (if p.2 = a then _ else if p.2 ∈ cs.map (·.2) then _ else _) = _
      rw [if_neg ne, if_pos (mem p hp)]
    · by_cases e : b = a
      · cases (if_pos e).symm.trans z
        subst e
        exact ⟨ha, by rw [List.length_map]; exact hl, vs, _, rv, ha⟩
      · have z2 := (if_neg e).symm.trans z
        by_cases e2 : b ∈ cs.map (·.2)
        · cases (if_pos e2).symm.trans z2
          exact there e2
        · cases (if_neg e2).symm.trans z2
  · have old := KX a o hk
    rw [ha] at old
    cases old
    refine end_coreT (fun b => if b ∈ cs.map (·.2) then some (.tbl #[]) else none) KX hns hb hbb hlim hg hT nT C nd hbm ha hr cK hta F hsem (fun b u z => ?_) (fun p hp => if_pos (mem p hp)) (fun z => absurd (if_neg aT) z) (fun b u z => ?_) (.inr ⟨_, vs.toArray, _, hk, rfl, rfl, rfl, by rw [List.size_toArray]; exact size, by simpa using rv⟩)
    · by_cases e2 : b ∈ cs.map (·.2)
      · exact .inr ⟨e2, (Option.some.inj ((if_pos e2).symm.trans z)).symm⟩
      · cases (if_neg e2).symm.trans z
    · by_cases e2 : b ∈ cs.map (·.2)
      · cases (if_pos e2).symm.trans z
        exact there e2
      · cases (if_neg e2).symm.trans z
end
theorem end_walkT {l : PySem.W.OpenLaw} {n k m : Nat} {q : Program} {loose : List Str} {XP : (Str → Option Value) → Heap → Prop} {YP : World → Heap → Prop} {d : DefRec} {sem : List D → M D}
    (hn : l.most = some n) (hn2 : n ≤ sizeLine) (hdf : d.params.defaults = []) (hr : Room k callerA)
    (F : ∀ (w : World) (mg : Str → Option Value) (fa : Addr) (h : Heap), YP w h → h.Ns mainGlobals mg → mg d.name = some (.ref fa) → ∃ (K : PySem.W.Frag) (G : Sg) (cs : List (Addr × Addr)), K.In h ∧ G.K = K ∧ cs.length = m ∧
      (∀ p ∈ cs, h.get? p.2 = some { cls := .none, data := .fields #[] }) ∧ (∀ p ∈ cs, K.lookup p.2 = none) ∧ (∀ p ∈ cs, PySem.W.CodeHd h p.1 p.2) ∧ (cs.map (·.2)).Nodup ∧ (∀ n (p : Addr × Addr), cs[n]? = some p → G.ta n = p.2) ∧
      ∀ base : Heap, K.In base → base.Ns mainGlobals mg → (∀ p ∈ cs, LamX.TabB base mg p.1 p.2) → FnA l.prog w K mg base G k fa sem)
    (hsem : ∀ ns : List Int, ns.length ≤ n → (∀ z ∈ ns, Builtin.Int.intBits z ≤ 1048576) → ∃ S, sem [.scr (ns.map D.int)] (tbls m) = some (.ok (.bl true), S)) :
    PySem.W.WalkO q loose XP YP l.row.toRowW d [] (fun f vs => PySem.call f vs) := by
  refine Att.attach_callB hn hdf fun w s₀ s₁ mg mb fa o pm cd doc a vs ns Gr Y ho hd hcd hmg hobj hints hlen hbits hg => ?_
  obtain ⟨K, G, cs, KX, cK, rfl, hT, nT, C, nd, hta, hF⟩ := F w mg fa _ Y Gr.T.g hmg
  exact end_callT KX Gr.T.g Gr.T.b Gr.T.builtins Gr.T.nolimit hg hT nT C nd Gr.T.bmain hobj hints (Nat.le_trans hlen hn2) hr cK hta hF (hsem ns hlen hbits)
end Ev
set_option maxRecDepth 100000
set_option maxHeartbeats 4000000
namespace Ev
open PySem PySem.Spec PyProof.Rows L2
theorem ctxSu {P : Program} {w : World} {K : PySem.W.Frag} {mg : Str → Option Value} {base : Heap} {G : Sg} {N : List Str} {qual : Str} {st : Stmt} {f : Addr} {cdv : Value} {A : Around} {fr : List Env} {s : Shared} {H : Hp} {k : Nat} {a dd Dc : Addr} {oe : Obj} {pn : List (Addr × Obj)} {ps : List Str} (cK : G.K = K) (SC : FnScope N ps (defScope st))
    (hr : Rm G.gd (k + 1) (A.deeper (envOfC qual (defScope st) s.heap.objs.size f cdv))) (hz : L2N.Zn (.ref Dc) (some dd) oe) (hv : ∃ vs, oe.data = .fields vs) : CtxH G ((XC P w K mg base N qual st f cdv A fr s H).nox.suite a ((a, oe) :: pn)) (k + 1) a dd Dc := by
  refine ⟨cK, SC.nd, ⟨hr.room.dp, hr.room.un⟩, hr.gd, oe, List.mem_cons_self, ⟨rfl, ?_⟩, hz, hv⟩
  obtain ⟨vs, e⟩ := hv
  exact ⟨vs, e, hz.2.2 vs e⟩
theorem FnHA.mono {P : Program} {w : World} {K : PySem.W.Frag} {mg : Str → Option Value} {base : Heap} {G : Sg} {j k : Nat} {f Dc : Addr} {sem : Addr → Addr → List D → M D} (F : FnHA P w K mg base G j f Dc sem) (h : j ≤ k) : FnHA P w K mg base G k f Dc sem :=
  ⟨fun A fr s H us vs Q a dd o hr => F.run A fr s H us vs Q a dd o (hr.mono h), F.kp⟩
theorem dRepr_two (d : D) : (∃ u, dRepr d = M.pure u) ∨ dRepr d = dReprP d ∨ dRepr d = M.stuck := by
  unfold dRepr
  split
  · exact .inl ⟨_, rfl⟩
  · split
    · exact .inl ⟨_, rfl⟩
    · exact .inr (.inr rfl)
  · rcases hp : toP d with _ | p
    · simp only
      unfold dReprI
      rcases itP d with _ | p
      · exact .inr (.inr rfl)
      · simp only
        by_cases h : reprOkI p = true
        · rw [if_pos h]
          exact .inl ⟨_, rfl⟩
        · rw [if_neg h]
          exact .inr (.inr rfl)
    · exact .inr (.inl rfl)
theorem dRepr_cases (d : D) : (∃ u, dRepr d = M.pure u) ∨ dRepr d = M.stuck := by
  rcases dRepr_two d with h | h | h
  · exact .inl h
  rotate_left
  · exact .inr h
  rw [h]
  unfold dReprP
  rcases toP d with _ | p
  · exact .inr rfl
  · simp only
    by_cases h : reprOk p = true
    · rw [if_pos h]
      exact .inl ⟨_, rfl⟩
    · rw [if_neg h]
      exact .inr rfl
theorem dRepr_at {d u : D} {S S' : List Ob} (h : dRepr d S = some (.ok u, S')) : S' = S ∧ dRepr d = M.pure u := by
  rcases dRepr_cases d with ⟨u', e⟩ | e
  · rw [e] at h
    have h2 : some (Except.ok u', S) = some (Except.ok u, S') := h
    cases h2
    exact ⟨rfl, e⟩
  · rw [e] at h
    cases h
theorem dRepr_noerr {d : D} {x : Exn} {S S' : List Ob} : dRepr d S ≠ some (.error x, S') := by
  intro h
  rcases dRepr_cases d with ⟨u', e⟩ | e
  · rw [e] at h
    cases h
  · rw [e] at h
    cases h
def isaC (sub : Nat → Option Bool) (bt : String → Option Bool) : D → M D
  | .cls c => match sub c with | some r => M.pure (.bl r) | none => M.stuck
  | .raw (.ty n) _ _ _ => match bt n with | some r => M.pure (.bl r) | none => M.stuck
  | _ => M.stuck
theorem isaH_at {a dd : Addr} {sub : Nat → Option Bool} {bt : String → Option Bool} {f : Str} {fs : List Str} {ds : List D} (e : D) : isaH a dd sub bt (.raw (.ref a) dd (f :: fs) ds) e = isaC sub bt e := by
  cases e with
  | raw u d2 f2 e2 => cases u <;> simp [isaH, isaC] <;> rfl
  | _ => simp [isaH, isaC] <;> rfl
theorem attrH_at {a dd : Addr} {f n : Str} {d : D} : attrH a dd n (.raw (.ref a) dd [f] [d]) = if f = n then M.pure d else M.stuck := by
  simp [attrH]
end Ev
set_option maxHeartbeats 1000000
namespace Ev
theorem spots_keep {t : TgP} {fe : List SV → M D} {sdw : List SV} {n : Nat} (I : List Ob → Prop) (hn : n ≤ 100) (S : List Ob) (hI : I S)
    (turn : ∀ i : Int, 0 ≤ i → i < 100 → ∀ S, I S → ∃ sd1, t (.int i) sdw = some sd1 ∧ Wp (fe sd1) S fun y S' => y = .bl true ∧ I S') :
    Wp (compS t (fun _ => M.pure true) fe sdw (rngD 0 n) []) S fun acc _ => dAll (.lst acc) = M.pure (.bl true) := by
  refine go_comp (J := fun ds acc S => I S ∧ (∀ d ∈ ds, ∃ i : Int, d = .int i ∧ 0 ≤ i ∧ i < 100) ∧ (∀ a ∈ acc, a = .bl true) ∧ acc.length + ds.length ≤ 100) ?_ (fun acc S h => all_true h.2.2.1) _ _ _ ⟨hI, fun d hd => ?_, fun a ha => absurd ha List.not_mem_nil, ?_⟩
  · rintro d ds acc S ⟨hi, hd, ha, hl⟩
    obtain ⟨i, rfl, h0, h1⟩ := hd d List.mem_cons_self
    obtain ⟨sd1, e, hw⟩ := turn i h0 h1 S hi
    rw [List.length_cons] at hl
    refine ⟨sd1, e, by unfold lim; omega, go_pure (ite_t (hw.mono ?_))⟩
    rintro y S2 ⟨rfl, hi2⟩
    refine ⟨hi2, fun d q => hd d (List.mem_cons_of_mem _ q), fun a q => ?_, ?_⟩
    · rcases List.mem_append.mp q with q | q
      · exact ha a q
      · exact List.mem_singleton.mp q
    · rw [List.length_append, List.length_singleton]
      omega
  · obtain ⟨i, e, h0, h1⟩ := rng_mem hd
    exact ⟨i, e, h0, by omega⟩
  · rw [rng_len, List.length_nil]
    omega
open PySem PySem.Spec PyProof.Rows L2 in
theorem errT_of {K : PySem.W.Frag} {mg : Str → Option Value} {G : Sg} {cx : Nat} {x : Str} {C fI : Addr} {fd : FuncData} {st : Stmt} {qual slf par f : Str} (hx : G.xc cx = .ref C) (hm : mg x = some (.ref C)) (hf : G.xf cx = f) (O : OexG K C)
    (hi : PySem.W.findIn K (.ref C) "__init__" = some (some (.ref fI))) (ht : PySem.W.typeIn K (.ref fI) = some (.type "function")) (hn : PySem.W.findIn K (.ref C) f = some none) (F : Fun K "__init__" qual st fI fd) (hb : L2.Binds K fd [slf, par] [])
    (S : FnScope [slf, par] [slf, par] (defScope st)) (E : ErrForm st f slf par) (d1 : (slf == ("__debug__" : Str)) = false) (d2 : (slf == ("__classdict__" : Str)) = false) (d3 : (par == ("__debug__" : Str)) = false) (d4 : (par == ("__classdict__" : Str)) = false) : ErrT K mg G cx x := by
  subst hf
  exact ⟨C, fI, fd, st, qual, slf, par, hx, hm, O, hi, ht, hn, F, hb, S, E, ⟨d1, d2⟩, d3, d4⟩
end Ev
set_option maxRecDepth 100000
set_option maxHeartbeats 1000000
namespace Ev
open PySem L2
@[irreducible] def Xp {α : Type} (f : M α) (S : List Ob) (P : α → List Ob → Prop) (E : Exn → List Ob → Prop) : Prop := match f S with
  | some (.ok a, S') => P a S'
  | some (.error e, S') => E e S'
  | none => False
@[irreducible] def Xs (m : MS) (sd : List SV) (S : List Ob) (N : List SV → List Ob → Prop) (R : D → List Ob → Prop) (B C : List SV → List Ob → Prop) (E : Exn → List Ob → Prop) : Prop := match m sd S with
  | some (.next sd', S') => N sd' S'
  | some (.ret d, S') => R d S'
  | some (.brk sd', S') => B sd' S'
  | some (.cont sd', S') => C sd' S'
  | some (.err e _, S') => E e S'
  | none => False
section
variable {α β : Type} {f : M α} {S : List Ob} {P P' : α → List Ob → Prop} {E E' : Exn → List Ob → Prop} {sd : List SV} {N N' : List SV → List Ob → Prop} {R R' : D → List Ob → Prop} {B B' C C' : List SV → List Ob → Prop} {m1 m2 : MS}
theorem xp_wp (h : Wp f S P) : Xp f S P E := by
  obtain ⟨a, S', e, q⟩ := h.ex
  unfold Xp
  rw [e]
  exact q
theorem xp_err {e : Exn} (h : E e S) : Xp (M.err e : M α) S P E := by
  unfold Xp M.err
  exact h
theorem xp_bad {e : Exn} (z : f = M.err e) (h : E e S) : Xp f S P E := by
  subst z
  exact xp_err h
theorem xp_at {e : Exn} {S' : List Ob} (z : f S = some (.error e, S')) (h : E e S') : Xp f S P E := by
  unfold Xp
  rw [z]
  exact h
theorem xp_bind {k : α → M β} {Q : β → List Ob → Prop} (h : Xp f S (fun a S' => Xp (k a) S' Q E) E) : Xp (M.bind f k) S Q E := by
  unfold Xp M.bind at *
  rcases hf : f S with _ | ⟨_ | a, S'⟩
  · rw [hf] at h; exact h
  · rw [hf] at h; exact h
  · rw [hf] at h; exact h
theorem Xp.mono (h : Xp f S P E) (i : ∀ a S', P a S' → P' a S') (j : ∀ e S', E e S' → E' e S') : Xp f S P' E' := by
  unfold Xp at *
  rcases hf : f S with _ | ⟨_ | a, S'⟩
  · rw [hf] at h; exact h
  · rw [hf] at h; exact j _ _ h
  · rw [hf] at h; exact i _ _ h
theorem Xp.err {e : Exn} (h : Xp f S (fun _ _ => False) (fun e' S' => e' = e ∧ S' = S)) : f S = some (.error e, S) := by
  unfold Xp at h
  rcases hf : f S with _ | ⟨e' | a, S'⟩
  · rw [hf] at h; exact h.elim
  · rw [hf] at h
    obtain ⟨rfl, rfl⟩ := h
    rfl
  · rw [hf] at h; exact h.elim
theorem err_eq {e : Exn} (h : ∀ S, Xp f S (fun _ _ => False) (fun e' S' => e' = e ∧ S' = S)) : f = M.err e := by
  funext S
  exact (h S).err
theorem xs_next (h : N sd S) : Xs nextS sd S N R B C E := by
  unfold Xs
  exact h
theorem xs_seq (h : Xs m1 sd S (fun sd' S' => Xs m2 sd' S' N R B C E) R B C E) : Xs (seqS m1 m2) sd S N R B C E := by
  unfold Xs seqS at *
  rcases e : m1 sd S with _ | ⟨_ | _ | _ | _ | _, S'⟩
  all_goals (rw [e] at h; exact h)
theorem xs_exX {g : List SV → M α} {k : α → MS} (h : Xp (g sd) S (fun a S' => Xs (k a) sd S' N R B C E) E) : Xs (exS g k) sd S N R B C E := by
  unfold Xp at h
  unfold Xs exS
  unfold Xs at h
  rcases e : g sd S with _ | ⟨_ | a, S'⟩
  · rw [e] at h; exact h
  · rw [e] at h; exact h
  · rw [e] at h; exact h
theorem xs_ex {g : List SV → M α} {k : α → MS} (h : Wp (g sd) S fun a S' => Xs (k a) sd S' N R B C E) : Xs (exS g k) sd S N R B C E := xs_exX (xp_wp h)
theorem xs_if {g : List SV → M Bool} (h : Wp (g sd) S fun k S' => if k = true then Xs m1 sd S' N R B C E else Xs m2 sd S' N R B C E) : Xs (exS g fun k => if k = true then m1 else m2) sd S N R B C E :=
  xs_ex (h.mono fun k S' q => by cases k <;> exact q)
theorem xs_raise {c : Nat} {g : List SV → M D} (h : Wp (g sd) S fun d S' => E ⟨c, some d⟩ S') : Xs (raiseS c g) sd S N R B C E := by
  unfold raiseS
  refine xs_ex (h.mono fun d S' q => ?_)
  unfold Xs
  exact q
theorem xs_expr {g : List SV → M α} (h : Xp (g sd) S (fun _ S' => N sd S') E) : Xs (exS g fun _ => nextS) sd S N R B C E := xs_exX (h.mono (fun _ _ q => xs_next q) fun _ _ q => q)
theorem xp_get {i : Nat} {d : D} {PD : D → List Ob → Prop} (e : sd[i]? = some (.val d)) (h : PD d S) : Xp (getv i sd) S PD E := xp_wp (go_get e h)
theorem xp_pure {a : α} (h : P a S) : Xp (M.pure a) S P E := xp_wp (go_pure h)
theorem xp_ite {c : Prop} [Decidable c] {g : M α} (h : if c then Xp f S P E else Xp g S P E) : Xp (if c then f else g) S P E := by
  by_cases z : c
  · rw [if_pos z] at h ⊢
    exact h
  · rw [if_neg z] at h ⊢
    exact h
theorem xs_asgX {g : List SV → M D} {i : Nat} (h : Xp (g sd) S (fun d S' => N (sd.set i (.val d)) S') E) : Xs (asgS g (setT i)) sd S N R B C E := by
  unfold asgS
  refine xs_exX (h.mono (fun d S' q => ?_) fun _ _ h => h)
  unfold Xs
  exact q
theorem xs_asg {g : List SV → M D} {i : Nat} (h : Wp (g sd) S fun d S' => N (sd.set i (.val d)) S') : Xs (asgS g (setT i)) sd S N R B C E := xs_asgX (xp_wp h)
theorem xs_for {g : List SV → M (List D)} {t : Tgt} {body : MS} (h : Wp (g sd) S fun ds S' => Xs (loopS t body ds) sd S' N R B C E) : Xs (forS g t body) sd S N R B C E := by
  unfold forS
  exact xs_ex h
theorem xp_fn {m n : Nat} {ms : MS} {ds : List D} {P : D → List Ob → Prop} (l : ds.length = m) (h : Xs ms (slots n (ds.map .val)) S (fun _ S' => P .non S') P (fun _ _ => False) (fun _ _ => False) E) : Xp (runFn m n ms ds) S P E := by
  unfold Xp runFn
  unfold Xs at h
  rw [if_pos l]
  rcases e : ms (slots n (ds.map .val)) S with _ | ⟨_ | _ | _ | _ | _, S'⟩
  all_goals (rw [e] at h; exact h)
theorem p_neZi {i : Int} {e : D} {PD : D → List Ob → Prop} (h : Wp (dEq true (.int i) e) S PD) : Wp (dNeZ (.int i) e) S PD := by
  cases e <;> exact h
theorem p_neZs {x : Str} {e : D} {PD : D → List Ob → Prop} (h : Wp (dEq true (.str x) e) S PD) : Wp (dNeZ (.str x) e) S PD := by
  cases e <;> exact h
theorem p_neZl {ds : List D} {e : D} {PD : D → List Ob → Prop} (h : Wp (dEq true (.lst ds) e) S PD) : Wp (dNeZ (.lst ds) e) S PD := by
  cases e <;> exact h
theorem p_neZt {ds : List D} {e : D} {PD : D → List Ob → Prop} (h : Wp (dEq true (.tup ds) e) S PD) : Wp (dNeZ (.tup ds) e) S PD := by
  cases e <;> exact h
theorem p_neZn {e : D} {PD : D → List Ob → Prop} (h : Wp (dEq true .non e) S PD) : Wp (dNeZ .non e) S PD := by
  cases e <;> exact h
theorem p_neZb {b : Bool} {e : D} {PD : D → List Ob → Prop} (h : Wp (dEq true (.bl b) e) S PD) : Wp (dNeZ (.bl b) e) S PD := by
  cases e <;> exact h
theorem gs_noturn {t : Tgt} {body : MS} (h : N sd S) : Ws (loopS t body []) sd S N R B C := by
  refine ws_run.mpr ?_
  unfold RunS loopS
  exact h
end
end Ev
local macro_rules | `(tactic| regstrif_gather) => `(tactic| first
  | ((with_reducible show Ev.Xs _ (List.set _ _ _) _ _ _ _ _ _); simp only [List.set_cons_zero, List.set_cons_succ])
  | with_reducible refine Ev.xs_seq ?_
  | with_reducible refine Ev.xs_next ?_
  | with_reducible refine Ev.xs_if ?_
  | with_reducible refine Ev.xs_raise ?_
  | with_reducible refine Ev.xp_bind ?_
  | with_reducible refine Ev.xs_expr ?_
  | with_reducible refine Ev.xs_asg ?_
  | with_reducible refine Ev.xp_pure ?_
  | ((with_reducible show Ev.Xp (Ev.getv _ _) _ _ _); refine Ev.xp_get (by exact rfl) ?_)
  | with_reducible refine Ev.xp_ite ?_
  | ((with_reducible show Ev.Xp _ _ _ _); refine Ev.xp_wp ?_; regstrif_gather)
  | with_reducible refine Ev.p_neZi ?_
  | with_reducible refine Ev.p_neZs ?_
  | with_reducible refine Ev.p_neZl ?_
  | with_reducible refine Ev.p_neZt ?_
  | with_reducible refine Ev.p_neZn ?_
  | with_reducible refine Ev.p_neZb ?_
  | with_reducible refine Ev.xs_for ?_)
set_option maxRecDepth 100000
set_option maxHeartbeats 4000000
namespace Ev
open PySem PySem.Spec PyProof.Rows L2
end Ev
set_option maxRecDepth 100000
set_option maxHeartbeats 2000000
namespace Ev
open PySem PySem.Spec PyProof.Rows L2
section
variable {G : Sg} {X : Cx} {W : WX} {k j : Nat} {σ : L2.St} {pos : Pos} {f : Addr} {sem : List D → M D}
def natM : D → M D
  | .int n => if 0 ≤ n ∧ n < 2 ^ 63 then M.pure (.int n) else M.stuck
  | _ => M.stuck
def ownLenX (tbl : Nat → Option (List D → M D)) (d : D) : M D := M.bind (pick tbl d) fun g => M.bind (noErr (g [d])) natM
def lenX (tbl : Nat → Option (List D → M D)) (d : D) : M D := if isObj d = true then ownLenX tbl d else dLen d
theorem run_len {A : Around} {pins : List (Addr × Obj)} {H : Hp} {s : Shared} {Q : VK} {E' : Value → Shared → Prop} {us : List Value} {vs : List V} (hr : Rm G.gd j A) (e0 : Env0 X.prog X.w X.K X.mg X.base A X.stack s H) (F : FnX X G j f sem) (I : Inv X pins σ H s) (r : Vals vs us)
    (h : spV G sem vs H (fun z H' => ∃ n : Int, z = .int n ∧ (0 ≤ n ∧ n < 2 ^ 63) ∧ Q (.int n) H') (fun _ _ _ => False)) : wpAny (model X.prog X.w) A (call (.ref f) us) (PySem.W.LenBack (EP X pins σ Q)) E' s := by
  have body := F.run A X.stack s H us vs _ (fun _ _ _ => False) hr e0 r h
  refine wpAny_call (codeAny_mono body ?_)
  intro res s' hq
  rcases res with er | fl
  · obtain ⟨_, _, _, _, _, _, _, _, _, _, _, _, z⟩ := hq
    exact z.elim
  · cases fl with
    | ret u =>
      obtain ⟨z, H', I3, rz, n, rfl, hn, hQ⟩ := I.after hq
      obtain ⟨t, e⟩ := (show ∃ t, u = Value.int n t from rz)
      subst e
      exact ⟨hn, .int n, H', I3.tok _, ⟨_, rfl⟩, hQ⟩
    | next => exact hq.elim
    | brk => exact hq.elim
    | cont => exact hq.elim
theorem c_lenX {tbl : Nat → Option (List D → M D)} (c : Ctx G X W k) (hj : j ≤ k) (T : SpT X G j "__len__" tbl) : CallR X (.builtin "len") (rDs G (on1 (lenX tbl))) := by
  intro pins s σ H xs us Q I rx h
  obtain ⟨Wx, w, S, d, v, rfl, st, rfl, r, q⟩ := on1_of h
  unfold lenX at q
  by_cases ho : isObj d = true
  · rw [if_pos ho] at q
    unfold ownLenX at q
    obtain ⟨cc, g, tg, q6, hc1, a1, dx1, fs1, rfl, hb1⟩ := pick_fin st r q
    obtain ⟨f, fi, isf, F⟩ := T.at_ cc g tg
    obtain ⟨u, rfl, ru⟩ := rx.one
    cases (show u = Value.ref a1 from ru)
    obtain ⟨m1, O1, _⟩ := ins_get I.hok hb1
    obtain ⟨od1, J1, _⟩ := O1.look
    obtain ⟨fr, hF⟩ := I.fr
    have r2 : Rm G.gd j X.A.in1 := (c.rm.mono (show j + 1 ≤ k + 1 by omega)).in1
    have want : spV G g [.ref a1] w.H (fun z H' => ∃ n : Int, z = .int n ∧ (0 ≤ n ∧ n < 2 ^ 63) ∧ Q (.int n) H') (fun _ _ _ => False) := by
      refine ⟨w, [d], S, rfl, st, ⟨_, _, rfl, r, rfl⟩, ?_⟩
      unfold M.bind noErr at q6
      rcases hg : g [d] S with _ | ⟨_ | r, S3⟩
      · rw [hg] at q6; exact q6.elim
      · rw [hg] at q6; exact q6.elim
      · rw [hg] at q6
        intro w' z e s3 rz
        cases r with
        | int n =>
          cases (show z = .int n from rz)
          unfold natM at q6
          by_cases hn : 0 ≤ n ∧ n < 2 ^ 63
          · simp only [if_pos hn] at q6
            exact ⟨n, rfl, hn, q6 w' _ e s3 rfl⟩
          · simp only [if_neg hn] at q6
            exact q6.elim
        | _ => exact q6.elim
    exact PySem.W.len_K hF I.ok.mod.kin J1 fi isf (run_len (us := [.ref a1]) (vs := [.ref a1]) r2 I.env0.in1 F I (.cons rfl .nil) want)
  · rw [if_neg ho] at q
    exact c_len c.cK pins s σ w.H [v] us Q I rx ⟨Wx, w, S, [d], rfl, st, ⟨v, [], rfl, r, rfl⟩, q⟩
end
end Ev
set_option maxRecDepth 100000
set_option maxHeartbeats 4000000
namespace Ev
open PySem PySem.Spec PyProof.Rows L2 GenW
end Ev
set_option maxRecDepth 100000
set_option maxHeartbeats 4000000
namespace Ev
open PySem PySem.Spec PyProof.Rows L2 GenW
end Ev
set_option maxRecDepth 100000
set_option maxHeartbeats 4000000
namespace Ev
open PySem PySem.Spec PyProof.Rows L2 GenW
end Ev
set_option maxRecDepth 100000
set_option maxHeartbeats 4000000
namespace Ev
open PySem PySem.Spec PyProof.Rows L2
theorem getset {α : Type} {l : List α} {i : Nat} {x : α} (h : i < l.length) : (l.set i x)[i]? = some x := List.getElem?_set_self h
section
variable {G : Sg} {X : Cx} {W : WX} {k : Nat}
def toldM (giv : Str) (rp : D → M D) (tc : Nat → D → M D) (m : M D) : M D := fun S => match m S with
  | some (.ok d, S1) => M.bind (rp d) (fun u => M.pure (.tup [.str giv, u])) S1
  | some (.error ⟨c, some d⟩, S1) => tc c d S1
  | _ => none
def TForm (st : Stmt) (giv a fo n x1 x2 x3 : Str) (b₀ : Stmt) (suite : List Stmt) : Prop := ∃ (j0 kk k2 : Nat) (q0 q1 q2 q3 q4 q5 q6 q7 q8 q9 q10 t1 t2 t3 t4 t5 : Pos),
  defBody st = [.Try [.Assign [.Name fo q1] (.Call (.Name a q2) [] [] q3) q4] [.ExceptHandler (some (.Tuple [.Name x1 t1, .Name x2 t2, .Name x3 t3] kk t4)) (some n) (b₀ :: suite) t5] [] [] q7,
    .Return (some (.Tuple [.Constant (.str giv) j0 q0, .Call (.Name "repr" q5) [.Name fo q6] [] q8] k2 q9)) q10]
structure ToldT (P : Program) (w : World) (K : PySem.W.Frag) (mg : Str → Option Value) (base : Heap) (G : Sg) (k : Nat) (g : Addr) (x : Str) (giv : Str) (rp : D → M D) (tc : Nat → D → M D) : Prop where
  ex : ∃ (fd : FuncData) (st : Stmt) (Ng : List Str) (a fo n x1 x2 x3 : Str) (c1 c2 c3 : Value) (i jf : Nat) (b₀ : Stmt) (suite : List Stmt) (ms : Nat → Option (Addr → Addr → MS)), Fun K x x st g fd ∧ L2.Binds K fd [a] [] ∧ FnScope Ng [a] (defScope st) ∧ TForm st giv a fo n x1 x2 x3 b₀ suite ∧ Ng[jf]? = some fo ∧ (defScope st).names.lookup fo = some .local ∧ (fo == ("__debug__" : Str)) = false ∧ (fo == ("__classdict__" : Str)) = false ∧
    Ng[0]? = some a ∧ Vis (defScope st) a ∧ (a == ("__debug__" : Str)) = false ∧ (a == ("__classdict__" : Str)) = false ∧ Ng[i]? = some n ∧ i ≠ 0 ∧ (defScope st).names.lookup n = some .local ∧
    (∀ (cdv : Value) (A : Around) (fr : List Env) (s : Shared) (H : Hp), Names (XC P w K mg base Ng x st g cdv A fr s H).nox x1 c1 ∧ Names (XC P w K mg base Ng x st g cdv A fr s H).nox x2 c2 ∧ Names (XC P w K mg base Ng x st g cdv A fr s H).nox x3 c3 ∧
      Gl (XC P w K mg base Ng x st g cdv A fr s H) "repr") ∧ mg "repr" = none ∧
    (∀ (cdv : Value) (A : Around) (fr : List Env) (s : Shared) (H : Hp) (pn : List (Addr × Obj)) (xe : Value → Shared → Prop), Ctx G ((XC P w K mg base Ng x st g cdv A fr s H).tr pn xe) NoW k → CallR ((XC P w K mg base Ng x st g cdv A fr s H).tr pn xe) (.builtin "repr") (rDs G (on1 rp))) ∧
    (∀ c d S o, tc c d S = some o → ∃ m u S', ms c = some m ∧ o = (.ok u, S') ∧ ∀ a dd, m a dd ((slots Ng.length []).set i (.val (.raw (.ref a) dd [G.xf c] [d]))) S = some (.ret u, S')) ∧
    (∀ c m, ms c = some m → PySem.W.exmAny K (G.xc c) [c1, c2, c3] = some true ∧
      ∀ (cdv : Value) (A : Around) (fr : List Env) (s : Shared) (H : Hp) (a : Addr) (oe : Obj) (dd : Addr) (pn : List (Addr × Obj)), Rm G.gd (k + 1) (A.deeper (envOfC x (defScope st) s.heap.objs.size g cdv)) → L2N.Zn (G.xc c) (some dd) oe → (∃ vs, oe.data = .fields vs) →
        PSsV G ((XC P w K mg base Ng x st g cdv A fr s H).nox.suite a ((a, oe) :: pn)) NoW (b₀ :: suite) (m a dd))
theorem v_lamtold {j : Nat} {cc g : Addr} {x giv : Str} {rp : D → M D} {tc : Nat → D → M D} {params : Arguments} {body : Expr} {scope : Scope} {fe : List SV → M D} {p lpos pos : Pos} (c : Ctx G X W (k + 2)) (C : ToldT X.prog X.w X.K X.mg X.base G (k + 1) g x giv rp tc)
    (hg : Gl X x) (hm : X.mg x = some (.ref g)) (hdb : (x == ("__debug__" : Str)) = false) (TB : LamX.TabB X.base X.mg cc (G.ta j)) (hcode : X.env.code = .ref cc) (hq : G.tq j = X.env.qual ++ "<lambda>") (L : LamX.LamS X.env.scope scope) (hdef : defaultsOf params X.env = ([], []))
    (hbind : ∀ (q : Str) (cl : List (Str × Addr)) (pm cv ctv : Value), bindArgs (PySem.W.kla_fn "<lambda>" q params body scope cl pm cv ctv) ⟨[], []⟩ = pure [])
    (hl : ∀ (A : Around) (outer : List Env) (s : Shared) (H : Hp) (E : XK) (f c' : Addr), Ctx G (lamN X A outer s H E scope f c') (WF E) k → PV G (lamN X A outer s H E scope f c') (WF E) body fe) :
    PV G X W (.Call (.Name x p) [.Lambda params body scope lpos] [] pos) (fun sd => hasTbl j (toldM giv rp tc (fe sd))) := by
  constructor
  intro pins s σ H Q I ⟨w0, w, sd, S, eH, r, q⟩
  simp only [hasTbl] at q
  split at q
  case isFalse => exact q.elim
  next hany =>
  obtain ⟨n, hj⟩ := hasTbl_at hany
  obtain ⟨fd, st, Ng, a, fo, nn, x1, x2, x3, c1, c2, c3, i, jf, b₀, suite, ms, F, hb, SC, cf, hjf, hfl, hf1, hf2, h0, hva, ha1, ha2, hi, hi0, hln, hnm, hrm, hrp, htc, hms⟩ := C.ex
  obtain ⟨oc, od, kV, doc, pm, an, cdv, ct, osl, rfl, lk, hcd⟩ := F.ex
  subst eH
  refine wpAny_Call_Name_kw (ld_glob I hg hm ?_ hdb)
  refine PySem.W.callWith_K (h₀ := X.base) I.ok.mod.kin F.kp ?_ (by rfl) (by rfl)
  show wpAny _ _ (spliced ((false, eval (.Lambda params body scope lpos) X.env) :: backTo pos (starEach [] X.env))) _ _ s
  refine Calls.spliced_cons (lam_make3 I r.st hj TB hcode hq hdef (L.has I.ok) ?_)
  intro f c' pm' ctv w1 s1 I1 e1 st1 hf hfn hfr fc hco
  have r1 : R G w0 w1 sd S σ := r.step e1 st1
  have q1 := FinG.ext e1 q
  refine Calls.spliced_nil ⟨I1.kIn, ?_⟩
  have rc : codeAny (model X.prog X.w) X.A (.call (.ref g) ⟨[.ref f], []⟩) (CR C8.CX0 X.stack X.prog X.w w1.H s1 Q C8.E0) s1 := by
    refine LamX.run_ofS (N := Ng) (ps := [a]) (us := [.ref f]) (vs := [.ref f]) lk hcd SC (k := k + 2) c.rm.room I1.env0 (hb s1 [.ref f] I1.kIn rfl) (.cons rfl .nil) rfl ?_
    intro hroom
    have hr2 : Rm G.gd (k + 2) (X.A.deeper (envOfC x (defScope st) s1.heap.objs.size g cdv)) := ⟨hroom, c.rm.gd⟩
    obtain ⟨j0, kk, k2, q0, q1', q2, q3, q4, q5, q6, q7, q8, q9, q10, t1, t2, t3, t4, t5, eb⟩ := cf
    obtain ⟨nm1, nm2, nm3, glr⟩ := hnm cdv X.A X.stack s1 w1.H
    rw [eb]
    let ts : Addr → Value → Option Addr → TS := fun ea cls d En σ' H' => ∃ cx m dd, ms cx = some m ∧ cls = G.xc cx ∧ d = some dd ∧ tsV G NoW (m ea dd) En σ' H'
    let tb : WX → TS := fun Wt En σ' H' => ∃ Ech : XK, (∀ cls d σ2 H2, σ2.length = Ng.length → Ech cls d H2 → Wt cls d σ2 H2) ∧ σ'[0]? = some (some (.ref f)) ∧ H' c' = some (LamX.CodeO c' (X.env.qual ++ "<lambda>")) ∧
      teV G (WF Ech) fe σ H' fun v H2 => En.nx (σ'.set jf (some v)) H2
    have c0 : Ctx G ((XC X.prog X.w X.K X.mg X.base Ng x st g cdv X.A X.stack s1 w1.H).tr [] fun _ _ => False) NoW (k + 1) := by
      refine ⟨c.cK, rfl, hr2, SC.nd, fun σ pins H s e s' I c => ?_, PassesOwn.never⟩
      obtain ⟨_, _, _, _, _, _, _, _, _, _, _, _, z⟩ := c
      exact z.elim
    have hrep : CallR (XC X.prog X.w X.K X.mg X.base Ng x st g cdv X.A X.stack s1 w1.H).nox (.builtin "repr") (rDs G (on1 rp)) := hrp cdv X.A X.stack s1 w1.H [] _ c0
    have tail := pss_one (ps_ret (pos := q10) (pe_tup (x1 := k2) (pos := q9) (pa_cons (show PE (XC X.prog X.w X.K X.mg X.base Ng x st g cdv X.A X.stack s1 w1.H).nox (.Constant (.str giv) j0 q0) (tC (.str giv)) from pe_str) (pa_cons (pe_callB (p := q5) (pos := q8) hrep glr hrm (by decide +kernel) (pa_cons (pe_var (pos := q6) (i := jf) hjf (.inl hfl) hf1 hf2) pa_nil)) pa_nil))))
    refine ⟨_, (pss_cons (s_try3 (X := (XC X.prog X.w X.K X.mg X.base Ng x st g cdv X.A X.stack s1 w1.H).nox) (ts := ts) (tb := tb) rfl rfl SC.nd hi hln nm1 nm2 nm3 ?_ ?_) tail).nox, ?_⟩
    · intro Wt pn xe tk po
      constructor
      rintro pins' s' σ' H' En I' ⟨Ech, hW, h1, h2, h3⟩
      have hp := act3 (k := k) (i := 0) (p1 := q2) (p2 := q3) I1 L hf hfn hfr (hbind _ _ _ _ _) tk hW hr2 (fun A outer sz Hz hrz => hl A outer sz Hz Ech f c' (ctxL c.cK c.nd hrz)) h0 hva ha1 ha2
      have hq := pss_one (ps_set (pos' := q1') (pos := q4) SC.nd hjf (.inl hfl) hp (by rfl) (.inr hfl))
      exact hq.run pins' s' σ' H' En I' ⟨h1, h2, h3⟩
    · intro ea oe cls d pn hz hv
      constructor
      rintro pins' s' σ' H' En I' ⟨cx, m, dd, hm', rfl, rfl, h'⟩
      exact ((hms cx m hm').2 cdv X.A X.stack s1 w1.H ea oe dd pn hr2 hz hv).run pins' s' σ' H' En I' h'
    · let Ech : XK := fun cls d H2 => ∃ w2 S2 e, w2.H = H2 ∧ Ext w1 w2 ∧ RepS G w2 S2 ∧ RepX G w2 e cls d ∧ FinG G (RepV G) (fun c x H => W c x σ H) w1 Q (match e with | ⟨cx, some dv⟩ => tc cx dv S2 | _ => none)
      refine ⟨Ech, ?_, start_get (vs := [.ref f]) (i := 0) rfl, hco, w0, w1, sd, S, rfl, r1, ?_⟩
      · rintro cls d σ2 H2 hln2 ⟨w2, S2, ⟨cx, ao⟩, rfl, e12, st2, rx, q2⟩
        rcases ao with _ | dv
        · exact q2.elim
        · simp only at q2
          rcases ho : tc cx dv S2 with _ | o
          · rw [ho] at q2; exact q2.elim
          · rw [ho] at q2
            obtain ⟨m, u, S', hm', rfl, hfin⟩ := htc cx dv S2 o ho
            obtain ⟨rfl, dd, v, rfl, fd, hd, rv⟩ := rx
            refine ⟨(hms cx m hm').1, fun ea na => ⟨cx, m, dd, hm', rfl, rfl, w2, w2, _, S2, rfl, R.setv (d := .raw (.ref ea) dd [G.xf cx] [dv]) (v := .ref ea) (sd := slots Ng.length []) ?_ ⟨rfl, [v], .inr ⟨fd, hd⟩, vals_one rv⟩ i, ?_⟩⟩
            · have no : ∀ {z : Nat} {y : SV}, (slots Ng.length [])[z]? = some y → y = .no := by
                intro z y hz
                unfold slots at hz
                rw [List.nil_append, List.getElem?_replicate] at hz
                split at hz
                · exact (Option.some.inj hz).symm
                · cases hz
              refine ⟨Ext.refl w2, st2, by rw [hln2]; simp [slots], fun z y h => ?_, fun z o h => ?_, fun z z' o o' b h => ?_, fun b o _ h => ?_⟩
              · cases no h
              · cases no h
              · cases no h
              · cases no h
            · rw [hfin ea dd]
              intro w' v' e' s' rv'
              exact q2 w' v' (e12.trans e') s' rv'
      · unfold toldM at q1
        rcases hf1 : fe sd S with _ | ⟨⟨cx, ao⟩ | d, S1⟩
        · rw [hf1] at q1; exact q1.elim
        · rw [hf1] at q1
          intro w' cls xx e' s' rx
          refine ⟨w', S1, ⟨cx, ao⟩, rfl, e', s', rx, ?_⟩
          rcases ao with _ | dv
          · exact q1
          · exact q1
        · rw [hf1] at q1
          intro w' v e' s' rv
          show ∃ z, _ ∧ _
          refine ⟨v, getset ?_, _, w', S1, [d], rfl, s', vals_one rv, fin_step (FinG.ext e' q1) fun w3 S3 d3 v3 e3 s3 rv3 q3 => ⟨by size_fits, fun p hp => ?_⟩⟩
          · show jf < (L2.start Ng [V.ref f]).length
            unfold L2.start
            rw [List.length_append, List.length_map, List.length_replicate]
            have := (List.getElem?_eq_some_iff.mp hjf).1
            simp only [List.length_cons, List.length_nil]
            omega
          · exact q3 (w3.frz p (.tup [.str giv, v3])) _ (Ext.frz hp) (s3.frz hp) ⟨p, _, rfl, .inl ⟨.inr rfl, .inl upd_same⟩, ⟨.str giv, [v3], rfl, rfl, vals_one (RepV.mono (Ext.frz hp) s3.dj _ _ rv3)⟩⟩
  refine wpAny_call (codeAny_mono rc ?_)
  intro res s2 hq2
  rcases res with e | fl
  · exact (show False from hq2).elim
  · cases fl with
    | ret u => exact I1.after hq2
    | next => exact hq2.elim
    | brk => exact hq2.elim
    | cont => exact hq2.elim
end
end Ev
set_option maxRecDepth 100000
set_option maxHeartbeats 4000000
namespace Ev
open PySem PySem.Spec PyProof.Rows L2
section
variable {G : Sg} {X : Cx} {W : WX} {k : Nat} {w : Wd} {S : List Ob}
def rCntD (K : PySem.W.Frag) : V → List V → Hp → VK → Prop := fun x xs H Q => ∃ (a : Addr) (y : V) (d : PyData) (ds : List PyData), x = V.ref a ∧ xs = [y] ∧ Dp K H (V.ref a) (.list ds) ∧ Dp K H y d ∧
  SeqAt.shaped (.list ds) = true ∧ SeqAt.shaped d = true ∧ Q (.int ((ds.countP fun z => PyData.eqv z d : Nat) : Int)) H
theorem mt_cntD (hu : X.A.units + 65 < cLine) : MtR X "list.count" (rCntD X.K) := by
  rintro pins s σ H x xs v us Q I rx rxs ⟨a, y, d, ds, rfl, rfl, hl, hy, sl, sd, q⟩
  cases rx
  obtain ⟨uy, rfl, ry⟩ := rxs.one
  obtain ⟨bs, r1⟩ := Dp.reads I d y uy hy ry
  have lay : PyData.canLayAll0 ds = true := SeqAt.canLay_of_shaped sl
  have room : X.A.units + 1 + min (PyData.depthAll ds) d.depth < cLine := room_in_shaped sd hu
  cases hl with
  | lst hs ha =>
    obtain ⟨its, rv, ⟨⟨cls, dd, data, sls⟩, n, ho, hc, hdn, hdt⟩, hlen⟩ := I.list hs
    simp only at hc hdt
    subst hc hdt
    obtain ⟨as, h4⟩ := Dp.readsAll I ds _ its ha rv
    have hmap : its.map (SeqAt.readOf s.heap) = ds := SeqAt.readsAll_map ds its as lay h4
    refine call_meets PySem.F.slot_list_count ⟨_, ho, rfl⟩ PySem.F.entry_list_count (PySem.F.args_list_count_2 _ _)
      (SeqAt.list_countAt a its.toArray n dd sls uy (fun u => PyData.eqv (SeqAt.readOf s.heap u) d)) ⟨ho, SeqAt.items_eqAt (vs := its.toArray) (show ReadsAll s.heap its.toArray.toList ds as from h4) r1 lay (SeqAt.canLay_of_shaped sd) room, ?_⟩
    have e : its.toArray.toList.countP (fun u => PyData.eqv (SeqAt.readOf s.heap u) d) = ds.countP fun z => PyData.eqv z d := by
      rw [← hmap, List.countP_map]
      rfl
    refine ⟨.int ((ds.countP fun z => PyData.eqv z d : Nat) : Int), H, I.tok _, ⟨s.toks, ?_⟩, q⟩
    show Value.int ((its.toArray.toList.countP (fun u => PyData.eqv (SeqAt.readOf s.heap u) d) : Nat) : Int) s.toks = _
    rw [e]
def isLst : D → M Unit
  | .lst ds => match toPs ds with
    | some _ => M.pure ()
    | none => M.stuck
  | _ => M.stuck
def lm2 (f : List PyData → PyData → Option Int) (x y : D) : M D := match toP x, toP y with
  | some (.list ps), some p => if SeqAt.shaped (.list ps) = true ∧ SeqAt.shaped p = true then (match f ps p with | some i => M.pure (.int i) | none => M.stuck) else M.stuck
  | _, _ => M.stuck
def cntF (ps : List PyData) (p : PyData) : Option Int := some ((ps.countP fun z => PyData.eqv z p : Nat) : Int)
def idxF (ps : List PyData) (p : PyData) : Option Int := (ps.findIdx? fun z => PyData.eqv z p).map fun j => ((j : Nat) : Int)
theorem isLst_get {α β : Type} {rep : Wd → α → β → Prop} {W' : Value → Option Addr → Hp → Prop} {Q : β → Hp → Prop} {d : D} {v : V} {kk : Unit → M α} (cK : G.K = X.K) (h : FinG G rep W' w Q (M.bind (isLst d) kk S)) (r : RepV G w d v) :
    tyV X.K "list" v w.H ∧ FinG G rep W' w Q (kk () S) := by
  cases d with
  | lst ds =>
    have h : FinG G rep W' w Q (M.bind (match toPs ds with | some _ => M.pure () | none => M.stuck) kk S) := h
    rcases hp : toPs ds with _ | ps
    · rw [hp] at h; exact h.elim
    · rw [hp] at h
      have tp : toP (.lst ds) = some (.list ps) := by
        unfold toP
        rw [hp]
        rfl
      refine ⟨?_, h⟩
      have z := toP_dp cK (.lst ds) v (.list ps) r tp
      cases z with
      | lst hs ha => exact .inl ⟨rfl, _, hs⟩
  | _ => exact h.elim
theorem lm2_get {W' : Value → Option Addr → Hp → Prop} {Q : VK} {f : List PyData → PyData → Option Int} {d e : D} {v u : V} (cK : G.K = X.K) (s : RepS G w S) (r1 : RepV G w d v) (r2 : RepV G w e u) (q : FinG G (RepV G) W' w Q (lm2 f d e S)) :
    ∃ (a : Addr) (ps : List PyData) (p : PyData) (i : Int), v = .ref a ∧ Dp X.K w.H (.ref a) (.list ps) ∧ Dp X.K w.H u p ∧ SeqAt.shaped (.list ps) = true ∧ SeqAt.shaped p = true ∧ f ps p = some i ∧ Q (.int i) w.H := by
  have q : FinG G (RepV G) W' w Q ((match toP d, toP e with
    | some (.list ps), some p => if SeqAt.shaped (.list ps) = true ∧ SeqAt.shaped p = true then (match f ps p with | some i => M.pure (.int i) | none => M.stuck) else M.stuck
    | _, _ => M.stuck : M D) S) := q
  rcases h1 : toP d with _ | pd
  · rw [h1] at q; exact q.elim
  · rcases h2 : toP e with _ | p
    · rw [h1, h2] at q
      cases pd <;> exact q.elim
    · rw [h1, h2] at q
      cases pd with
      | list ps =>
        obtain ⟨⟨c1, c2⟩, q⟩ := FinG.ite q
        rcases hf : f ps p with _ | i
        · rw [hf] at q; exact q.elim
        · rw [hf] at q
          have z := toP_dp cK d v (.list ps) r1 h1
          cases z with
          | lst hs ha => exact ⟨_, ps, p, i, rfl, .lst hs ha, toP_dp cK e u p r2 h2, c1, c2, hf, fin_pure (b := V.int _) q s rfl⟩
      | _ => exact q.elim
theorem v_lm {o e : Expr} {fo fe : List SV → M D} {nm : Str} {id : String} {f : List PyData → PyData → Option Int} {r : V → List V → Hp → VK → Prop} {apos pos : Pos} (cK : G.K = X.K) (slot : Slot "list" nm id) (ty : typeOf (.builtin id) = pure (.type "method_descriptor")) (hm : MtR X id r)
    (hr : ∀ a ps p y i H Q, Dp X.K H (V.ref a) (.list ps) → Dp X.K H y p → SeqAt.shaped (.list ps) = true → SeqAt.shaped p = true → f ps p = some i → Q (.int i) H → r (V.ref a) [y] H Q)
    (ho : PV G X W o fo) (he : PV G X W e fe) (hs : notStar e = true) (hbase : attributeBase o nm X.env (eval o X.env) = eval o X.env) (hp : (apos.endLine == pos.line) = true)
    (hfew : ((backTo pos (starEach [e] X.env)).all (fun x => !x.1) && (backToKw pos (keywordEach [] X.env)).all (fun x => x.1.isSome) && decide (([e] : List Expr).length + ([] : List Keyword).length + (if ([] : List Keyword).isEmpty then 0 else 1) < 30)) = true) :
    PV G X W (.Call (.Attribute o nm apos) [e] [] pos) (fun sd => M.bind (fo sd) fun x => M.bind (isLst x) fun _ => M.bind (fe sd) fun y => lm2 f x y) := by
  refine PE.imp (pe_bm PySem.F.plainAttrs_list slot ty hm ho (pa_cons he pa_nil (starEach_cons hs)) hbase hfew hp (starEach_cons hs) rfl) fun σ H Q h => ?_
  obtain ⟨w0, w, sd, S, e, r0, q⟩ := h
  refine ⟨w0, w, sd, S, e, r0, fin_step q fun w1 S1 d v e1 s1 rv q1 => ?_⟩
  obtain ⟨hty, q2⟩ := isLst_get cK q1 rv
  refine ⟨hty, w0, w1, sd, S1, rfl, r0.step e1 s1, fin_step q2 fun w2 S2 d2 v2 e2 s2 rv2 q3 => ?_⟩
  obtain ⟨a, ps, p, i, rfl, d1, d3, c1, c2, hf, hq⟩ := lm2_get cK s2 (RepV.mono e2 s1.dj _ _ rv) rv2 q3
  exact hr a ps p v2 i w2.H Q d1 d3 c1 c2 hf hq
theorem o_neU (cK : G.K = X.K) (hu : X.A.units + 65 < cLine) : OpR X (compareOp .NotEq) (rD2 G (dEq true)) := by
  refine OpR.imp (op_ne.or (op_neD (by omega))) ?_
  rintro v u H Q ⟨W2, w2, S2, d, e, rfl, st, ra, rb, q⟩
  cases d <;> cases e <;> first
    | exact .inr (eq_gen (neg := true) cK st ra rb q)
    | (cases (show v = _ from ra)
       cases (show u = _ from rb)
       have z := fin_pure (b := V.bl _) q st rfl
       exact .inl ⟨rfl, by simpa using z⟩)
def dInD (x y : D) : M D := match toP x, toP y with
  | some p, some (.list ps) => if SeqAt.shaped p = true ∧ SeqAt.shaped (.list ps) = true then M.pure (.bl (ps.any fun z => PyData.eqv z p)) else M.stuck
  | _, _ => M.stuck
theorem o_inU (cK : G.K = X.K) (hu : X.A.units + 65 < cLine) : OpR X (compareOp .In) (rD2 G dInD) := by
  refine OpR.imp (op_inD hu) ?_
  rintro v u H Q ⟨W2, w2, S2, d, e, rfl, st, ra, rb, q⟩
  have q : FinG G (RepV G) W2 w2 Q ((match toP d, toP e with
    | some p, some (.list ps) => if SeqAt.shaped p = true ∧ SeqAt.shaped (.list ps) = true then M.pure (.bl (ps.any fun z => PyData.eqv z p)) else M.stuck
    | _, _ => M.stuck : M D) S2) := q
  rcases h1 : toP d with _ | p
  · rw [h1] at q; exact q.elim
  · rcases h2 : toP e with _ | pe
    · rw [h1, h2] at q; exact q.elim
    · rw [h1, h2] at q
      cases pe with
      | list ps =>
        obtain ⟨⟨c1, c2⟩, q⟩ := FinG.ite q
        exact ⟨p, ps, toP_dp cK d v p ra h1, toP_dp cK e u (.list ps) rb h2, c1, c2, fin_pure (b := V.bl _) q st rfl⟩
      | _ => exact q.elim
theorem v_lcnt {o e : Expr} {fo fe : List SV → M D} {apos pos : Pos} (cK : G.K = X.K) (hu : X.A.units + 65 < cLine) (ho : PV G X W o fo) (he : PV G X W e fe) (hs : notStar e = true) (hb : attributeBase o "count" X.env (eval o X.env) = eval o X.env) (hp : (apos.endLine == pos.line) = true)
    (hf : ((backTo pos (starEach [e] X.env)).all (fun x => !x.1) && (backToKw pos (keywordEach [] X.env)).all (fun x => x.1.isSome) && decide (([e] : List Expr).length + ([] : List Keyword).length + (if ([] : List Keyword).isEmpty then 0 else 1) < 30)) = true) :
    PV G X W (.Call (.Attribute o "count" apos) [e] [] pos) (fun sd => M.bind (fo sd) fun x => M.bind (isLst x) fun _ => M.bind (fe sd) fun y => lm2 cntF x y) :=
  v_lm cK PySem.F.slot_list_count PySem.F.type_list_count (mt_cntD hu) (fun a ps p y i H Q h1 h2 h3 h4 h5 q => ⟨a, y, p, ps, rfl, rfl, h1, h2, h3, h4, by cases h5; exact q⟩) ho he hs hb hp hf
theorem v_lidx {o e : Expr} {fo fe : List SV → M D} {apos pos : Pos} (cK : G.K = X.K) (hu : X.A.units + 65 < cLine) (ho : PV G X W o fo) (he : PV G X W e fe) (hs : notStar e = true) (hb : attributeBase o "index" X.env (eval o X.env) = eval o X.env) (hp : (apos.endLine == pos.line) = true)
    (hf : ((backTo pos (starEach [e] X.env)).all (fun x => !x.1) && (backToKw pos (keywordEach [] X.env)).all (fun x => x.1.isSome) && decide (([e] : List Expr).length + ([] : List Keyword).length + (if ([] : List Keyword).isEmpty then 0 else 1) < 30)) = true) :
    PV G X W (.Call (.Attribute o "index" apos) [e] [] pos) (fun sd => M.bind (fo sd) fun x => M.bind (isLst x) fun _ => M.bind (fe sd) fun y => lm2 idxF x y) := by
  refine v_lm cK PySem.F.slot_list_index PySem.F.type_list_index (mt_indexD hu) (fun a ps p y i H Q h1 h2 h3 h4 h5 q => ?_) ho he hs hb hp hf
  unfold idxF at h5
  rcases hx : ps.findIdx? (fun z => PyData.eqv z p) with _ | j
  · rw [hx] at h5
    cases h5
  · rw [hx] at h5
    cases h5
    obtain ⟨hj, hy, hn⟩ := List.findIdx?_eq_some_iff_getElem.mp hx
    refine ⟨a, y, p, ps, j, ps[j], rfl, rfl, h1, h2, h3, h4, List.getElem?_eq_getElem hj, hy, ?_, q⟩
    intro m z hm hz
    have l : m < ps.length := by omega
    rw [List.getElem?_eq_getElem l] at hz
    cases hz
    simpa using hn m hm
end
def tellE (n : Str) (d : D) : M D := M.bind (dRepr d) fun u => M.pure (.tup [.str n, u])
theorem tellE_at {n : Str} {d : D} {S : List Ob} {o : Except Exn D × List Ob} (h : tellE n d S = some o) : ∃ u, dRepr d = M.pure u ∧ o = (.ok (.tup [.str n, u]), S) := by
  unfold tellE M.bind at h
  rcases hd : dRepr d S with _ | ⟨x | u, S1⟩
  · rw [hd] at h; cases h
  · exact absurd hd dRepr_noerr
  · obtain ⟨rfl, e⟩ := dRepr_at hd
    rw [hd] at h
    exact ⟨u, e, (Option.some.inj h).symm⟩
def excS2 (st : Stmt) : List Stmt := match defBody st with
  | [.Try _ [.ExceptHandler _ _ s _] _ _ _, _] => s
  | _ => []
theorem da_lst {l1 l2 : List D} (h : l1.length + l2.length ≤ 100) : dAdd (.lst l1) (.lst l2) = M.pure (.lst (l1 ++ l2)) := by
  show (if l1.length + l2.length ≤ lim then M.pure (D.lst (l1 ++ l2)) else M.stuck) = _
  rw [if_pos (by unfold lim; omega)]
end Ev
set_option maxRecDepth 100000
set_option maxHeartbeats 4000000
namespace Ev
open PySem PySem.Spec PyProof.Rows L2
section
variable {G : Sg} {X : Cx} {W : WX} {k : Nat}
def dEqE : D → D → M D
  | .lst (_ :: _), .lst [] => M.pure (.bl false)
  | d, e => dEq false d e
end
section
variable {S : List Ob} {PD : D → List Ob → Prop}
theorem p_eqE0 (h : PD (.bl true) S) : Wp (dEqE (.lst []) (.lst [])) S PD := go_val (r := .bl true) (by unfold dEqE; funext S; kernel_rfl) h
theorem p_eqE1 {x : D} {xs : List D} (h : PD (.bl false) S) : Wp (dEqE (.lst (x :: xs)) (.lst [])) S PD := go_val (r := .bl false) rfl h
end
end Ev
local macro_rules | `(tactic| regstrif_gather) => `(tactic| first
  | with_reducible refine Ev.p_eqE0 ?_
  | with_reducible refine Ev.p_eqE1 ?_)
set_option maxRecDepth 100000
set_option maxHeartbeats 4000000
namespace Ev
open PySem PySem.Spec PyProof.Rows L2
def mkRR (c : Nat) : Option (Out × List Ob) → Option (Except Exn D × List Ob)
  | some (.next sd, S) => match sd[0]? with
    | some (SV.own (Ob.ins c' es)) => if c' = c then some (.ok (.ref S.length), S ++ [.ins c es]) else none
    | _ => none
  | some (.err e _, S) => some (.error e, S)
  | _ => none
def mkFnR (c m n : Nat) (ms : MS) : List D → M D := fun ds S => if ds.length + 1 = m then mkRR c (ms (slots n (.own (.ins c []) :: ds.map .val)) S) else none
section
variable {P : Program} {w : World} {K : PySem.W.Frag} {mg : Str → Option Value} {base : Heap} {G : Sg} {k c : Nat} {f : Addr} {x qual : Str} {st : Stmt} {fd : FuncData} {N ps : List Str} {ms : MS}
theorem fin_mkR {wd w1 : Wd} {ds : List D} {vs : List V} {S : List Ob} {a dx : Addr} {Q : VK} {E : XK} (e : Ext wd w1) (s : RepS G w1 S) (r : RepVs G w1 ds vs) (h : ds.length + 1 ≤ N.length) (ha : w1.H a = some (.ins (G.ca c) dx [])) (nF : ¬ w1.F a) (nm : a ∉ w1.m) (n0 : wd.H a = none)
    (q : FinG G (RepV G) E wd Q (mkRR c (ms (slots N.length (.own (.ins c []) :: ds.map .val)) S))) : spT G N ms (V.ref a :: vs) w1.H (fun v H2 => v = .non ∧ Q (.ref a) H2) E := by
  refine ⟨{ wd with x := some a }, w1, _, S, rfl, R.enterI e s r h ha nF nm n0, ?_⟩
  rcases hm : ms (slots N.length (.own (.ins c []) :: ds.map .val)) S with _ | ⟨sd | _ | _ | _ | _, S1⟩
  · rw [hm] at q; exact q
  · rw [hm] at q
    intro w' σ' _ r'
    have ex : Ext wd w' := ⟨r'.ex.m, r'.ex.F, r'.ex.H, r'.ex.nm, r'.ex.nF, r'.ex.al⟩
    unfold mkRR at q
    simp only at q
    rcases hs : sd[0]? with _ | _ | _ | ⟨_ | _ | ⟨c', es⟩ | jt⟩
    · rw [hs] at q; exact q.elim
    · rw [hs] at q; exact q.elim
    · rw [hs] at q; exact q.elim
    · rw [hs] at q; exact q.elim
    · rw [hs] at q; exact q.elim
    · rw [hs] at q
      simp only at q
      split at q
      · next ec =>
        subst ec
        obtain ⟨b, hb, ho, bF, bm, b0⟩ := r'.ow 0 _ hs
        have hb2 := r'.sf a _ rfl hs
        rw [hb] at hb2
        cases hb2
        obtain ⟨st, s2⟩ := share r'.st ho bF bm
        refine ⟨rfl, q ⟨w'.m ++ [a], w'.F, w'.H, w'.x⟩ (.ref a) ⟨?_, ex.F, ex.H, fun b hb => ?_, ex.nF, ex.al⟩ s2 ⟨a, rfl, ?_⟩⟩
        · obtain ⟨rr, er⟩ := ex.m
          exact ⟨rr ++ [a], by show w'.m ++ [a] = _; rw [er, List.append_assoc]⟩
        · have hb : b ∈ w'.m ++ [a] := hb
          rcases List.mem_append.mp hb with z | z
          · exact ex.nm b z
          · have : b = a := by simpa using z
            subst this
            exact .inr n0
        · show (w'.m ++ [a])[S1.length]? = some a
          rw [← r'.st.len, List.getElem?_append_right (Nat.le_refl _)]
          simp
      · exact q.elim
    · rw [hs] at q; exact q.elim
  · rw [hm] at q; exact q.elim
  · rw [hm] at q; exact q.elim
  · rw [hm] at q; exact q.elim
  · rw [hm] at q
    exact fun w' σ' cls y _ r' rx => q w' cls y ⟨r'.ex.m, r'.ex.F, r'.ex.H, r'.ex.nm, r'.ex.nF, r'.ex.al⟩ r'.st rx
theorem cla_ref (F : Fun K x qual st f fd) (SC : FnScope N ps (defScope st)) (hb : Binds K fd ps []) (cK : G.K = K) (B : Body P w K mg base G k f N qual st ms) (M : Mk K (G.ca c) f) {m n : Nat} (em : ps.length = m) (en : N.length = n) (hmn : m ≤ n) :
    ClA P w K mg base G (k + 2) c (mkFnR c m n ms) := by
  have z := fns_rule (P := P) (w := w) (mg := mg) (base := base) F SC hb cK B
  refine ⟨f, M, fun A fr s H us vs Q E hr e0 r h => z A fr s H us vs Q E hr e0 r ?_⟩
  obtain ⟨a, dx, vs, H, Q, rfl, rfl, ha, hdx, ne, rfl, wd, ds, S, eH, rs, rv, q⟩ := h
  subst em en eH
  obtain ⟨w1, e1, ex, s1, nF, nm⟩ := made (C := G.ca c) rs ha hdx ne
  unfold mkFnR at q
  split at q
  · next e =>
    refine ⟨by rw [List.length_cons, ← rv.length]; exact e, ?_⟩
    rw [← e1]
    exact fin_mkR ex s1 (RepVs.mono ex rs.dj _ _ rv) (by omega) (by rw [e1, upd_same]) nF nm ha q
  · exact q.elim
end
section
variable {G : Sg} {X : Cx} {W : WX} {k n : Nat} {x m : Str} {p pos apos : Pos} {e o i : Expr} {σ : L2.St} {w0 w : Wd} {S : List Ob} {sd : List SV}
def fldR (fo : List SV → M D) (tbl : Nat → Option Nat) : Tgt := fun d sd S => match fo sd S with
  | some (.ok (.ref n), S1) => match S1[n]? with
    | some (.ins c ds) => match tbl c with
      | some j => match putL ds j d with
        | some es => some (sd, S1.set n (.ins c es))
        | none => none
      | none => none
    | _ => none
  | _ => none
theorem g_fldR {fo : List SV → M D} {tbl : Nat → Option Nat} (T : FldT X G m tbl) (ho : PV G X W o fo) : PGV G X [] (.Attribute o m pos) (fldR fo tbl) := by
  refine PG.imp (pg_attr ho) fun v σ H Q q => ?_
  obtain ⟨w0, w, sd, S, d, e, r, rd, q⟩ := q
  refine ⟨w0, w, sd, S, e, r, ?_⟩
  unfold fldR at q
  rcases hf : fo sd S with _ | ⟨x | d1, S1⟩
  · rw [hf] at q; exact q
  · rw [hf] at q; exact q.elim
  · rw [hf] at q
    cases d1 with
    | ref n =>
      simp only at q
      intro w1 v1 e1 s1 ⟨a, ev, hm⟩
      have r1 := r.step e1 s1
      rcases hn : S1[n]? with _ | ⟨_ | _ | ⟨cc, ds⟩ | jt⟩
      · simp only [hn] at q; exact q.elim
      · simp only [hn] at q; exact q.elim
      · simp only [hn] at q; exact q.elim
      · simp only [hn] at q
        rcases ht : tbl cc with _ | j
        · simp only [ht] at q; exact q.elim
        · simp only [ht] at q
          obtain ⟨cl, na, nd, hj, hl⟩ := T.at_ cc j ht
          obtain ⟨dx, vs, h1, h2, h3⟩ := s1.ob n a _ hm hn
          have hlen : ((G.fn cc).zip vs).length < 1000 := by
            rw [List.length_zip]; omega
          have rd1 : RepV G w1 d v := RepV.mono e1 r.st.dj _ _ rd
          have nF : ¬ w1.F a := fun z => s1.dj a z (List.mem_of_getElem? hm)
          refine ⟨a, _, dx, _, ev, h1, cl, na, hlen, ?_⟩
          unfold putL at q
          by_cases c1 : j < ds.length
          · simp only [if_pos c1] at q
            rw [putF_zip nd hj (by rw [← h3.length]; exact c1)]
            have st := Stay.wr (w := w1) (p := a) (o := .ins (G.ca cc) dx ((G.fn cc).zip (vs.set j v))) nF
            obtain ⟨st2, r3⟩ := r1.wrm hm (h := .ins (G.ca cc) dx ((G.fn cc).zip (vs.set j v))) (o' := .ins cc (ds.set j d)) ⟨dx, _, upd_same, by rw [List.length_set]; exact h2, RepVs.set j (RepVs.stay st _ _ h3) (RepV.stay st _ _ rd1)⟩
            exact q (w1.wr a _) σ ((e1.stay r.st.dj).trans st2) r3 fun _ _ => rfl
          · simp only [if_neg c1] at q
            by_cases c2 : j = ds.length
            · simp only [if_pos c2] at q
              subst c2
              rw [h3.length] at hj
              rw [putF_new nd hj]
              have st := Stay.wr (w := w1) (p := a) (o := .ins (G.ca cc) dx ((G.fn cc).zip (vs ++ [v]))) nF
              obtain ⟨st2, r3⟩ := r1.wrm hm (h := .ins (G.ca cc) dx ((G.fn cc).zip (vs ++ [v]))) (o' := .ins cc (ds ++ [d])) ⟨dx, _, upd_same, by
                rw [List.length_append]
                exact (List.getElem?_eq_some_iff.mp hj).1, RepVs.append (RepVs.stay st _ _ h3) (RepVs.one (RepV.stay st _ _ rd1))⟩
              exact q (w1.wr a _) σ ((e1.stay r.st.dj).trans st2) r3 fun _ _ => rfl
            · simp only [if_neg c2] at q; exact q.elim
      · simp only [hn] at q; exact q.elim
    | _ => exact q.elim
end
end Ev
set_option maxRecDepth 100000
set_option maxHeartbeats 4000000
namespace Ev
open PySem PySem.Spec PyProof.Rows L2
section
variable {G : Sg} {X : Cx} {W : WX} {k j : Nat} {σ : L2.St} {p pos : Pos} {e o i : Expr} {fo fi f : List SV → M D}
structure GetT (X : Cx) (G : Sg) (k : Nat) (tbl : Nat → Option (List D → M D)) : Prop where
  at_ : ∀ c g, tbl c = some g → ∃ f, PySem.W.findIn X.K (.ref (G.ca c)) "__getitem__" = some (some (.ref f)) ∧ PySem.W.isFn X.K (.ref f) = true ∧ PySem.W.fnIn X.K f = true ∧ FnX X G k f g
theorem v_getX {tbl : Nat → Option (List D → M D)} (c : Ctx G X W k) (T : GetT X G k tbl) (ho : PV G X W o fo) (hi : PV G X W i fi) (hs : notSlice i = true) :
    PV G X W (.Subscript o i pos) (fun sd => M.bind (fo sd) fun d => M.bind (fi sd) fun x => M.bind (pick tbl d) fun g => g [d, x]) := by
  constructor
  intro pins s σ H Q I ⟨w0, w, sd, S, eH, r, q⟩
  refine Subscript_ (thn (ho.run pins s σ H (fun v H1 => ∃ w1 S1 d, w1.H = H1 ∧ R G w0 w1 sd S1 σ ∧ RepV G w1 d v ∧ FinG G (RepV G) (fun c x H => W c x σ H) w1 Q (M.bind (fi sd) (fun x => M.bind (pick tbl d) fun g => g [d, x]) S1)) I ?_) ?_)
  · exact ⟨w0, w, sd, S, eH, r, fin_step q fun w1 S1 d v e1 s1 rv q1 => ⟨w1, S1, d, rfl, r.step e1 s1, rv, q1⟩⟩
  · rintro u s1 ⟨v, H1, I1, rv, w1, S1, d, rfl, r1, rd, q1⟩
    refine thn (hi.run pins s1 σ w1.H (fun y H2 => ∃ w2 S2 x, w2.H = H2 ∧ RepS G w2 S2 ∧ RepV G w2 d v ∧ RepV G w2 x y ∧ FinG G (RepV G) (fun c x H => W c x σ H) w2 Q (M.bind (pick tbl d) (fun g => g [d, x]) S2)) I1 ?_) ?_
    · exact ⟨w0, w1, sd, S1, rfl, r1, fin_step q1 fun w2 S2 x y e2 s2 ry q2 => ⟨w2, S2, x, rfl, s2, RepV.mono e2 r1.st.dj _ _ rd, ry, q2⟩⟩
    · rintro z s2 ⟨y, H2, I2, rz, w2, S2, x, rfl, s2', rd2, ry, q2⟩
      obtain ⟨cc, g, tg, q3, _, a, dx, fs, rfl, hb⟩ := pick_fin s2' rd2 q2
      obtain rfl : u = Value.ref a := rv
      obtain ⟨f, fin, isf, fni, F⟩ := T.at_ cc g tg
      obtain ⟨m1, O1, _⟩ := ins_get I2.hok hb
      obtain ⟨od1, J1, _⟩ := O1.look
      obtain ⟨fr, hF⟩ := I2.fr
      have body := F.run X.A.in1 X.stack s2 w2.H [.ref a, z] [.ref a, y] Q (WE W σ) c.rm.in1 I2.env0.in1 (.cons rfl (.cons rz .nil)) ⟨w2, [d, x], S2, rfl, s2', ⟨_, _, rfl, rd2, _, _, rfl, ry, rfl⟩, q3⟩
      refine PySem.W.sub_K hF I2.ok.mod.kin J1 fin fni isf (wpAny_call (codeAny_mono body ?_)) (by cases i <;> first | rfl | cases hs)
      rintro (er | fl) s' hq
      · exact c.px σ pins w2.H s2 er s' I2 hq
      · cases fl with
        | ret u => exact I2.after hq
        | next => exact hq.elim
        | brk => exact hq.elim
        | cont => exact hq.elim
structure SetT (X : Cx) (G : Sg) (k : Nat) (tbl : Nat → Option (List D → M D)) : Prop where
  at_ : ∀ c g, tbl c = some g → ∃ f, PySem.W.findIn X.K (.ref (G.ca c)) "__setitem__" = some (some (.ref f)) ∧ PySem.W.isFn X.K (.ref f) = true ∧ PySem.W.noSeq X.K (G.ca c) = true ∧ FnX X G k f g
def gSetX (X : Cx) (G : Sg) (W : WX) (tbl : Nat → Option (List D → M D)) (to ti : TE) : TG := fun v σ H Q => to σ H fun y H1 => ti σ H1 fun z H2 => ∃ c g a dx fs, tbl c = some g ∧ y = V.ref a ∧ H2 a = some (.ins (G.ca c) dx fs) ∧ spV G g [y, z, v] H2 (fun _ H3 => Q σ H3) (WE W σ)
theorem pg_setX {tbl : Nat → Option (List D → M D)} {to ti : TE} (c : Ctx G X W k) (T : SetT X G k tbl) (ho : PE X o to) (hi : PE X i ti) (hs : notSlice i = true) : PG X (.Subscript o i pos) (gSetX X G W tbl to ti) := by
  refine ⟨fun pins s σ H v u Q I r h => ?_⟩
  rw [sub_tree hs u]
  refine wpAny_bind (wpAny_holding (thn (ho.run pins s σ H _ I h) fun ov s1 got => ?_))
  obtain ⟨y, H1, I1, ry, h1⟩ := got
  refine wpAny_bind (wpAny_holding (thn (hi.run pins s1 σ H1 _ I1 h1) fun iv s2 got2 => ?_))
  obtain ⟨z, H2, I2, rz, cc, g, a, dx, fs, tg, rfl, hb, q⟩ := got2
  obtain rfl : ov = Value.ref a := ry
  obtain ⟨f, fin, isf, ns, F⟩ := T.at_ cc g tg
  obtain ⟨m1, O1, _⟩ := ins_get I2.hok hb
  obtain ⟨od1, J1, _⟩ := O1.look
  obtain ⟨fr, hF⟩ := I2.fr
  have z1 := run_fa (us := [.ref a, iv, u]) (vs := [.ref a, z, v]) c F I2 (.cons rfl (.cons rz (.cons r .nil))) q
  refine wpAny_bind (wpAny_standAt (wpAny_bind (wpAny_holding (PySem.W.ksp_setItem hF I2.ok.mod.kin J1 ns fin isf (wpAny_mono z1 (fun v3 s3 got3 => ?_) fun _ _ z => z)))))
  obtain ⟨v4, H4, I4, _, q4⟩ := got3
  exact wpAny_release ⟨σ, H4, I4, q4⟩
def setXS (tbl : Nat → Option (List D → M D)) (fo fi f : List SV → M D) : MS := exS f fun v => exS fo fun d => exS fi fun x => exS (fun _ => M.bind (pick tbl d) fun g => g [d, x, v]) fun _ => nextS
theorem s_setX {tbl : Nat → Option (List D → M D)} (c : Ctx G X W k) (T : SetT X G k tbl) (he : PV G X W e f) (ho : PV G X W o fo) (hi : PV G X W i fi) (hs : notSlice i = true)
    (hs1 : swapsWithSole [.Subscript o i p] e pos.line X.env = pure false) (hw : swappedStores [.Subscript o i p] e X.env = pure none) :
    PSV G X W (.Assign [.Subscript o i p] e pos) (setXS tbl fo fi f) := by
  refine PS.imp (ps_asg he (pg_setX c T ho hi hs) hs1 hw rfl) fun En σ H q => ?_
  obtain ⟨w0, w, sd, S, e, r, q⟩ := q
  unfold setXS at q
  refine ⟨w0, w, sd, S, e, r, exS_step q r fun w1 S1 d1 v1 e1 r1 rv1 q1 => ⟨w0, w1, sd, S1, rfl, r1, exS_step q1 r1 fun w2 S2 d2 v2 e2 r2 rv2 q2 => ⟨w0, w2, sd, S2, rfl, r2, exS_step q2 r2 fun w3 S3 d3 v3 e3 r3 rv3 q3 => ?_⟩⟩⟩
  have rv1 : RepV G w3 d1 v1 := RepV.mono e3 r2.st.dj _ _ (RepV.mono e2 r1.st.dj _ _ rv1)
  have rv2 : RepV G w3 d2 v2 := RepV.mono e3 r2.st.dj _ _ rv2
  have z := exS_step (rep := RepV G) (Q := fun _ H3 => En.nx σ H3) q3 r3 fun w4 S4 d4 v4 e4 r4 rv4 q4 => q4 w4 σ (Stay.refl w4) r4
  obtain ⟨cc, g, tg, q5, _, a, dx, fs, rfl, hb⟩ := pick_fin r3.st rv2 z
  exact ⟨cc, g, a, dx, _, tg, rfl, hb, w3, [d2, d3, d1], S3, rfl, r3.st, ⟨_, _, rfl, rv2, _, _, rfl, rv3, _, _, rfl, rv1, rfl⟩, q5⟩
end
end Ev
set_option maxRecDepth 100000
set_option maxHeartbeats 4000000
namespace Ev
open PySem PySem.Spec PyProof.Rows L2
section
variable {G : Sg} {X : Cx} {W : WX} {k n : Nat} {w : Wd} {S : List Ob}
def valD : List Key → List D → Key → Option D
  | a :: ks, d :: ds, k => if a = k then some d else valD ks ds k
  | _, _, _ => none
def replD (k : Key) (d : D) : List Key → List D → List D
  | a :: ks, x :: ds => (if a = k then d else x) :: replD k d ks ds
  | _, _ => []
def hasK (ks : List Key) (k : Key) : Bool := ks.any fun a => decide (a = k)
def putKs (ks : List Key) (k : Key) : List Key := if hasK ks k = true then ks else ks ++ [k]
def putDs (ks : List Key) (ds : List D) (k : Key) (d : D) : List D := if hasK ks k = true then replD k d ks ds else ds ++ [d]
theorem valD_rep : ∀ {ks : List Key} {ds : List D} {vs : List V} {k : Key}, ks.length = vs.length → RepVs G w ds vs → match valD ks ds k with
    | some d => ∃ v, valV (ks.zip vs) k = some v ∧ RepV G w d v
    | none => valV (ks.zip vs) k = none
  | [], ds, vs, k, h, _ => by
    have : vs = [] := List.length_eq_zero_iff.mp h.symm
    subst this
    rfl
  | a :: ks, [], vs, k, h, r => by
    cases (show vs = [] from r)
    cases h
  | a :: ks, d :: ds, vs, k, h, ⟨v, us, e, rv, rs⟩ => by
    subst e
    have ih := valD_rep (ks := ks) (ds := ds) (vs := us) (k := k) (by simpa using h) rs
    unfold valD
    rw [List.zip_cons_cons]
    by_cases c : a = k
    · rw [if_pos c]
      exact ⟨v, valV_pos (p := (a, v)) c, rv⟩
    · rw [if_neg c, valV_neg (p := (a, v)) c]
      exact ih
theorem any_zip {k : Key} : ∀ {ks : List Key} {vs : List V}, ks.length = vs.length → ((ks.zip vs).any fun kv => decide (kv.1 = k)) = hasK ks k
  | [], vs, h => by
    have : vs = [] := List.length_eq_zero_iff.mp h.symm
    subst this
    rfl
  | a :: ks, [], h => by cases h
  | a :: ks, v :: vs, h => by
    have ih := any_zip (k := k) (ks := ks) (vs := vs) (by simpa using h)
    rw [List.zip_cons_cons, List.any_cons, ih]
    unfold hasK
    rw [List.any_cons]
theorem map_zip {k : Key} {v : V} {d : D} (rv : RepV G w d v) : ∀ {ks : List Key} {ds : List D} {vs : List V}, ks.length = vs.length → RepVs G w ds vs → ∃ us, (ks.zip vs).map (fun kv => if kv.1 = k then (kv.1, v) else kv) = ks.zip us ∧ ks.length = us.length ∧ RepVs G w (replD k d ks ds) us
  | [], ds, vs, h, r => ⟨[], rfl, rfl, by
    unfold replD
    rfl⟩
  | a :: ks, [], vs, h, r => by
    cases (show vs = [] from r)
    cases h
  | a :: ks, x :: ds, vs, h, ⟨u, us, e, ru, rs⟩ => by
    subst e
    obtain ⟨ws, e1, e2, e3⟩ := map_zip rv (k := k) (ks := ks) (ds := ds) (vs := us) (by simpa using h) rs
    rw [List.zip_cons_cons, List.map_cons, e1]
    by_cases c : a = k
    · refine ⟨v :: ws, ?_, by simp [e2], ?_⟩
      · rw [List.zip_cons_cons]
        simp [c]
      · unfold replD
        rw [if_pos c]
        exact ⟨v, ws, rfl, rv, e3⟩
    · refine ⟨u :: ws, ?_, by simp [e2], ?_⟩
      · rw [List.zip_cons_cons]
        simp [c]
      · unfold replD
        rw [if_neg c]
        exact ⟨u, ws, rfl, ru, e3⟩
theorem put_rep {k : Key} {v : V} {d : D} (rv : RepV G w d v) {ks : List Key} {ds : List D} {vs : List V} (h : ks.length = vs.length) (r : RepVs G w ds vs) : ∃ us, putK (ks.zip vs) k v = (putKs ks k).zip us ∧ (putKs ks k).length = us.length ∧ RepVs G w (putDs ks ds k d) us := by
  unfold putK putKs putDs
  rw [any_zip h]
  by_cases c : hasK ks k = true
  · rw [if_pos c, if_pos c, if_pos c]
    exact map_zip rv h r
  · rw [if_neg c, if_neg c, if_neg c]
    refine ⟨vs ++ [v], ?_, by simp [h], RepVs.append r (RepVs.one rv)⟩
    rw [List.zip_append h]
    rfl
def keyD : D → Option Key
  | .str x => some (.inr x)
  | .int i => some (.inl i)
  | _ => none
theorem keyD_rep {d : D} {v : V} {k : Key} (h : keyD d = some k) (r : RepV G w d v) : v = kV k := by
  cases d with
  | str x =>
    cases h
    exact r
  | int i =>
    cases h
    exact r
  | _ => cases h
def kDs (ks : List Key) : List D := ks.map fun
  | .inl i => .int i
  | .inr x => .str x
theorem kDs_rep : ∀ {ks : List Key} {vs : List V}, ks.length = vs.length → RepVs G w (kDs ks) ((ks.zip vs).map fun kv => kV kv.1)
  | [], vs, h => by
    have : vs = [] := List.length_eq_zero_iff.mp h.symm
    subst this
    rfl
  | a :: ks, [], h => by cases h
  | a :: ks, v :: vs, h => by
    have ih := kDs_rep (ks := ks) (vs := vs) (by simpa using h)
    rw [List.zip_cons_cons, List.map_cons]
    refine ⟨_, _, rfl, ?_, ih⟩
    cases a <;> rfl
def dctOf (d : D) : M (List Key × List D) := fun S => match d with
  | .dct ks ds => some (.ok (ks, ds), S)
  | .ref n => match S[n]? with
    | some (.dct ks ds) => some (.ok (ks, ds), S)
    | _ => none
  | _ => none
theorem dctOf_noerr {d : D} {S S' : List Ob} {x : Exn} : dctOf d S ≠ some (.error x, S') := by
  intro h
  unfold dctOf at h
  split at h
  · simp at h
  · split at h <;> simp at h
  · simp at h
theorem dctOf_rep {w : Wd} {S : List Ob} {d : D} {v : V} {kd : List Key × List D} {S' : List Ob} (s : RepS G w S) (r : RepV G w d v) (h : dctOf d S = some (.ok kd, S')) :
    S' = S ∧ ∃ a vs, v = .ref a ∧ w.H a = some (.dK (kd.1.zip vs)) ∧ kd.1.length = vs.length ∧ RepVs G w kd.2 vs := by
  unfold dctOf at h
  cases d with
  | dct ks es =>
    simp only [Option.some.injEq, Prod.mk.injEq, Except.ok.injEq] at h
    obtain ⟨rfl, rfl⟩ := h
    obtain ⟨a, vs, e1, _, h1, h2, h3⟩ := r
    exact ⟨rfl, a, vs, e1, h1, h2, h3⟩
  | ref n =>
    obtain ⟨a, e1, h1⟩ := r
    rcases hn : S[n]? with _ | ⟨_ | ⟨ks, es⟩ | _ | jt⟩
    · simp [hn] at h
    · simp [hn] at h
    · simp only [hn, Option.some.injEq, Prod.mk.injEq, Except.ok.injEq] at h
      obtain ⟨rfl, rfl⟩ := h
      obtain ⟨vs, h2, h3, h4⟩ := s.ob n a _ h1 hn
      exact ⟨rfl, a, vs, e1, h2, h3, h4⟩
    · simp [hn] at h
    · simp [hn] at h
  | _ => simp at h
theorem dct_fin {α β : Type} {rep : Wd → α → β → Prop} {W' : Value → Option Addr → Hp → Prop} {w : Wd} {Q : β → Hp → Prop} {S : List Ob} {d : D} {kk : List Key × List D → M α} {v : V} (s : RepS G w S) (rd : RepV G w d v) (h : FinG G rep W' w Q (M.bind (dctOf d) kk S)) :
    ∃ kd, FinG G rep W' w Q (kk kd S) ∧ dctOf d S = some (.ok kd, S) ∧ ∃ a vs, v = .ref a ∧ w.H a = some (.dK (kd.1.zip vs)) ∧ kd.1.length = vs.length ∧ RepVs G w kd.2 vs := by
  unfold M.bind at h
  rcases hc : dctOf d S with _ | ⟨y | c, S2⟩
  · rw [hc] at h; exact h.elim
  · exact absurd hc dctOf_noerr
  · obtain ⟨rfl, z⟩ := dctOf_rep s rd hc
    rw [hc] at h
    exact ⟨c, h, rfl, z⟩
def dInDct (neg : Bool) (x d : D) : M D := M.bind (dctOf d) fun kd => match keyD x with
  | some k => M.pure (.bl (neg != (valD kd.1 kd.2 k).isSome))
  | none => M.stuck
theorem in_dct {neg : Bool} {op : CmpOp} (hu : X.A.units + 1 < cLine) (hop : (op = .In ∧ neg = false) ∨ (op = .NotIn ∧ neg = true)) : OpR X (compareOp op) (rD2 G (dInDct neg)) := by
  intro pins s σ H v1 v2 v u Q I rv ru ⟨Wx, w2, S2, d, d2, eH, s2, rd, rd2, q⟩
  subst eH
  unfold dInDct at q
  obtain ⟨kd, q1, _, a, vs, rfl, ha, hl, rs⟩ := dct_fin s2 rd2 q
  obtain rfl : u = Value.ref a := ru
  rcases hk : keyD d with _ | k
  · rw [hk] at q1; exact q1.elim
  · rw [hk] at q1
    have e1 := keyD_rep hk rd
    subst e1
    have z := valD_rep (k := k) hl rs
    have g : ∃ o, DGet w2.H a (kV k) o ∧ o.isSome = (valD kd.1 kd.2 k).isSome := by
      rcases hx : valD kd.1 kd.2 k with _ | x
      · rw [hx] at z
        exact ⟨none, .inl ⟨_, k, .of ha, rfl, z.symm⟩, rfl⟩
      · rw [hx] at z
        obtain ⟨y, z, _⟩ := z
        exact ⟨some y, .inl ⟨_, k, .of ha, rfl, z.symm⟩, rfl⟩
    obtain ⟨o, g, eo⟩ := g
    have q2 := fin_pure (b := V.bl (neg != (valD kd.1 kd.2 k).isSome)) q1 s2 rfl
    rcases hop with ⟨rfl, rfl⟩ | ⟨rfl, rfl⟩
    · refine d_in hu I g rv fun s' I' => ⟨_, w2.H, I', ?_, q2⟩
      rw [eo]
      show Value.bool _ = Value.bool (false != _)
      simp
    · refine d_notIn hu I g rv fun s' I' => ⟨_, w2.H, I', ?_, q2⟩
      rw [eo]
      show Value.bool _ = Value.bool (true != _)
      simp
theorem o_inDct (hr : Rm G.gd k X.A) : OpR X (compareOp .In) (rD2 G (dInDct false)) := in_dct (by have := hr.room.units; omega) (.inl ⟨rfl, rfl⟩)
def dIxDct (d x : D) : M D := M.bind (dctOf d) fun kd => match keyD x with
  | some k => match valD kd.1 kd.2 k with
    | some y => M.pure y
    | none => M.stuck
  | none => M.stuck
theorem v_ixDct {o i : Expr} {fo fi : List SV → M D} {pos : Pos} (hr : Rm G.gd k X.A) (ho : PV G X W o fo) (hi : PV G X W i fi) (hs : notSlice i = true) : PV G X W (.Subscript o i pos) (fun sd => M.bind (fo sd) fun d => M.bind (fi sd) fun x => dIxDct d x) := by
  refine PE.imp (pe_dget (by have := hr.room.units; omega) ho hi (by intro a b; cases i <;> first | rfl | cases hs)) fun σ H Q q => ?_
  obtain ⟨w0, w, sd, S, e, r, q⟩ := q
  refine ⟨w0, w, sd, S, e, r, fin_step q fun w1 S1 d v e1 s1 rv q1 => ⟨w0, w1, sd, S1, rfl, r.step e1 s1, fin_step q1 fun w2 S2 x y e2 s2 ry q2 => ?_⟩⟩
  unfold dIxDct at q2
  obtain ⟨kd, q3, _, a, vs, rfl, ha, hl, rs⟩ := dct_fin s2 (RepV.mono e2 s1.dj _ _ rv) q2
  rcases hk : keyD x with _ | kk
  · rw [hk] at q3; exact q3.elim
  · rw [hk] at q3
    simp only at q3
    have e3 := keyD_rep hk ry
    subst e3
    have z := valD_rep (k := kk) hl rs
    rcases hx : valD kd.1 kd.2 kk with _ | x2
    · rw [hx] at q3; exact q3.elim
    · rw [hx] at q3 z
      obtain ⟨u, z, ru⟩ := z
      exact ⟨a, u, rfl, .inl ⟨_, kk, .of ha, rfl, z.symm⟩, fin_pure q3 s2 ru⟩
end
end Ev
set_option maxRecDepth 100000
set_option maxHeartbeats 4000000
namespace Ev
open PySem PySem.Spec PyProof.Rows L2
def tStrV (j : Nat) : TE := fun σ H Q => ∃ z, σ[j]? = some (some (.str z)) ∧ Q (.str z) H
section
variable {G : Sg} {X : Cx} {W : WX} {k n : Nat} {w : Wd} {S : List Ob}
theorem pe_strV {j : Nat} {x : Str} {p q pos : Pos} (hg : Gl X "str") (hm : X.mg "str" = none) (hN : X.N[j]? = some x) (hv : Vis X.env.scope x) (hd : (x == ("__debug__" : Str)) = false) (hcd : (x == ("__classdict__" : Str)) = false) : PE X (.Call (.Name "str" p) [.Name x q] [] pos) (tStrV j) := by
  refine PE.imp (pe_callTy SkE.call_str_str hg hm (by decide +kernel) (pa_cons (pe_var (pos := q) hN hv hd hcd) pa_nil)) fun σ H Q h => ?_
  obtain ⟨z, e, q⟩ := h
  exact ⟨.str z, e, z, rfl, q⟩
def strsK : List Key → Option (List Str)
  | [] => some []
  | .inr x :: ks => (strsK ks).map (x :: ·)
  | .inl _ :: _ => none
theorem strsK_at : ∀ {ks : List Key} {xs : List Str}, strsK ks = some xs → ks = xs.map .inr
  | [], xs, h => by cases h; rfl
  | .inr x :: ks, xs, h => by
    unfold strsK at h
    rcases e : strsK ks with _ | ys
    · rw [e] at h; cases h
    · rw [e] at h
      cases h
      rw [List.map_cons, strsK_at e]
  | .inl _ :: _, xs, h => by cases h
def keysD (kd : List Key × List D) : M D := match strsK kd.1 with
  | some xs => if xs.length < lim then M.pure (.lst (xs.map .str)) else M.stuck
  | none => M.stuck
def strKeys (i j : Nat) : List SV → M D := fun sd => match sd[i]? with
  | some (.val d) => if j < sd.length then M.bind (dctOf d) keysD else M.stuck
  | _ => M.stuck
theorem strs_vals : ∀ (xs : List Str), RepVs G w (xs.map .str) (xs.map V.str)
  | [] => rfl
  | x :: xs => ⟨_, _, rfl, rfl, strs_vals xs⟩
theorem v_strKeys {i j : Nat} {x y : Str} {elt : Expr} {px py pos : Pos} {scope : Scope} (c : Ctx G X W k) (hN : X.N[i]? = some y) (hv : Vis X.env.scope y) (hd : (y == ("__debug__" : Str)) = false) (hcd : (y == ("__classdict__" : Str)) = false)
    (ok : BlkOk X.N X.env.scope scope [(x, j)])
    (hg : ∀ (s : Shared) (H : Hp) (C : Addr) (cl : List (Str × Addr)) (fp : List Addr), PG (X.blk s H scope (compEnvC scope cl C X.env) fp) (.Name x px) (gName j))
    (he : ∀ (s : Shared) (H : Hp) (C : Addr) (cl : List (Str × Addr)) (fp : List Addr), PE (X.blk s H scope (compEnvC scope cl C X.env) fp) elt (tStrV j)) :
    PV G X W (.ListComp elt [{ target := .Name x px, iter := .Name y py, ifs := [], is_async := 0 }] scope pos) (strKeys i j) := by
  have base := pe_lock (pe_lc (pos := pos) c.calm c.nd (pi_keys (pe_var (X := X) (pos := py) hN hv hd hcd)) ok hg (fun _ _ _ _ _ => pts_nil) he (fun _ => rfl))
  constructor
  intro pins s σ H Q I ⟨w0, w, sd, S, eH, r, q⟩
  subst eH
  refine base.run pins s σ w.H Q I ?_
  unfold strKeys at q
  rcases hi : sd[i]? with _ | _ | d | o
  · rw [hi] at q; exact q.elim
  · rw [hi] at q; exact q.elim
  · rw [hi] at q
    obtain ⟨v, hs, rv⟩ := r.vl i d hi
    obtain ⟨hj, q⟩ := FinG.ite q
    obtain ⟨kd, q1, _, a, vs, rfl, ha, hl, rs⟩ := dct_fin r.st rv q
    unfold keysD at q1
    rcases hx : strsK kd.1 with _ | xs
    · rw [hx] at q1; exact q1.elim
    · rw [hx] at q1
      obtain ⟨hlim, q1⟩ := FinG.ite q1
      have hk := strsK_at hx
      have hlen : (kd.1.zip vs).length = xs.length := by
        rw [List.length_zip, ← hl, Nat.min_self, hk, List.length_map]
      have hkey : ∀ i', i' < xs.length → ∀ kk vv, (kd.1.zip vs)[i']? = some (kk, vv) → ∃ z, xs[i']? = some z ∧ kV kk = .str z := fun i' hi' kk vv hz => by
        obtain ⟨l1, e1⟩ := List.getElem?_eq_some_iff.mp hz
        rw [List.getElem_zip] at e1
        have e2 := congrArg Prod.fst e1
        dsimp only at e2
        refine ⟨xs[i'], List.getElem?_eq_getElem hi', ?_⟩
        rw [← e2]
        simp [hk, kV]
      refine ⟨a, _, ha, trivial, fun od => ?_⟩
      refine ⟨.ref a, hs, a, od, rfl, .inl ⟨_, upd_same, fun L hL => ?_⟩⟩
      have nLa : L ≠ a := fun z => by
        rw [z, upd_same] at hL
        cases hL
      have hL0 : w.H L = none := by rwa [upd_ne nLa] at hL
      refine ⟨fun i' m H2 => m = xs.length - i' ∧ i' ≤ xs.length ∧ H2 = upd (upd w.H a (.frz od (.dK (kd.1.zip vs)))) L (.lst ((xs.take i').map V.str)), ⟨_, rfl, Nat.zero_le _, by rw [List.take_zero]; rfl⟩, ?_⟩
      rintro i' m H2 ⟨rfl, hi2, rfl⟩
      have hHa : upd (upd w.H a (.frz od (.dK (kd.1.zip vs)))) L (.lst ((xs.take i').map V.str)) a = some (.frz od (.dK (kd.1.zip vs))) := by
        rw [upd_ne (fun z => nLa z.symm), upd_same]
      by_cases hlt : i' < xs.length
      · refine .inr ⟨⟨hHa, by rw [hlen]; exact hlt⟩, fun H' => H' = upd (upd w.H a (.frz od (.dK (kd.1.zip vs)))) L (.lst ((xs.take (i' + 1)).map V.str)), fun H' e => ⟨xs.length - (i' + 1), by omega, rfl, hlt, e⟩, ?_⟩
        rintro x' H' ⟨rfl, kk, vv, hz, rfl⟩
        obtain ⟨z, hz1, hz2⟩ := hkey i' hlt kk vv hz
        rw [hz2]
        have hw : j < (wipe σ [j]).length := by
          have e : (wipe σ [j]).length = σ.length := by simp [wipe]
          rw [e, r.ln]
          exact hj
        refine ⟨wipe_same (ts := [j]) (fun i2 h2 => ?_) (List.length_set ..) (fun _ h => h), ?_⟩
        · rw [List.getElem?_set_ne (fun z => h2 (by rw [z]; exact List.mem_cons_self))]
        · refine ⟨z, List.getElem?_set_self hw, (xs.take i').map V.str, upd_same, ?_, ?_⟩
          · rw [List.length_map, List.length_take]
            have := lim_eq
            omega
          · have e1 : xs.take (i' + 1) = xs.take i' ++ [z] := by
              rw [List.take_add_one, hz1]
              rfl
            rw [e1, List.map_append, upd_upd]
            rfl
      · have e1 : i' = xs.length := by omega
        subst e1
        refine .inl ⟨⟨hHa, by omega⟩, hHa, ?_⟩
        rw [List.take_length]
        have eH : upd (upd (upd w.H a (.frz od (.dK (kd.1.zip vs)))) L (.lst (xs.map V.str))) a (.dK (kd.1.zip vs)) = upd w.H L (.lst (xs.map V.str)) := by
          funext b
          by_cases c1 : b = a
          · subst c1
            rw [upd_same, upd_ne (fun z => nLa z.symm), ha]
          · rw [upd_ne c1]
            by_cases c2 : b = L
            · subst c2
              rw [upd_same, upd_same]
            · rw [upd_ne c2, upd_ne c2, upd_ne c1]
        rw [eH]
        exact q1 (w.frz L (.lst (xs.map V.str))) _ (Ext.frz hL0) (r.st.frz hL0) ⟨L, _, rfl, .inr rfl, upd_same, strs_vals xs⟩
  · rw [hi] at q; exact q.elim
end
end Ev
set_option maxRecDepth 100000
set_option maxHeartbeats 4000000
namespace Ev
open PySem PySem.Spec PyProof.Rows L2
section
variable {prog : Program} {wo : World} {A : Around} {E : Value → Shared → Prop} {s : Shared} {K : PySem.W.Frag} {x C f : Addr} {ox : Obj} {od : Option Obj}
theorem len_body {Q : Int → Shared → Prop} (h : wpAny (model prog wo) A (callSpecial? (.ref x) "__len__" []) (fun r s' => ∃ n t, r = some (.int n t) ∧ 0 ≤ n ∧ n < 2 ^ 63 ∧ Q n { s' with toks := s'.toks + 1 }) E s) :
    wpAny (model prog wo) A (Builtin.len ⟨[.ref x], []⟩) (fun fin s' => ∃ n t, fin = Fin.done (Flow.ret (.int n t)) ∧ Q n s') E s := by
  unfold Builtin.len
  refine wpAny_bind (wpAny_mono (Q := fun r s' => r = Value.ref x ∧ s' = s) (E := E) ?_ ?_ fun _ _ z => z)
  · exact wpAny_pure ⟨rfl, rfl⟩
  rintro r s' ⟨rfl, rfl⟩
  refine wpAny_bind (wpAny_mono h ?_ fun _ _ z => z)
  rintro r s2 ⟨n, t, rfl, h0, h1, q⟩
  have n0 : ¬ n < 0 := by omega
  have n1 : ¬ n ≥ 2 ^ 63 := by omega
  simp only [n0, n1, if_false]
  repeat (any_goals (first | assumption | wp_step))
  all_goals (intro Γ p hΓ; rw [if_neg n1]; exact (show wpAny (model prog wo) A (retInt n) (fun fin s' => ∃ n t, fin = Fin.done (Flow.ret (.int n t)) ∧ Q n s') E s2 from by
    repeat (any_goals (first | assumption | wp_step))
    all_goals exact ⟨n, _, rfl, q⟩) Γ p hΓ)
theorem truthy_own_len {L : Addr} {h₀ : Heap} {m : Str → Option Value} {Q : Bool → Shared → Prop} (hF : Fr h₀ L s.heap m) (hK : K.In h₀) (kin : K.In s.heap) (J : PySem.W.InstAt s.heap x ox C od) (hb : PySem.W.findIn K (.ref C) "__bool__" = some none) (hl : PySem.W.findIn K (.ref C) "__len__" = some (some (.ref f))) (isf : PySem.W.isFn K (.ref f) = true)
    (h : wpAny (model prog wo) A.in1 (call (.ref f) [.ref x]) (fun v s' => ∃ n t, v = .int n t ∧ 0 ≤ n ∧ n < 2 ^ 63 ∧ Q (n != 0) { s' with toks := s'.toks + 1 }) E s) : wpAny (model prog wo) A (truthy (.ref x)) Q E s := by
  show wpAny _ _ (callSpecial? (.ref x) "__bool__" [] >>= _) _ _ _
  refine wpAny_bind (wpAny_bind (wpAny_bind (PySem.W.Looks.here J.type (PySem.W.Looks.here (PySem.W.looks_findIn kin hb) (wpAny_pure ?_)))))
  refine wpAny_bind (wpAny_bind (PySem.W.Looks.here J.type (PySem.W.Looks.here (PySem.W.looks_findIn kin hl) ?_)))
  refine wpAny_bind (runValue_entry PySem.entry_len (wpAny_mono (len_body (Q := fun n s' => Q (n != 0) s') ?_) ?_ fun _ _ z => z))
  · refine PySem.W.special_fn kin J hl (beq_iff_eq.mp isf) (wpAny_mono h ?_ fun _ _ z => z)
    rintro v s' ⟨n, t, rfl, h0, h1, q⟩
    exact ⟨n, t, rfl, h0, h1, q⟩
  · rintro fin s' ⟨n, t, rfl, q⟩
    exact ⟨_, rfl, wpAny_pure q⟩
end
section
variable {G : Sg} {X : Cx} {W : WX} {k j : Nat} {σ : L2.St} {pos : Pos} {f : Addr} {sem : List D → M D}
structure LenT (X : Cx) (G : Sg) (k : Nat) (tbl : Nat → Option (List D → M D)) : Prop where
  at_ : ∀ c g, tbl c = some g → ∃ f, PySem.W.findIn X.K (.ref (G.ca c)) "__len__" = some (some (.ref f)) ∧ PySem.W.isFn X.K (.ref f) = true ∧ PySem.W.findIn X.K (.ref (G.ca c)) "__bool__" = some none ∧ FnX X G k f g
def ownBoolL (tbl : Nat → Option (List D → M D)) (d : D) : M D := M.bind (pick tbl d) fun g => M.bind (noErr (g [d])) fun r => M.bind (natM r) fun r => match r with
  | .int n => M.pure (.bl (n != 0))
  | _ => M.stuck
theorem run_lenT {A : Around} {pins : List (Addr × Obj)} {H : Hp} {s : Shared} {Q : VK} {E' : Value → Shared → Prop} {us : List Value} {vs : List V} (hr : Rm G.gd j A) (e0 : Env0 X.prog X.w X.K X.mg X.base A X.stack s H) (F : FnX X G j f sem) (I : Inv X pins σ H s) (r : Vals vs us)
    (h : spV G sem vs H (fun z H' => ∃ n : Int, z = .int n ∧ (0 ≤ n ∧ n < 2 ^ 63) ∧ Q (.bl (n != 0)) H') (fun _ _ _ => False)) : wpAny (model X.prog X.w) A (call (.ref f) us) (fun v s' => ∃ n t, v = Value.int n t ∧ 0 ≤ n ∧ n < 2 ^ 63 ∧ EP X pins σ Q (.bool (n != 0)) { s' with toks := s'.toks + 1 }) E' s := by
  have body := F.run A X.stack s H us vs _ (fun _ _ _ => False) hr e0 r h
  refine wpAny_call (codeAny_mono body ?_)
  intro res s' hq
  rcases res with er | fl
  · obtain ⟨_, _, _, _, _, _, _, _, _, _, _, _, z⟩ := hq
    exact z.elim
  · cases fl with
    | ret u =>
      obtain ⟨z, H', I3, rz, n, rfl, hn, hQ⟩ := I.after hq
      obtain ⟨t, e⟩ := (show ∃ t, u = Value.int n t from rz)
      subst e
      exact ⟨n, t, rfl, hn.1, hn.2, .bl (n != 0), H', I3.tok _, rfl, hQ⟩
    | next => exact hq.elim
    | brk => exact hq.elim
    | cont => exact hq.elim
theorem c_boolL {tbl : Nat → Option (List D → M D)} (c : Ctx G X W k) (hj : j + 2 ≤ k) (T : LenT X G j tbl) : CallR X (.type "bool") (rDs G (on1 (ownBoolL tbl))) := by
  intro pins s σ H xs us Q I rx h
  obtain ⟨Wx, w, S, d, v, rfl, st, rfl, r, q⟩ := on1_of h
  unfold ownBoolL at q
  obtain ⟨cc, g, tg, q6, hc1, a1, dx1, fs1, rfl, hb1⟩ := pick_fin st r q
  obtain ⟨f, fi, isf, nb, F⟩ := T.at_ cc g tg
  obtain ⟨u, rfl, ru⟩ := rx.one
  cases (show u = Value.ref a1 from ru)
  obtain ⟨m1, O1, _⟩ := ins_get I.hok hb1
  obtain ⟨od1, J1, _⟩ := O1.look
  obtain ⟨fr, hF⟩ := I.fr
  have r2 : Rm G.gd j X.A.in1.in1.in1 := (((c.rm.mono (show j + 3 ≤ k + 1 by omega)).in1).in1).in1
  have want : spV G g [.ref a1] w.H (fun z H' => ∃ n : Int, z = .int n ∧ (0 ≤ n ∧ n < 2 ^ 63) ∧ Q (.bl (n != 0)) H') (fun _ _ _ => False) := by
    refine ⟨w, [d], S, rfl, st, ⟨_, _, rfl, r, rfl⟩, ?_⟩
    unfold M.bind noErr at q6
    rcases hg : g [d] S with _ | ⟨_ | r, S3⟩
    · rw [hg] at q6; exact q6.elim
    · rw [hg] at q6; exact q6.elim
    · rw [hg] at q6
      intro w' z e s3 rz
      cases r with
      | int n =>
        cases (show z = .int n from rz)
        unfold natM at q6
        by_cases hn : 0 ≤ n ∧ n < 2 ^ 63
        · simp only [if_pos hn, M.pure] at q6
          exact ⟨n, rfl, hn, q6 w' _ e s3 rfl⟩
        · simp only [if_neg hn, M.stuck] at q6
          exact q6.elim
      | _ => exact q6.elim
  exact call_bool_own (truthy_own_len hF I.ok.mod.kin I.kIn J1 nb fi isf (run_lenT (us := [.ref a1]) (vs := [.ref a1]) r2 I.env0.in1.in1.in1 F I (.cons rfl .nil) want))
end
end Ev
set_option maxRecDepth 100000
set_option maxHeartbeats 4000000
namespace Ev
open PySem PySem.Spec PyProof.Rows L2
theorem lt_irr : ∀ a : List Nat, ltCps a a = false
  | [] => by simp [ltCps]
  | x :: a => by simp [ltCps, lt_irr a]
theorem lt_tri : ∀ {a b : List Nat}, ltCps a b = false → ltCps b a = false → a = b
  | [], [], _, _ => rfl
  | [], y :: b, h, _ => by simp [ltCps] at h
  | x :: a, [], _, h => by simp [ltCps] at h
  | x :: a, y :: b, h, l => by
    simp only [ltCps, Bool.or_eq_false_iff, decide_eq_false_iff_not, Bool.and_eq_false_iff, beq_eq_false_iff_ne] at h l
    have e : x = y := by omega
    subst e
    have h2 : ltCps a b = false := by
      rcases h.2 with z | z
      · exact absurd rfl z
      · exact z
    have l2 : ltCps b a = false := by
      rcases l.2 with z | z
      · exact absurd rfl z
      · exact z
    rw [lt_tri h2 l2]
theorem lt_trans' : ∀ {a b c : List Nat}, ltCps a b = true → ltCps b c = true → ltCps a c = true
  | [], [], _, h, _ => by simp [ltCps] at h
  | [], y :: b, [], _, h => by simp [ltCps] at h
  | [], y :: b, z :: c, _, _ => by simp [ltCps]
  | x :: a, [], _, h, _ => by simp [ltCps] at h
  | x :: a, y :: b, [], _, h => by simp [ltCps] at h
  | x :: a, y :: b, z :: c, h, l => by
    simp only [ltCps, Bool.or_eq_true, decide_eq_true_eq, Bool.and_eq_true, beq_iff_eq] at h l ⊢
    rcases h with h | ⟨rfl, h⟩
    · rcases l with l | ⟨rfl, l⟩
      · exact .inl (by omega)
      · exact .inl h
    · rcases l with l | ⟨rfl, l⟩
      · exact .inl l
      · exact .inr ⟨rfl, lt_trans' h l⟩
def leT (a b : Str) : Bool := !ltCps b.cps.toList a.cps.toList
theorem leT_trans {a b c : Str} (h : leT a b = true) (l : leT b c = true) : leT a c = true := by
  unfold leT at *
  simp only [Bool.not_eq_true'] at *
  cases z : ltCps c.cps.toList a.cps.toList with
  | false => rfl
  | true =>
    exfalso
    cases y : ltCps b.cps.toList c.cps.toList with
    | true =>
      have := lt_trans' y z
      rw [h] at this
      cases this
    | false =>
      have e := lt_tri y l
      rw [← e] at z
      rw [h] at z
      cases z
theorem leT_anti {a b : Str} (h : leT a b = true) (l : leT b a = true) : a = b := by
  unfold leT at *
  simp only [Bool.not_eq_true'] at *
  have e := lt_tri l h
  obtain ⟨⟨a⟩⟩ := a
  obtain ⟨⟨b⟩⟩ := b
  simp only at e
  rw [e]
theorem leT_total (a b : Str) : leT a b = true ∨ leT b a = true := by
  unfold leT
  simp only [Bool.not_eq_true']
  cases h : ltCps b.cps.toList a.cps.toList with
  | false => exact .inl rfl
  | true =>
    refine .inr ?_
    cases l : ltCps a.cps.toList b.cps.toList with
    | false => rfl
    | true =>
      have := lt_trans' h l
      rw [lt_irr] at this
      cases this
def insT (x : Str) : List Str → List Str
  | [] => [x]
  | y :: l => if leT x y = true then x :: y :: l else y :: insT x l
def sortT : List Str → List Str
  | [] => []
  | x :: l => insT x (sortT l)
theorem insT_perm (x : Str) : ∀ l : List Str, (insT x l).Perm (x :: l)
  | [] => List.Perm.refl _
  | y :: l => by
    unfold insT
    split
    · exact List.Perm.refl _
    · exact ((insT_perm x l).cons y).trans (List.Perm.swap x y l)
theorem sortT_perm : ∀ l : List Str, (sortT l).Perm l
  | [] => List.Perm.refl _
  | x :: l => (insT_perm x (sortT l)).trans ((sortT_perm l).cons x)
theorem insT_up (x : Str) : ∀ l : List Str, l.Pairwise (fun a b => leT a b = true) → (insT x l).Pairwise (fun a b => leT a b = true)
  | [], _ => by
    unfold insT
    exact List.pairwise_singleton _ _
  | y :: l, h => by
    obtain ⟨h1, h2⟩ := List.pairwise_cons.mp h
    unfold insT
    split
    · rename_i c
      refine List.pairwise_cons.mpr ⟨fun z hz => ?_, h⟩
      rcases List.mem_cons.mp hz with rfl | hz
      · exact c
      · exact leT_trans c (h1 z hz)
    · rename_i c
      refine List.pairwise_cons.mpr ⟨fun z hz => ?_, insT_up x l h2⟩
      rcases List.mem_cons.mp ((insT_perm x l).mem_iff.mp hz) with rfl | hz
      · rcases leT_total z y with q | q
        · exact absurd q c
        · exact q
      · exact h1 z hz
theorem sortT_up : ∀ l : List Str, (sortT l).Pairwise (fun a b => leT a b = true)
  | [] => .nil
  | x :: l => insT_up x _ (sortT_up l)
theorem rising_pw : ∀ (l : List Str) (p : Str), risingS p l = true → (p :: l).Pairwise (fun a b => leT a b = true)
  | [], p, _ => List.pairwise_singleton _ _
  | x :: l, p, h => by
    simp only [risingS, Bool.and_eq_true] at h
    have ih := rising_pw l x h.2
    refine List.pairwise_cons.mpr ⟨fun z hz => ?_, ih⟩
    rcases List.mem_cons.mp hz with rfl | hz
    · exact h.1
    · exact leT_trans h.1 ((List.pairwise_cons.mp ih).1 z hz)
theorem sorted_pw {l : List Str} (h : sortedS l = true) : l.Pairwise (fun a b => leT a b = true) := by
  cases l with
  | nil => exact .nil
  | cons x l => exact rising_pw l x h
theorem sortT_uniq {l m : List Str} (p : m.Perm l) (h : sortedS m = true) : m = sortT l :=
  List.Perm.eq_of_pairwise (le := fun a b => leT a b = true) (fun a b _ _ h1 h2 => leT_anti h1 h2) (sorted_pw h) (sortT_up l) (p.trans (sortT_perm l).symm)
def strsV : List D → Option (List Str)
  | [] => some []
  | .str x :: ds => (strsV ds).map (x :: ·)
  | _ :: _ => none
theorem strsV_map : ∀ l : List Str, strsV (l.map D.str) = some l
  | [] => rfl
  | x :: l => by
    rw [List.map_cons]
    unfold strsV
    rw [strsV_map l]
    rfl
section
variable {G : Sg} {X : Cx} {W : WX} {k n : Nat} {w w0 : Wd} {S : List Ob} {sd : List SV} {σ : L2.St} {pos : Pos}
theorem strsV_rep : ∀ {ds : List D} {xs : List Str} {vs : List V}, strsV ds = some xs → RepVs G w ds vs → vs = xs.map V.str
  | [], xs, vs, h, r => by
    cases h
    exact r
  | .str x :: ds, xs, vs, h, ⟨v, us, e, rv, rs⟩ => by
    unfold strsV at h
    rcases hx : strsV ds with _ | ys
    · rw [hx] at h; cases h
    · rw [hx] at h
      cases h
      cases (show v = .str x from rv)
      rw [e, strsV_rep hx rs]
      rfl
def dSortT : D → M D
  | .lst ds => match strsV ds with
    | some l => if l.length < 64 then M.pure (.lst ((sortT l).map .str)) else M.stuck
    | none => M.stuck
  | _ => M.stuck
theorem c_sortT (cK : G.K = X.K) : CallR X (.builtin "sorted") (rDs G (on1 dSortT)) := by
  refine CallR.imp cr_sortedS fun vs H Q h => ?_
  obtain ⟨W, w, S, d, v, rfl, s, rfl, r, q⟩ := on1_of h
  cases d with
  | lst ds =>
    obtain ⟨a, vs, e, f, hh, rs⟩ := r
    subst e
    unfold dSortT at q
    rcases hl : strsV ds with _ | l
    · simp only [hl] at q; exact q.elim
    · simp only [hl] at q
      obtain ⟨h64, q⟩ := FinG.ite q
      obtain rfl := strsV_rep hl rs
      refine ⟨a, l, rfl, sqL_of cK (.inl ⟨f, .inl hh⟩), h64, fun ns p hp hu hn => ?_⟩
      rw [sortT_uniq hp hu]
      have ex : Ext w (w.frz p (.lst ((sortT l).map V.str))) := Ext.frz hn
      exact q (w.frz p _) _ ex (s.frz hn) ⟨p, _, rfl, .inr rfl, upd_same, strs_vals _⟩
  | _ => exact q.elim
def dListD (d : D) : M D := M.bind (dctOf d) fun kd => M.pure (.lst (kDs kd.1))
theorem c_listDct (hc : X.calm = true) : CallR X (.type "list") (rDs G (on1 dListD)) := by
  refine CallR.imp (call_list_dK hc) fun vs H Q h => ?_
  obtain ⟨W, w, S, d, v, rfl, s, rfl, r, q⟩ := on1_of h
  unfold dListD at q
  obtain ⟨kd, q1, _, a, us, rfl, ha, hl, rs⟩ := dct_fin s r q
  refine ⟨a, _, rfl, ha, fun p hp => ?_⟩
  exact q1 (w.frz p _) _ (Ext.frz hp) (s.frz hp) ⟨p, _, rfl, .inr rfl, upd_same, kDs_rep hl⟩
def dLenD (d : D) : M D := M.bind (dctOf d) fun kd => M.pure (.int kd.1.length)
theorem c_lenDct : CallR X (.builtin "len") (rDs G (on1 dLenD)) := by
  intro pins s σ H xs us Q I rx h
  obtain ⟨Wx, w, S, d, v, rfl, st, rfl, r, q⟩ := on1_of h
  unfold dLenD at q
  obtain ⟨kd, q1, _, a, vs, rfl, ha, hl, rs⟩ := dct_fin st r q
  obtain ⟨u, rfl, ru⟩ := rx.one
  cases (show u = Value.ref a from ru)
  refine d_len I (.of ha) fun t s' I' => ⟨.int kd.1.length, w.H, I', ⟨t, ?_⟩, fin_pure (b := V.int kd.1.length) q1 st rfl⟩
  have e : (kd.1.zip vs).length = kd.1.length := by rw [List.length_zip, ← hl, Nat.min_self]
  show Value.int (((kd.1.zip vs).length : Nat) : Int) t = _
  rw [e]
theorem v_newD : PV G X W (.Dict [] [] pos) (fun _ => newRef (.dct [] [])) := by
  refine PE.imp pe_dnewK fun σ H Q q p hp => ?_
  obtain ⟨w0, w, sd, S, e, r, q⟩ := q
  subst e
  have s1 := r.st.new (o := .dK []) hp
  have e1 : Ext w (w.new p (.dK [])) := Ext.new hp
  obtain ⟨st, s2⟩ := share (o := .dct [] []) s1 ⟨[], upd_same, rfl, rfl⟩ (fun z => r.st.fh p z hp) (fun z => r.st.there z hp)
  refine q ⟨w.m ++ [p], w.F, upd w.H p (.dK []), w.x⟩ (.ref p) ⟨⟨[p], rfl⟩, e1.F, e1.H, fun b hb => ?_, e1.nF, e1.al⟩ s2 ⟨p, rfl, ?_⟩
  · have hb : b ∈ w.m ++ [p] := hb
    rcases List.mem_append.mp hb with z | z
    · exact .inl z
    · have : b = p := by simpa using z
      subst this
      exact .inr hp
  · show (w.m ++ [p])[S.length]? = some p
    rw [← r.st.len, List.getElem?_append_right (Nat.le_refl _)]
    simp
def ownDS (i : Nat) (f : List SV → M D) : MS := exS f fun d sd S => match dctOf d S with
  | some (.ok kd, S1) => some (.next (sd.set i (.own (.dct kd.1 kd.2))), S1)
  | _ => none
theorem s_ownD {i : Nat} {x : Str} {e : Expr} {f : List SV → M D} {p cpos pos' : Pos} (c : Ctx G X W k) (hgl : Gl X "dict") (hm : X.mg "dict" = none) (hi : X.N[i]? = some x) (hx : Loc X.env.scope x) (he : PV G X W e f) (hst : notStar e = true) (hs : swapFree (.Call (.Name "dict" p) [e] [] cpos) = true) (hf : X.fn x = true ∨ X.env.scope.names.lookup x = some .local) (i0 : i ≠ 0) :
    PSV G X W (.Assign [.Name x pos'] (.Call (.Name "dict" p) [e] [] cpos) pos) (ownDS i f) := by
  refine PS.imp (ps_set c.nd hi hx (pe_callTy (p := p) (pos := cpos) call_dictD hgl hm (by decide +kernel) (pa_cons he pa_nil (starEach_cons hst)) (by decide) (by decide) (starEach_cons hst) rfl) (swap_free hs) hf) fun En σ H q => ?_
  obtain ⟨w0, w, sd, S, e, r, q⟩ := q
  refine ⟨w0, w, sd, S, e, r, exS_step q r fun w1 S1 d v e1 r1 rv q1 => ?_⟩
  rcases hd : dctOf d S1 with _ | ⟨y | kd, S2⟩
  · rw [hd] at q1; exact q1.elim
  · exact absurd hd dctOf_noerr
  · rw [hd] at q1
    obtain ⟨rfl, a, vs, rfl, ha, hl, rs⟩ := dctOf_rep r1.st rv hd
    refine ⟨a, _, rfl, .of ha, fun P hP => ?_⟩
    have r2 := r1.step (Ext.new (o := .dK (kd.1.zip vs)) hP) (r1.st.new hP)
    refine q1 (w1.new P (.dK (kd.1.zip vs))) (σ.set i (some (.ref P))) ((Ext.new hP).stay r1.st.dj) (r2.setown (o := .dct kd.1 kd.2) ⟨vs, upd_same, hl, RepVs.mono (Ext.new hP) r1.st.dj _ _ rs⟩ (fun z => r1.st.fh P z hP) (fun z => r1.st.there z hP) (r1.ex.al _ hP) (fun j o' ho hj => ?_) i0)
    obtain ⟨b, e2, hr, _⟩ := r1.ow j o' ho
    rw [hj] at e2
    cases e2
    exact hr.there hP
def setKS (i : Nat) (fi f : List SV → M D) : MS := exS f fun d sd S => match sd[i]? with
  | some (.own (.dct ks ds)) => exS fi (fun y sd S => match keyD y with
    | some kk => if ks.length < lim then some (.next (sd.set i (.own (.dct (putKs ks kk) (putDs ks ds kk d)))), S) else none
    | none => none) sd S
  | _ => none
theorem s_setK {i : Nat} {x : Str} {p spos : Pos} {ix e : Expr} {fi f : List SV → M D} (c : Ctx G X W k) (hN : X.N[i]? = some x) (hv : Vis X.env.scope x) (hd : (x == ("__debug__" : Str)) = false) (hcd : (x == ("__classdict__" : Str)) = false) (he : PV G X W e f) (hi : PV G X W ix fi) (hs : notSlice ix = true)
    (hs1 : swapsWithSole [.Subscript (.Name x p) ix spos] e pos.line X.env = pure false) (hw : swappedStores [.Subscript (.Name x p) ix spos] e X.env = pure none) :
    PSV G X W (.Assign [.Subscript (.Name x p) ix spos] e pos) (setKS i fi f) := by
  refine PS.imp (ps_asg he (pg_sub (pe_var (pos := p) hN hv hd hcd) hi (set_dict (by have := c.rm.room.units; omega)) (sub_tree hs)) hs1 hw rfl) fun En σ H q => ?_
  obtain ⟨w0, w, sd, S, e, r, q⟩ := q
  unfold setKS at q
  refine ⟨w0, w, sd, S, e, r, exS_step q r fun w1 S1 d v e1 r1 rv q1 => ?_⟩
  rcases hi1 : sd[i]? with _ | _ | d0 | ⟨ds | ⟨ks, ds⟩ | ⟨cc, ds⟩ | jt⟩
  case some.own.dct =>
    simp only [hi1] at q1
    obtain ⟨a, ha, _⟩ := r1.ow i _ hi1
    refine ⟨.ref a, ha, w0, w1, sd, S1, rfl, r1, exS_step q1 r1 fun w2 S2 d2 v2 e2 r2 rv2 q2 => ?_⟩
    obtain ⟨a', ha', ⟨vs', h1', h2', h3'⟩, nF', nm', _⟩ := r2.ow i _ hi1
    rw [ha] at ha'
    cases ha'
    rcases hk : keyD d2 with _ | kk
    · rw [hk] at q2; exact q2.elim
    · rw [hk] at q2
      simp only at q2
      by_cases hlim : ks.length < lim
      · rw [if_pos hlim] at q2
        have e3 := keyD_rep hk rv2
        subst e3
        have rv' : RepV G w2 d v := RepV.mono e2 r1.st.dj _ _ rv
        obtain ⟨us, p1, p2, p3⟩ := put_rep (k := kk) rv' h2' h3'
        refine ⟨a, _, rfl, .inl ⟨_, kk, h1', rfl, ?_, rfl⟩, ?_⟩
        · rw [List.length_zip, ← h2', Nat.min_self]
          have := lim_eq
          omega
        · rw [p1]
          have st := Stay.wr (w := w2) (p := a) (o := .dK ((putKs ks kk).zip us)) nF'
          have hn : RepO G (w2.wr a (.dK ((putKs ks kk).zip us))) a (.dct (putKs ks kk) (putDs ks ds kk d)) := ⟨us, upd_same, p2, RepVs.stay st _ _ p3⟩
          exact q2 (w2.wr a _) σ st (r2.wr hi1 ha hn)
      · rw [if_neg hlim] at q2; exact q2.elim
  all_goals (simp only [hi1] at q1; exact q1.elim)
end
end Ev
set_option maxRecDepth 100000
set_option maxHeartbeats 4000000
namespace Ev
open PySem PySem.Spec PyProof.Rows L2
section
variable {G : Sg} {X : Cx} {W : WX} {k n : Nat} {w w0 : Wd} {S : List Ob} {sd : List SV} {σ : L2.St} {pos : Pos}
def itemD (fo fi : List SV → M D) : Tgt := fun d sd S => match fo sd S with
  | some (.ok (.ref n), S1) => match fi sd S1 with
    | some (.ok y, S2) => match keyD y, S2[n]? with
      | some kk, some (.dct ks ds) => if ks.length < lim then some (sd, S2.set n (.dct (putKs ks kk) (putDs ks ds kk d))) else none
      | _, _ => none
    | _ => none
  | _ => none
theorem g_itemD {o i : Expr} {fo fi : List SV → M D} {pos : Pos} (c : Ctx G X W k) (ho : PV G X W o fo) (hi : PV G X W i fi) (hs : notSlice i = true) : PGV G X [] (.Subscript o i pos) (itemD fo fi) := by
  refine PG.imp (pg_sub ho hi (set_dict (by have := c.rm.room.units; omega)) (sub_tree hs)) fun v σ H Q q => ?_
  obtain ⟨w0, w, sd, S, d, e, r, rd, q⟩ := q
  refine ⟨w0, w, sd, S, e, r, ?_⟩
  unfold itemD at q
  rcases hf : fo sd S with _ | ⟨x | d1, S1⟩
  · rw [hf] at q; exact q
  · rw [hf] at q; exact q.elim
  · rw [hf] at q
    cases d1 with
    | ref n =>
      simp only at q
      intro w1 v1 e1 s1 ⟨a, ev, hm⟩
      have r1 := r.step e1 s1
      refine ⟨w0, w1, sd, S1, rfl, r1, ?_⟩
      rcases hg : fi sd S1 with _ | ⟨x | d2, S2⟩
      · rw [hg] at q; exact q
      · rw [hg] at q; exact q.elim
      · rw [hg] at q
        simp only at q
        intro w2 v2 e2 s2 rj
        have r2 := r1.step e2 s2
        obtain ⟨rr, er⟩ := e2.m
        have hm2 : w2.m[n]? = some a := by
          rw [er, List.getElem?_append_left (List.getElem?_eq_some_iff.mp hm).1]; exact hm
        rcases hk : keyD d2 with _ | kk
        · simp only [hk] at q; exact q.elim
        · rcases hn : S2[n]? with _ | ⟨_ | ⟨ks, ds⟩ | _ | jt⟩
          · simp only [hk, hn] at q; exact q.elim
          · simp only [hk, hn] at q; exact q.elim
          · simp only [hk, hn] at q
            by_cases hlim : ks.length < lim
            · simp only [if_pos hlim] at q
              have e3 := keyD_rep hk rj
              subst e3
              obtain ⟨vs, h1', h2', h3'⟩ := s2.ob n a _ hm2 hn
              have rd2 : RepV G w2 d v := RepV.mono (e1.trans e2) r.st.dj _ _ rd
              have nF : ¬ w2.F a := fun z => s2.dj a z (List.mem_of_getElem? hm2)
              obtain ⟨us, p1, p2, p3⟩ := put_rep (k := kk) rd2 h2' h3'
              have st := Stay.wr (w := w2) (p := a) (o := .dK ((putKs ks kk).zip us)) nF
              obtain ⟨st2, r3⟩ := r2.wrm hm2 (h := .dK ((putKs ks kk).zip us)) (o' := .dct (putKs ks kk) (putDs ks ds kk d)) ⟨us, upd_same, p2, RepVs.stay st _ _ p3⟩
              refine ⟨a, _, ev, .inl ⟨_, kk, h1', rfl, ?_, rfl⟩, ?_⟩
              · rw [List.length_zip, ← h2', Nat.min_self]
                have := lim_eq
                omega
              · rw [p1]
                exact q (w2.wr a _) σ (((e1.trans e2).stay r.st.dj).trans st2) r3 fun _ _ => rfl
            · simp only [if_neg hlim] at q; exact q.elim
          · simp only [hk, hn] at q; exact q.elim
          · simp only [hk, hn] at q; exact q.elim
    | _ => exact q.elim
theorem v_dct1 {a b : Expr} {fa fb : List SV → M D} (ha : PV G X W a fa) (hb : PV G X W b fb) : PV G X W (.Dict [some a] [b] pos) (fun sd => M.bind (noErr (fa sd)) fun x => M.bind (noErr (fb sd)) fun d => match keyD x with | some kk => M.pure (.dct [kk] [d]) | none => M.stuck) := by
  refine PE.imp (pe_disp (pps_cons ha hb pps_nil) rfl rfl (by simp) (by simp)) fun σ H Q q p hp => ?_
  obtain ⟨w0, w, sd, S, e, r, q⟩ := q
  subst e
  have e0 : Ext w (w.new p (.dK [])) := Ext.new hp
  have r0 := r.step e0 (r.st.new hp)
  show teV G W fa σ (upd w.H p (.dK [])) _
  refine ⟨w0, w.new p (.dK []), sd, S, rfl, r0, fin_split q fun w1 S1 x v e1 s1 rv q1 => ?_⟩
  refine ⟨w0, w1, sd, S1, rfl, r0.step e1 s1, fin_split q1 fun w2 S2 d u e2 s2 ru q2 => ?_⟩
  rcases hk : keyD x with _ | kk
  · rw [hk] at q2; exact q2.elim
  · rw [hk] at q2
    have e3 := keyD_rep hk rv
    subst e3
    have e12 := e1.trans e2
    have nm0 : p ∉ (w.new p (.dK [])).m := fun z => r.st.there z hp
    have nF0 : ¬ (w.new p (.dK [])).F p := fun z => r.st.fh p z hp
    have hp2 : w2.H p = some (.dK []) := e12.H p _ nm0 upd_same
    have nm2 : p ∉ w2.m := fun z => by
      rcases e12.nm p z with z | z
      · exact nm0 z
      · rw [show (w.new p (.dK [])).H p = some (.dK []) from upd_same] at z
        cases z
    have nF2 : ¬ w2.F p := fun z => by
      rcases e12.nF p z with z | z
      · exact nF0 z
      · rw [show (w.new p (.dK [])).H p = some (.dK []) from upd_same] at z
        cases z
    refine ⟨hp2, [(kk, u)], rfl, by simp, ?_⟩
    have st := Stay.wr (w := w2) (p := p) (o := .dK [(kk, u)]) nF2
    show Q (.ref p) (upd w2.H p (.dK [(kk, u)]))
    have ne : ∀ {b : Addr} {o : HO}, w.H b = some o → b ≠ p := fun hb z => by
      rw [z, hp] at hb
      cases hb
    have big : Ext w ((w2.wr p (.dK [(kk, u)])).fz p) := by
      have ew := e0.trans e12
      refine ⟨ew.m, fun a h => .inl (ew.F a h), fun b o hb h => ?_, ew.nm, fun b h => ?_, fun b h => ?_⟩
      · show upd w2.H p _ b = some o
        rw [upd_ne (ne h)]
        exact ew.H b o hb h
      · rcases h with h | rfl
        · exact ew.nF b h
        · exact .inr hp
      · have h : upd w2.H p _ b = none := h
        by_cases z : b = p
        · rw [z]; exact hp
        · rw [upd_ne z] at h
          exact ew.al b h
    have s3 : RepS G (w2.wr p (.dK [(kk, u)])) S2 := by
      refine ⟨s2.len, s2.nd, s2.dj, fun b z => ?_, fun n b o h1 h2 => ?_⟩
      · show upd w2.H p _ b ≠ none
        rw [upd_ne (fun e => nF2 (by rw [← e]; exact z))]
        exact s2.fh b z
      · exact RepO.to (upd_ne (fun e => nm2 (by rw [← e]; exact List.mem_of_getElem? h1))) st (s2.ob n b o h1 h2)
    have s4 := s3.fz nm2 (by show upd w2.H p _ p ≠ none; rw [upd_same]; exact nofun)
    exact q2 ((w2.wr p (.dK [(kk, u)])).fz p) (.ref p) big s4 ⟨p, [u], rfl, .inr rfl, upd_same, rfl, RepVs.one (RepV.stay Stay.fz _ _ (RepV.stay st _ _ ru))⟩
end
end Ev
set_option maxRecDepth 100000
set_option maxHeartbeats 4000000
namespace Ev
open PySem PySem.Spec PyProof.Rows L2
end Ev
set_option maxRecDepth 100000
set_option maxHeartbeats 4000000
namespace Ev
open PySem PySem.Spec PyProof.Rows L2
end Ev
set_option maxRecDepth 100000
set_option maxHeartbeats 4000000
local macro_rules | `(tactic| leaf_len) => `(tactic| first | exact Or.inl rfl | exact Or.inr (Or.inl rfl) | exact Or.inr (Or.inr rfl))
local macro_rules | `(tactic| mem_news) => `(tactic| first | exact Or.inl rfl | exact Or.inr rfl)
namespace K61
open PySem PySem.Spec PyProof.Rows L2 Ev
def top (i : Nat) : Stmt := PySem.Challenge.pw_rungladders_k61_patterns_under_names.main.body.getD i (.Pass ⟨0, 0, 0, 0⟩)
def flds : Nat → List Str := fun c => match c with | 0 => ["told"] | 1 => ["row", "chain", "scale"] | 11 => ["patterns", "made", "past"] | _ => []
def xfld : Nat → Str := fun c => if c < 9 ∨ c = 13 then "given" else if c = 15 then "most" else "index"
def tqs : Nat → Str := fun j => match j with | 0 => "_law_refused_right.<locals>.<lambda>" | 1 => "_law_right.<locals>.<lambda>" | _ => Str.empty
abbrev GG (b : Bool) (K : PySem.W.Frag) (ad : Nat → Addr) : Sg := { K := K, ca := fun c => ad (1000 + c), fn := flds, xc := fun c => .ref (ad (1100 + c)), xf := xfld, gd := b, ta := fun j => ad (8100 + j), tq := tqs }
abbrev st__law_error : Stmt := top 104
theorem sc__law_error : FnScope ["_law_e", "_law_words", "_law_sorts", "_law_bases", "_law_at"] ["_law_e"] (defScope st__law_error) := ⟨rfl, rfl, rfl, by decide +kernel, rfl, by decide +kernel, by decide +kernel⟩
abbrev st__law_told : Stmt := top 105
theorem sc__law_told : FnScope ["_law_act", "_law_found", "_law_e"] ["_law_act"] (defScope st__law_told) := ⟨rfl, rfl, rfl, by decide +kernel, rfl, by decide +kernel, by decide +kernel⟩
def isS (l : List Nat) : Nat → Option Bool := fun c => if 100 ≤ c ∧ c < 123 then some (decide (c ∈ l)) else none
def isB (k : Nat) : String → Option Bool := fun n => if n = "ValueError" then some (k == 23) else if n = "LookupError" then some (k == 24) else if n = "ArithmeticError" then some (k == 25) else none
abbrev st_BenchX_initX : Stmt := inClass (top 93) 0
theorem sc_BenchX_initX : FnScope ["self"] ["self"] (defScope st_BenchX_initX) := ⟨rfl, rfl, rfl, by decide +kernel, rfl, by decide +kernel, by decide +kernel⟩
abbrev st__law_pick : Stmt := top 97
theorem sc__law_pick : FnScope ["_law_tape", "_law_many", "_law_digit"] ["_law_tape", "_law_many"] (defScope st__law_pick) := ⟨rfl, rfl, rfl, by decide +kernel, rfl, by decide +kernel, by decide +kernel⟩
abbrev st__law_anyrow : Stmt := top 98
theorem sc__law_anyrow : FnScope ["_law_tape", "_law_longest", "_law_many", "_law_turn"] ["_law_tape", "_law_longest"] (defScope st__law_anyrow) := ⟨rfl, rfl, rfl, by decide +kernel, rfl, by decide +kernel, by decide +kernel⟩
abbrev st__law_anyword : Stmt := top 102
theorem sc__law_anyword : FnScope ["_law_tape", "_law_known", "_law_way", "_law_letters", "_law_old", "_law_turn"] ["_law_tape", "_law_known"] (defScope st__law_anyword) := ⟨rfl, rfl, rfl, by decide +kernel, rfl, by decide +kernel, by decide +kernel⟩
abbrev st_Bench_changes : Stmt := inClass (top 93) 3
theorem sc_Bench_changes : FnScope ["self"] ["self"] (defScope st_Bench_changes) := ⟨rfl, rfl, rfl, by decide +kernel, rfl, by decide +kernel, by decide +kernel⟩
abbrev st_Bench_claims : Stmt := inClass (top 93) 2
theorem sc_Bench_claims : FnScope ["self"] ["self"] (defScope st_Bench_claims) := ⟨rfl, rfl, rfl, by decide +kernel, rfl, by decide +kernel, by decide +kernel⟩
abbrev st_Bench_names : Stmt := inClass (top 93) 1
theorem sc_Bench_names : FnScope ["self"] ["self"] (defScope st_Bench_names) := ⟨rfl, rfl, rfl, by decide +kernel, rfl, by decide +kernel, by decide +kernel⟩
abbrev st_BenchX_lenX : Stmt := inClass (top 93) 10
theorem sc_BenchX_lenX : FnScope ["self"] ["self"] (defScope st_BenchX_lenX) := ⟨rfl, rfl, rfl, by decide +kernel, rfl, by decide +kernel, by decide +kernel⟩
abbrev st_Pattern_pieces : Stmt := inClass (top 74) 2
theorem sc_Pattern_pieces : FnScope ["self"] ["self"] (defScope st_Pattern_pieces) := ⟨rfl, rfl, rfl, by decide +kernel, rfl, by decide +kernel, by decide +kernel⟩
abbrev st_BenchX_containsX : Stmt := inClass (top 93) 9
theorem sc_BenchX_containsX : FnScope ["self", "name"] ["self", "name"] (defScope st_BenchX_containsX) := ⟨rfl, rfl, rfl, by decide +kernel, rfl, by decide +kernel, by decide +kernel⟩
abbrev st_Bench_check_known : Stmt := inClass (top 93) 5
theorem sc_Bench_check_known : FnScope ["self", "name"] ["self", "name"] (defScope st_Bench_check_known) := ⟨rfl, rfl, rfl, by decide +kernel, rfl, by decide +kernel, by decide +kernel⟩
abbrev st_BenchX_getitemX : Stmt := inClass (top 93) 7
theorem sc_BenchX_getitemX : FnScope ["self", "name"] ["self", "name"] (defScope st_BenchX_getitemX) := ⟨rfl, rfl, rfl, by decide +kernel, rfl, by decide +kernel, by decide +kernel⟩
abbrev st__law_state_right : Stmt := top 107
theorem sc__law_state_right : FnScope ["_law_desk", "_law_kept", "_law_many", "_law_words", "_law_word"] ["_law_desk", "_law_kept", "_law_many"] (defScope st__law_state_right) := ⟨rfl, rfl, rfl, by decide +kernel, rfl, by decide +kernel, by decide +kernel⟩
abbrev st_integer_in : Stmt := top 44
theorem sc_integer_in : FnScope ["word", "digit"] ["word"] (defScope st_integer_in) := ⟨rfl, rfl, rfl, by decide +kernel, rfl, by decide +kernel, by decide +kernel⟩
abbrev st_is_integer : Stmt := top 31
theorem sc_is_integer : FnScope ["value"] ["value"] (defScope st_is_integer) := ⟨rfl, rfl, rfl, by decide +kernel, rfl, by decide +kernel, by decide +kernel⟩
abbrev st_is_between : Stmt := top 32
theorem sc_is_between : FnScope ["value", "low", "high"] ["value", "low", "high"] (defScope st_is_between) := ⟨rfl, rfl, rfl, by decide +kernel, rfl, by decide +kernel, by decide +kernel⟩
abbrev st_piece_in : Stmt := top 71
theorem sc_piece_in : FnScope ["text", "words", "ohms"] ["text"] (defScope st_piece_in) := ⟨rfl, rfl, rfl, by decide +kernel, rfl, by decide +kernel, by decide +kernel⟩
abbrev st_is_piece : Stmt := top 69
theorem sc_is_piece : FnScope ["value"] ["value"] (defScope st_is_piece) := ⟨rfl, rfl, rfl, by decide +kernel, rfl, by decide +kernel, by decide +kernel⟩
abbrev st_check_pieces : Stmt := top 70
theorem sc_check_pieces : FnScope ["pieces", "index", "piece"] ["pieces"] (defScope st_check_pieces) := ⟨rfl, rfl, rfl, by decide +kernel, rfl, by decide +kernel, by decide +kernel⟩
abbrev st_joined : Stmt := top 47
theorem sc_joined : FnScope ["front", "back", "a", "b", "c", "d", "e", "f", "g", "h"] ["front", "back"] (defScope st_joined) := ⟨rfl, rfl, rfl, by decide +kernel, rfl, by decide +kernel, by decide +kernel⟩
abbrev st_chain_of : Stmt := top 48
theorem sc_chain_of : FnScope ["pieces", "found", "times", "word", "ohms"] ["pieces"] (defScope st_chain_of) := ⟨rfl, rfl, rfl, by decide +kernel, rfl, by decide +kernel, by decide +kernel⟩
abbrev st_PatternX_initX : Stmt := inClass (top 74) 0
theorem sc_PatternX_initX : FnScope ["self", "pieces"] ["self", "pieces"] (defScope st_PatternX_initX) := ⟨rfl, rfl, rfl, by decide +kernel, rfl, by decide +kernel, by decide +kernel⟩
abbrev st_RowX_initX : Stmt := inClass (top 68) 0
theorem sc_RowX_initX : FnScope ["self", "told"] ["self", "told"] (defScope st_RowX_initX) := ⟨rfl, rfl, rfl, by decide +kernel, rfl, by decide +kernel, by decide +kernel⟩
abbrev st_pattern_in : Stmt := top 72
theorem sc_pattern_in : FnScope ["text", "pieces", "part"] ["text"] (defScope st_pattern_in) := ⟨rfl, rfl, rfl, by decide +kernel, rfl, by decide +kernel, by decide +kernel⟩
abbrev st_Pattern_read : Stmt := inClass (top 74) 1
theorem sc_Pattern_read : FnScope ["text", "found"] ["text"] (defScope st_Pattern_read) := ⟨rfl, rfl, rfl, by decide +kernel, rfl, by decide +kernel, by decide +kernel⟩
abbrev st__law_text : Stmt := top 99
theorem sc__law_text : FnScope ["_law_row", "_law_word", "_law_size"] ["_law_row"] (defScope st__law_text) := ⟨rfl, rfl, rfl, by decide +kernel, rfl, by decide +kernel, by decide +kernel⟩
abbrev st__law_pat : Stmt := top 100
theorem sc__law_pat : FnScope ["_law_row"] ["_law_row"] (defScope st__law_pat) := ⟨rfl, rfl, rfl, by decide +kernel, rfl, by decide +kernel, by decide +kernel⟩
abbrev st__law_anything : Stmt := top 103
theorem sc__law_anything : FnScope ["_law_tape", "_law_odd"] ["_law_tape"] (defScope st__law_anything) := ⟨rfl, rfl, rfl, by decide +kernel, rfl, by decide +kernel, by decide +kernel⟩
abbrev st__law_is_name : Stmt := top 101
theorem sc__law_is_name : FnScope ["_law_thing", "_law_letter"] ["_law_thing"] (defScope st__law_is_name) := ⟨rfl, rfl, rfl, by decide +kernel, rfl, by decide +kernel, by decide +kernel⟩
abbrev st_is_name : Stmt := top 88
theorem sc_is_name : FnScope ["value", "letter"] ["value"] (defScope st_is_name) := ⟨rfl, rfl, rfl, by decide +kernel, rfl, by decide +kernel, by decide +kernel⟩
abbrev st_check_pattern : Stmt := top 75
theorem sc_check_pattern : FnScope ["value"] ["value"] (defScope st_check_pattern) := ⟨rfl, rfl, rfl, by decide +kernel, rfl, by decide +kernel, by decide +kernel⟩
abbrev st_Bench_become : Stmt := inClass (top 93) 4
theorem sc_Bench_become : FnScope ["self", "patterns", "made"] ["self", "patterns", "made"] (defScope st_Bench_become) := ⟨rfl, rfl, rfl, by decide +kernel, rfl, by decide +kernel, by decide +kernel⟩
abbrev st_BenchX_setitemX : Stmt := inClass (top 93) 6
theorem sc_BenchX_setitemX : FnScope ["self", "name", "pattern", "patterns", "index", "claim"] ["self", "name", "pattern"] (defScope st_BenchX_setitemX) := ⟨rfl, rfl, rfl, by decide +kernel, rfl, by decide +kernel, by decide +kernel⟩
abbrev st__law_put : Stmt := top 106
theorem sc__law_put : FnScope ["_law_desk", "_law_word", "_law_made"] ["_law_desk", "_law_word", "_law_made"] (defScope st__law_put) := ⟨rfl, rfl, rfl, by decide +kernel, rfl, by decide +kernel, by decide +kernel⟩
abbrev st_PatternX_strX : Stmt := inClass (top 74) 9
theorem sc_PatternX_strX : FnScope ["self", "word", "ohms"] ["self"] (defScope st_PatternX_strX) := ⟨rfl, rfl, rfl, by decide +kernel, rfl, by decide +kernel, by decide +kernel⟩
abbrev st_PatternX_reprX : Stmt := inClass (top 74) 10
theorem sc_PatternX_reprX : FnScope ["self"] ["self"] (defScope st_PatternX_reprX) := ⟨rfl, rfl, rfl, by decide +kernel, rfl, by decide +kernel, by decide +kernel⟩
abbrev st_Bench_drop : Stmt := inClass (top 93) 11
theorem sc_Bench_drop : FnScope ["self", "name", "index", "claim", "other"] ["self", "name"] (defScope st_Bench_drop) := ⟨rfl, rfl, rfl, by decide +kernel, rfl, by decide +kernel, by decide +kernel⟩
abbrev st__law_refused_right : Stmt := top 108
theorem sc__law_refused_right : FnScope ["_law_desk", "_law_kept", "_law_tape", "_law_thing", "_law_made", "_law_odd", "_law_due", "_law_is_known"] ["_law_desk", "_law_kept", "_law_tape"] (defScope st__law_refused_right) := ⟨rfl, rfl, rfl, by decide +kernel, rfl, by decide +kernel, by decide +kernel⟩
abbrev st__law_right : Stmt := top 109
theorem sc__law_right : FnScope ["_law_tape", "_law_desk", "_law_kept", "_law_second", "_law_many", "_law_word", "_law_row", "_law_each"] ["_law_tape"] (defScope st__law_right) := ⟨rfl, rfl, rfl, by decide +kernel, rfl, by decide +kernel, by decide +kernel⟩
abbrev st__law_src : Stmt := top 96
theorem sc__law_src : FnScope ["_law_number", "_law_digits"] ["_law_number"] (defScope st__law_src) := ⟨rfl, rfl, rfl, by decide +kernel, rfl, by decide +kernel, by decide +kernel⟩
abbrev st__law_cell : Stmt := top 95
theorem sc__law_cell : FnScope ["_law_script", "_law_place", "_law_found", "_law_number"] ["_law_script", "_law_place"] (defScope st__law_cell) := ⟨rfl, rfl, rfl, by decide +kernel, rfl, by decide +kernel, by decide +kernel⟩
abbrev st_law : Stmt := top 110
theorem sc_law : FnScope ["_law_script", "_law_place"] ["_law_script"] (defScope st_law) := ⟨rfl, rfl, rfl, by decide +kernel, rfl, by decide +kernel, by decide +kernel⟩
structure Facts (P : Program) (w : World) (K : PySem.W.Frag) (mg : Str → Option Value) (base : Heap) (ad : Nat → Addr) : Prop where
  f_BenchX_initX : ∃ fd, Fun K "__init__" "Bench.__init__" st_BenchX_initX (ad 0) fd
  f__law_pick : ∃ fd, Fun K "_law_pick" "_law_pick" st__law_pick (ad 1) fd
  g__law_pick : mg "_law_pick" = some (.ref (ad 1))
  f__law_anyrow : ∃ fd, Fun K "_law_anyrow" "_law_anyrow" st__law_anyrow (ad 2) fd
  g__law_anyrow : mg "_law_anyrow" = some (.ref (ad 2))
  f__law_anyword : ∃ fd, Fun K "_law_anyword" "_law_anyword" st__law_anyword (ad 3) fd
  g__law_anyword : mg "_law_anyword" = some (.ref (ad 3))
  f_Bench_changes : ∃ fd, Fun K "changes" "Bench.changes" st_Bench_changes (ad 4) fd
  f_Bench_claims : ∃ fd, Fun K "claims" "Bench.claims" st_Bench_claims (ad 5) fd
  f_Bench_names : ∃ fd, Fun K "names" "Bench.names" st_Bench_names (ad 6) fd
  f_BenchX_lenX : ∃ fd, Fun K "__len__" "Bench.__len__" st_BenchX_lenX (ad 7) fd
  f_Pattern_pieces : ∃ fd, Fun K "pieces" "Pattern.pieces" st_Pattern_pieces (ad 8) fd
  f_BenchX_containsX : ∃ fd, Fun K "__contains__" "Bench.__contains__" st_BenchX_containsX (ad 9) fd
  f_Bench_check_known : ∃ fd, Fun K "check_known" "Bench.check_known" st_Bench_check_known (ad 10) fd
  f_BenchX_getitemX : ∃ fd, Fun K "__getitem__" "Bench.__getitem__" st_BenchX_getitemX (ad 11) fd
  f__law_state_right : ∃ fd, Fun K "_law_state_right" "_law_state_right" st__law_state_right (ad 12) fd
  g__law_state_right : mg "_law_state_right" = some (.ref (ad 12))
  f_integer_in : ∃ fd, Fun K "integer_in" "integer_in" st_integer_in (ad 13) fd
  g_integer_in : mg "integer_in" = some (.ref (ad 13))
  f_is_integer : ∃ fd, Fun K "is_integer" "is_integer" st_is_integer (ad 14) fd
  g_is_integer : mg "is_integer" = some (.ref (ad 14))
  f_is_between : ∃ fd, Fun K "is_between" "is_between" st_is_between (ad 15) fd
  g_is_between : mg "is_between" = some (.ref (ad 15))
  f_piece_in : ∃ fd, Fun K "piece_in" "piece_in" st_piece_in (ad 16) fd
  g_piece_in : mg "piece_in" = some (.ref (ad 16))
  f_is_piece : ∃ fd, Fun K "is_piece" "is_piece" st_is_piece (ad 17) fd
  g_is_piece : mg "is_piece" = some (.ref (ad 17))
  f_check_pieces : ∃ fd, Fun K "check_pieces" "check_pieces" st_check_pieces (ad 18) fd
  g_check_pieces : mg "check_pieces" = some (.ref (ad 18))
  f_joined : ∃ fd, Fun K "joined" "joined" st_joined (ad 19) fd
  g_joined : mg "joined" = some (.ref (ad 19))
  f_chain_of : ∃ fd, Fun K "chain_of" "chain_of" st_chain_of (ad 20) fd
  g_chain_of : mg "chain_of" = some (.ref (ad 20))
  f_PatternX_initX : ∃ fd, Fun K "__init__" "Pattern.__init__" st_PatternX_initX (ad 21) fd
  f_RowX_initX : ∃ fd, Fun K "__init__" "Row.__init__" st_RowX_initX (ad 22) fd
  f_pattern_in : ∃ fd, Fun K "pattern_in" "pattern_in" st_pattern_in (ad 23) fd
  g_pattern_in : mg "pattern_in" = some (.ref (ad 23))
  f_Pattern_read : ∃ fd, Fun K "read" "Pattern.read" st_Pattern_read (ad 24) fd
  f__law_text : ∃ fd, Fun K "_law_text" "_law_text" st__law_text (ad 25) fd
  g__law_text : mg "_law_text" = some (.ref (ad 25))
  f__law_pat : ∃ fd, Fun K "_law_pat" "_law_pat" st__law_pat (ad 26) fd
  g__law_pat : mg "_law_pat" = some (.ref (ad 26))
  f__law_anything : ∃ fd, Fun K "_law_anything" "_law_anything" st__law_anything (ad 27) fd
  g__law_anything : mg "_law_anything" = some (.ref (ad 27))
  f__law_is_name : ∃ fd, Fun K "_law_is_name" "_law_is_name" st__law_is_name (ad 28) fd
  g__law_is_name : mg "_law_is_name" = some (.ref (ad 28))
  f_is_name : ∃ fd, Fun K "is_name" "is_name" st_is_name (ad 29) fd
  g_is_name : mg "is_name" = some (.ref (ad 29))
  f_check_pattern : ∃ fd, Fun K "check_pattern" "check_pattern" st_check_pattern (ad 30) fd
  g_check_pattern : mg "check_pattern" = some (.ref (ad 30))
  f_Bench_become : ∃ fd, Fun K "become" "Bench.become" st_Bench_become (ad 31) fd
  f_BenchX_setitemX : ∃ fd, Fun K "__setitem__" "Bench.__setitem__" st_BenchX_setitemX (ad 32) fd
  f__law_put : ∃ fd, Fun K "_law_put" "_law_put" st__law_put (ad 33) fd
  g__law_put : mg "_law_put" = some (.ref (ad 33))
  f_PatternX_strX : ∃ fd, Fun K "__str__" "Pattern.__str__" st_PatternX_strX (ad 34) fd
  f_PatternX_reprX : ∃ fd, Fun K "__repr__" "Pattern.__repr__" st_PatternX_reprX (ad 35) fd
  f__law_error : ∃ fd, Fun K "_law_error" "_law_error" st__law_error (ad 42) fd
  g__law_error : mg "_law_error" = some (.ref (ad 42))
  f__law_told : ∃ fd, Fun K "_law_told" "_law_told" st__law_told (ad 43) fd
  g__law_told : mg "_law_told" = some (.ref (ad 43))
  f_Bench_drop : ∃ fd, Fun K "drop" "Bench.drop" st_Bench_drop (ad 36) fd
  f__law_refused_right : ∃ fd, FunC K "_law_refused_right" "_law_refused_right" st__law_refused_right (ad 37) (ad 8000) fd
  tb_0 : LamX.TabB base mg (ad 8000) (ad 8100)
  g__law_refused_right : mg "_law_refused_right" = some (.ref (ad 37))
  f__law_right : ∃ fd, FunC K "_law_right" "_law_right" st__law_right (ad 38) (ad 8001) fd
  tb_1 : LamX.TabB base mg (ad 8001) (ad 8101)
  g__law_right : mg "_law_right" = some (.ref (ad 38))
  f__law_src : ∃ fd, Fun K "_law_src" "_law_src" st__law_src (ad 39) fd
  g__law_src : mg "_law_src" = some (.ref (ad 39))
  f__law_cell : ∃ fd, Fun K "_law_cell" "_law_cell" st__law_cell (ad 40) fd
  g__law_cell : mg "_law_cell" = some (.ref (ad 40))
  f_law : ∃ fd, Fun K "law" "law" st_law (ad 41) fd
  g_law : mg "law" = some (.ref (ad 41))
  kx_NotAPattern : mg "NotAPattern" = some (.ref (ad 1100))
  kx_NotARun : mg "NotARun" = some (.ref (ad 1101))
  kx_InvalidResistance : mg "InvalidResistance" = some (.ref (ad 1102))
  kx_InvalidCount : mg "InvalidCount" = some (.ref (ad 1103))
  kx_InvalidNumber : mg "InvalidNumber" = some (.ref (ad 1104))
  kx_InvalidText : mg "InvalidText" = some (.ref (ad 1105))
  kx_InvalidName : mg "InvalidName" = some (.ref (ad 1106))
  kx_InvalidClaim : mg "InvalidClaim" = some (.ref (ad 1107))
  kx_InvalidIndex : mg "InvalidIndex" = some (.ref (ad 1108))
  kx_InvalidPieces : mg "InvalidPieces" = some (.ref (ad 1109))
  kx_InvalidDeeds : mg "InvalidDeeds" = some (.ref (ad 1112))
  kx_UnknownName : mg "UnknownName" = some (.ref (ad 1113))
  kx_InUse : mg "InUse" = some (.ref (ad 1114))
  kx_TooMany : mg "TooMany" = some (.ref (ad 1115))
  kx_Broken : mg "Broken" = some (.ref (ad 1116))
  kx_NoLimit : mg "NoLimit" = some (.ref (ad 1117))
  kx_NothingToUndo : mg "NothingToUndo" = some (.ref (ad 1118))
  kx_WrongValue : mg "WrongValue" = some (.ref (ad 1120))
  kx_WrongName : mg "WrongName" = some (.ref (ad 1121))
  kx_NoAnswer : mg "NoAnswer" = some (.ref (ad 1122))
  er_UnknownName : ∀ b : Bool, ErrT K mg (GG b K ad) 13 "UnknownName"
  xh_UnknownName : ∀ b : Bool, IsaH (GG b K ad) K (ad 1113) (isS [113, 121]) (isB 24)
  xf_UnknownName : XfC K (ad 1113)
  xn_UnknownName_given : PySem.W.findIn K (.ref (ad 1113)) "given" = some none
  xn_UnknownName_most : PySem.W.findIn K (.ref (ad 1113)) "most" = some none
  xn_UnknownName_index : PySem.W.findIn K (.ref (ad 1113)) "index" = some none
  xm_UnknownName : PySem.W.exmAny K (.ref (ad 1113)) [.ref (ad 1120), .ref (ad 1121), .ref (ad 1122)] = some true
  er_InvalidPieces : ∀ b : Bool, ErrT K mg (GG b K ad) 9 "InvalidPieces"
  xh_InvalidPieces : ∀ b : Bool, IsaH (GG b K ad) K (ad 1109) (isS [109, 120]) (isB 23)
  xf_InvalidPieces : XfC K (ad 1109)
  xn_InvalidPieces_given : PySem.W.findIn K (.ref (ad 1109)) "given" = some none
  xn_InvalidPieces_most : PySem.W.findIn K (.ref (ad 1109)) "most" = some none
  xn_InvalidPieces_index : PySem.W.findIn K (.ref (ad 1109)) "index" = some none
  xm_InvalidPieces : PySem.W.exmAny K (.ref (ad 1109)) [.ref (ad 1120), .ref (ad 1121), .ref (ad 1122)] = some true
  er_InvalidText : ∀ b : Bool, ErrT K mg (GG b K ad) 5 "InvalidText"
  xh_InvalidText : ∀ b : Bool, IsaH (GG b K ad) K (ad 1105) (isS [105, 120]) (isB 23)
  xf_InvalidText : XfC K (ad 1105)
  xn_InvalidText_given : PySem.W.findIn K (.ref (ad 1105)) "given" = some none
  xn_InvalidText_most : PySem.W.findIn K (.ref (ad 1105)) "most" = some none
  xn_InvalidText_index : PySem.W.findIn K (.ref (ad 1105)) "index" = some none
  xm_InvalidText : PySem.W.exmAny K (.ref (ad 1105)) [.ref (ad 1120), .ref (ad 1121), .ref (ad 1122)] = some true
  er_InvalidName : ∀ b : Bool, ErrT K mg (GG b K ad) 6 "InvalidName"
  xh_InvalidName : ∀ b : Bool, IsaH (GG b K ad) K (ad 1106) (isS [106, 120]) (isB 23)
  xf_InvalidName : XfC K (ad 1106)
  xn_InvalidName_given : PySem.W.findIn K (.ref (ad 1106)) "given" = some none
  xn_InvalidName_most : PySem.W.findIn K (.ref (ad 1106)) "most" = some none
  xn_InvalidName_index : PySem.W.findIn K (.ref (ad 1106)) "index" = some none
  xm_InvalidName : PySem.W.exmAny K (.ref (ad 1106)) [.ref (ad 1120), .ref (ad 1121), .ref (ad 1122)] = some true
  er_NotAPattern : ∀ b : Bool, ErrT K mg (GG b K ad) 0 "NotAPattern"
  xh_NotAPattern : ∀ b : Bool, IsaH (GG b K ad) K (ad 1100) (isS [100, 120]) (isB 23)
  xf_NotAPattern : XfC K (ad 1100)
  xn_NotAPattern_given : PySem.W.findIn K (.ref (ad 1100)) "given" = some none
  xn_NotAPattern_most : PySem.W.findIn K (.ref (ad 1100)) "most" = some none
  xn_NotAPattern_index : PySem.W.findIn K (.ref (ad 1100)) "index" = some none
  xm_NotAPattern : PySem.W.exmAny K (.ref (ad 1100)) [.ref (ad 1120), .ref (ad 1121), .ref (ad 1122)] = some true
  zx_ValueError : mg "ValueError" = none
  zx_LookupError : mg "LookupError" = none
  zx_ArithmeticError : mg "ArithmeticError" = none
  k_Row : mg "Row" = some (.ref (ad 1000))
  m_Row : Mk K (ad 1000) (ad 22)
  cl_Row : Cls K (ad 1000)
  na_Row_told : NoAttr K (ad 1000) "told"
  k_Pattern : mg "Pattern" = some (.ref (ad 1001))
  m_Pattern : Mk K (ad 1001) (ad 21)
  cl_Pattern : Cls K (ad 1001)
  na_Pattern_row : NoAttr K (ad 1001) "row"
  na_Pattern_chain : NoAttr K (ad 1001) "chain"
  na_Pattern_scale : NoAttr K (ad 1001) "scale"
  k_Bench : mg "Bench" = some (.ref (ad 1011))
  m_Bench : Mk K (ad 1011) (ad 0)
  cl_Bench : Cls K (ad 1011)
  na_Bench_patterns : NoAttr K (ad 1011) "patterns"
  na_Bench_made : NoAttr K (ad 1011) "made"
  na_Bench_past : NoAttr K (ad 1011) "past"
  p_Bench_Bench_changes : ∃ q, PropOf K (ad 1011) "changes" q (ad 4)
  p_Bench_Bench_claims : ∃ q, PropOf K (ad 1011) "claims" q (ad 5)
  p_Bench_Bench_names : ∃ q, PropOf K (ad 1011) "names" q (ad 6)
  fl_Bench_BenchX_lenX : PySem.W.findIn K (.ref (ad 1011)) "__len__" = some (some (.ref (ad 7))) ∧ PySem.W.isFn K (.ref (ad 7)) = true ∧ PySem.W.findIn K (.ref (ad 1011)) "__bool__" = some none
  q_Bench_BenchX_lenX : PySem.W.findIn K (.ref (ad 1011)) "__len__" = some (some (.ref (ad 7))) ∧ PySem.W.isFn K (.ref (ad 7)) = true
  p_Pattern_Pattern_pieces : ∃ q, PropOf K (ad 1001) "pieces" q (ad 8)
  q_Bench_BenchX_containsX : PySem.W.findIn K (.ref (ad 1011)) "__contains__" = some (some (.ref (ad 9))) ∧ PySem.W.isFn K (.ref (ad 9)) = true
  t_Bench_Bench_check_known : Meth K (ad 1011) "check_known" (ad 10)
  fg_Bench_BenchX_getitemX : PySem.W.findIn K (.ref (ad 1011)) "__getitem__" = some (some (.ref (ad 11))) ∧ PySem.W.isFn K (.ref (ad 11)) = true ∧ PySem.W.fnIn K (ad 11) = true
  t_Bench_Bench_become : Meth K (ad 1011) "become" (ad 31)
  fs_Bench_BenchX_setitemX : PySem.W.findIn K (.ref (ad 1011)) "__setitem__" = some (some (.ref (ad 32))) ∧ PySem.W.isFn K (.ref (ad 32)) = true ∧ PySem.W.noSeq K (ad 1011) = true
  x_Pattern_PatternX_strX : PySem.W.findIn K (.ref (ad 1001)) "__str__" = some (some (.ref (ad 34))) ∧ PySem.W.isFn K (.ref (ad 34)) = true ∧ PySem.W.findIn K (.ref (ad 1001)) "__format__" = some (some (.builtin "object.__format__")) ∧ PySem.W.mroIn K (ad 1001) (.type "object") = some true
  x_Pattern_PatternX_reprX : PySem.W.findIn K (.ref (ad 1001)) "__repr__" = some (some (.ref (ad 35))) ∧ PySem.W.isFn K (.ref (ad 35)) = true ∧ PySem.W.findIn K (.ref (ad 1001)) "__format__" = some (some (.builtin "object.__format__")) ∧ PySem.W.mroIn K (ad 1001) (.type "object") = some true
  t_Bench_Bench_drop : Meth K (ad 1011) "drop" (ad 36)
  s_Pattern_read : ∃ (mc : Value) (p : Addr) (rest : List Value), ClX.CRead K (ad 1001) mc ∧ PySem.W.findCls K (.ref (ad 1001)) mc "read" = some (.get (.builtin "staticmethod.__get__") (.ref p) .none (.ref (ad 1001))) ∧ PySem.W.recIn K p "staticmethod" = some (.ref (ad 24) :: rest)
  z_abs : mg "abs" = none
  z_all : mg "all" = none
  z_any : mg "any" = none
  z_bool : mg "bool" = none
  z_dict : mg "dict" = none
  z_divmod : mg "divmod" = none
  z_enumerate : mg "enumerate" = none
  z_int : mg "int" = none
  z_isinstance : mg "isinstance" = none
  z_len : mg "len" = none
  z_list : mg "list" = none
  z_max : mg "max" = none
  z_min : mg "min" = none
  z_range : mg "range" = none
  z_repr : mg "repr" = none
  z_sorted : mg "sorted" = none
  z_str : mg "str" = none
  z_tuple : mg "tuple" = none
  c_WORDS : ∀ b : Bool, GlobD mg (GG b K ad) "WORDS" (.tup [(.str "rail"), (.str "rung")])
  c_DIGITS : ∀ b : Bool, GlobD mg (GG b K ad) "DIGITS" (.str "0123456789")
  c_MOST_DIGITS : ∀ b : Bool, GlobD mg (GG b K ad) "MOST_DIGITS" (.int 13)
  c_MOST_OHMS : ∀ b : Bool, GlobD mg (GG b K ad) "MOST_OHMS" (.int 12)
  c_MOST_JOINED : ∀ b : Bool, GlobD mg (GG b K ad) "MOST_JOINED" (.int 8)
  c_MOST_PIECES : ∀ b : Bool, GlobD mg (GG b K ad) "MOST_PIECES" (.int 4)
  c_NOTHING : ∀ b : Bool, GlobD mg (GG b K ad) "NOTHING" (.tup [(.int 1), (.int 0), (.int 0), (.int 1)])
  c_MOST_LETTERS : ∀ b : Bool, GlobD mg (GG b K ad) "MOST_LETTERS" (.int 8)
  c_LETTERS : ∀ b : Bool, GlobD mg (GG b K ad) "LETTERS" (.str "abcdefghijklmnopqrstuvwxyz")
  isa : ∀ (b : Bool) (X : Cx), X.K = K → ClsT X (GG b K ad) (fun c => decide (c ∈ ([0, 1, 11] : List Nat))) (fun a b => if a ∈ ([0, 1, 11] : List Nat) ∧ b ∈ ([0, 1] : List Nat) then some (decide ((a, b) ∈ ([(0, 0), (1, 1)] : List (Nat × Nat)))) else none)
variable {P : Program} {w : World} {K : PySem.W.Frag} {mg : Str → Option Value} {base : Heap} {ad : Nat → Addr} {b : Bool}
def Same (X : Cx) (P : Program) (w : World) (K : PySem.W.Frag) (mg : Str → Option Value) (base : Heap) : Prop := X.prog = P ∧ X.w = w ∧ X.K = K ∧ X.mg = mg ∧ X.base = base
theorem T_fld_patterns (T : Facts P w K mg base ad) {X : Cx} (h : Same X P w K mg base) : FldT X (GG b K ad) "patterns" (tab [(11, 0)]) := by
  obtain ⟨rfl, rfl, rfl, rfl, rfl⟩ := h
  exact ⟨(tab_cons ⟨T.cl_Bench, T.na_Bench_patterns, (show (flds 11).Nodup by decide +kernel), rfl, (show (flds 11).length < 1000 by decide +kernel)⟩ tab_nil)⟩
theorem T_fld_made (T : Facts P w K mg base ad) {X : Cx} (h : Same X P w K mg base) : FldT X (GG b K ad) "made" (tab [(11, 1)]) := by
  obtain ⟨rfl, rfl, rfl, rfl, rfl⟩ := h
  exact ⟨(tab_cons ⟨T.cl_Bench, T.na_Bench_made, (show (flds 11).Nodup by decide +kernel), rfl, (show (flds 11).length < 1000 by decide +kernel)⟩ tab_nil)⟩
theorem T_fld_past (T : Facts P w K mg base ad) {X : Cx} (h : Same X P w K mg base) : FldT X (GG b K ad) "past" (tab [(11, 2)]) := by
  obtain ⟨rfl, rfl, rfl, rfl, rfl⟩ := h
  exact ⟨(tab_cons ⟨T.cl_Bench, T.na_Bench_past, (show (flds 11).Nodup by decide +kernel), rfl, (show (flds 11).length < 1000 by decide +kernel)⟩ tab_nil)⟩
theorem T_fld_row (T : Facts P w K mg base ad) {X : Cx} (h : Same X P w K mg base) : FldT X (GG b K ad) "row" (tab [(1, 0)]) := by
  obtain ⟨rfl, rfl, rfl, rfl, rfl⟩ := h
  exact ⟨(tab_cons ⟨T.cl_Pattern, T.na_Pattern_row, (show (flds 1).Nodup by decide +kernel), rfl, (show (flds 1).length < 1000 by decide +kernel)⟩ tab_nil)⟩
theorem T_fld_scale (T : Facts P w K mg base ad) {X : Cx} (h : Same X P w K mg base) : FldT X (GG b K ad) "scale" (tab [(1, 2)]) := by
  obtain ⟨rfl, rfl, rfl, rfl, rfl⟩ := h
  exact ⟨(tab_cons ⟨T.cl_Pattern, T.na_Pattern_scale, (show (flds 1).Nodup by decide +kernel), rfl, (show (flds 1).length < 1000 by decide +kernel)⟩ tab_nil)⟩
theorem T_fld_chain (T : Facts P w K mg base ad) {X : Cx} (h : Same X P w K mg base) : FldT X (GG b K ad) "chain" (tab [(1, 1)]) := by
  obtain ⟨rfl, rfl, rfl, rfl, rfl⟩ := h
  exact ⟨(tab_cons ⟨T.cl_Pattern, T.na_Pattern_chain, (show (flds 1).Nodup by decide +kernel), rfl, (show (flds 1).length < 1000 by decide +kernel)⟩ tab_nil)⟩
theorem T_fld_told (T : Facts P w K mg base ad) {X : Cx} (h : Same X P w K mg base) : FldT X (GG b K ad) "told" (tab [(0, 0)]) := by
  obtain ⟨rfl, rfl, rfl, rfl, rfl⟩ := h
  exact ⟨(tab_cons ⟨T.cl_Row, T.na_Row_told, (show (flds 0).Nodup by decide +kernel), rfl, (show (flds 0).length < 1000 by decide +kernel)⟩ tab_nil)⟩
theorem T_attr_past_11 (T : Facts P w K mg base ad) {X : Cx} (h : Same X P w K mg base) {k : Nat} (hk : 0 ≤ k) : AttrT X (GG b K ad) k "past" (tab [(11, .fld 2)]) := by
  obtain ⟨rfl, rfl, rfl, rfl, rfl⟩ := h
  exact AttrT.of (tab_cons ⟨T.cl_Bench, T.na_Bench_past, (show (flds 11).Nodup by decide +kernel), rfl⟩ tab_nil)
theorem T_attr_made_11 (T : Facts P w K mg base ad) {X : Cx} (h : Same X P w K mg base) {k : Nat} (hk : 0 ≤ k) : AttrT X (GG b K ad) k "made" (tab [(11, .fld 1)]) := by
  obtain ⟨rfl, rfl, rfl, rfl, rfl⟩ := h
  exact AttrT.of (tab_cons ⟨T.cl_Bench, T.na_Bench_made, (show (flds 11).Nodup by decide +kernel), rfl⟩ tab_nil)
theorem T_attr_patterns_11 (T : Facts P w K mg base ad) {X : Cx} (h : Same X P w K mg base) {k : Nat} (hk : 0 ≤ k) : AttrT X (GG b K ad) k "patterns" (tab [(11, .fld 0)]) := by
  obtain ⟨rfl, rfl, rfl, rfl, rfl⟩ := h
  exact AttrT.of (tab_cons ⟨T.cl_Bench, T.na_Bench_patterns, (show (flds 11).Nodup by decide +kernel), rfl⟩ tab_nil)
theorem T_attr_row_1 (T : Facts P w K mg base ad) {X : Cx} (h : Same X P w K mg base) {k : Nat} (hk : 0 ≤ k) : AttrT X (GG b K ad) k "row" (tab [(1, .fld 0)]) := by
  obtain ⟨rfl, rfl, rfl, rfl, rfl⟩ := h
  exact AttrT.of (tab_cons ⟨T.cl_Pattern, T.na_Pattern_row, (show (flds 1).Nodup by decide +kernel), rfl⟩ tab_nil)
theorem T_attr_told_0 (T : Facts P w K mg base ad) {X : Cx} (h : Same X P w K mg base) {k : Nat} (hk : 0 ≤ k) : AttrT X (GG b K ad) k "told" (tab [(0, .fld 0)]) := by
  obtain ⟨rfl, rfl, rfl, rfl, rfl⟩ := h
  exact AttrT.of (tab_cons ⟨T.cl_Row, T.na_Row_told, (show (flds 0).Nodup by decide +kernel), rfl⟩ tab_nil)
def pk_BenchX_initX : Σ' ms : MS, ∀ (P : Program) (w : World) (K : PySem.W.Frag) (mg : Str → Option Value) (base : Heap) (ad : Nat → Addr) (b : Bool), Facts P w K mg base ad → Body P w K mg base (GG b K ad) 0 (ad 0) ["self"] "Bench.__init__" st_BenchX_initX ms :=
  ⟨_, fun P w K mg base ad b T cdv A fr s H E c => ss_cons (s_setF (i := 0) (T_fld_patterns T ⟨rfl, rfl, rfl, rfl, rfl⟩) rfl (by leaf_len) (by decide) (by decide) v_dict0 rfl) (ss_cons (s_setF (i := 0) (T_fld_made T ⟨rfl, rfl, rfl, rfl, rfl⟩) rfl (by leaf_len) (by decide) (by decide) (v_tup l_nil (by decide)) rfl) (ss_cons (s_setF (i := 0) (T_fld_past T ⟨rfl, rfl, rfl, rfl, rfl⟩) rfl (by leaf_len) (by decide) (by decide) (v_tup l_nil (by decide)) rfl) (ss_nil)))⟩
def sem_BenchX_initX : List D → M D := mkFnR 11 1 1 pk_BenchX_initX.1
theorem mk_Bench (T : Facts P w K mg base ad) : ClA P w K mg base (GG b K ad) 2 11 sem_BenchX_initX := by
  obtain ⟨fd, F⟩ := T.f_BenchX_initX
  exact cla_ref F sc_BenchX_initX (F.binds fun _ _ _ _ _ _ us hl => match us, hl with | [_], _ => rfl) rfl (pk_BenchX_initX.2 P w K mg base ad b T) T.m_Bench rfl rfl (by decide)
def pk__law_pick : Σ' ms : MS, ∀ (P : Program) (w : World) (K : PySem.W.Frag) (mg : Str → Option Value) (base : Heap) (ad : Nat → Addr) (b : Bool), Facts P w K mg base ad → Body P w K mg base (GG b K ad) 0 (ad 1) ["_law_tape", "_law_many", "_law_digit"] "_law_pick" st__law_pick ms :=
  ⟨_, fun P w K mg base ad b T cdv A fr s H E c => ss_cons (s_asg (v_bin (o_add c.cK) (v_ix c.cK (v_var (i := 0) rfl (by leaf_len) (by decide) (by decide)) v_int rfl) v_int) (g_item (W := WF E) (v_var (i := 0) rfl (by leaf_len) (by decide) (by decide)) v_int rfl) rfl rfl rfl) (ss_cons (s_asg (v_bin (o_mod) (v_callTy (c_int) (by rfl) T.z_int (by decide +kernel) (l_cons (v_bin (o_pow) (v_bin (o_add c.cK) (v_bin (o_add c.cK) (v_ix c.cK (v_var (i := 0) rfl (by leaf_len) (by decide) (by decide)) v_int rfl) (v_bin (o_mul c.cK) v_int (v_ix c.cK (v_var (i := 0) rfl (by leaf_len) (by decide) (by decide)) v_int rfl))) v_int) v_int) l_nil rfl) rfl (by decide) (by decide)) v_int) (g_item (W := WF E) (v_var (i := 0) rfl (by leaf_len) (by decide) (by decide)) v_int rfl) rfl rfl rfl) (ss_cons (s_if (b_cmp (o_gt) (v_ix c.cK (v_var (i := 0) rfl (by leaf_len) (by decide) (by decide)) v_int rfl) v_int rfl) (ss_cons (s_asg (v_callB (c_divmod) (by rfl) T.z_divmod (by decide +kernel) (l_cons (v_ix c.cK (v_var (i := 0) rfl (by leaf_len) (by decide) (by decide)) v_int rfl) (l_cons (v_var (i := 1) rfl (by leaf_len) (by decide) (by decide)) l_nil rfl) rfl) rfl (by decide) (by decide)) (g_tup c.cK c.calm (gs_cons (g_item (W := WF E) (v_var (i := 0) rfl (by leaf_len) (by decide) (by decide)) v_int rfl) (gs_cons (g_name (i := 2) c.nd rfl (by mem_news) (.inl rfl)) gs_nil rfl) rfl) rfl rfl) rfl rfl rfl) (ss_cons (s_ret (v_var (i := 2) rfl (by leaf_len) (by decide) (by decide))) ss_nil)) (ss_nil)) (ss_cons (s_ret (v_bin (o_mod) (v_callTy (c_int) (by rfl) T.z_int (by decide +kernel) (l_cons (v_bin (o_fdiv) (v_ix c.cK (v_var (i := 0) rfl (by leaf_len) (by decide) (by decide)) v_int rfl) v_int) l_nil rfl) rfl (by decide) (by decide)) (v_var (i := 1) rfl (by leaf_len) (by decide) (by decide)))) ss_nil)))⟩
def sem__law_pick : List D → M D := runFn 2 3 pk__law_pick.1
theorem ok__law_pick (T : Facts P w K mg base ad) : FnA P w K mg base (GG b K ad) 2 (ad 1) sem__law_pick := by
  obtain ⟨fd, F⟩ := T.f__law_pick
  exact fna_rule F sc__law_pick (F.binds fun _ _ _ _ _ _ us hl => match us, hl with | [_, _], _ => rfl) rfl (pk__law_pick.2 P w K mg base ad b T) rfl rfl (by decide)
def pk__law_anyrow : Σ' ms : MS, ∀ (P : Program) (w : World) (K : PySem.W.Frag) (mg : Str → Option Value) (base : Heap) (ad : Nat → Addr) (b : Bool), Facts P w K mg base ad → Body P w K mg base (GG b K ad) 2 (ad 2) ["_law_tape", "_law_longest", "_law_many", "_law_turn"] "_law_anyrow" st__law_anyrow ms :=
  ⟨_, fun P w K mg base ad b T cdv A fr s H E c => ss_cons (s_set (i := 2) c rfl (by mem_news) (v_bin (o_add c.cK) v_int (v_calls (FnA.call c ((ok__law_pick T).mono (by decide))) (by rfl) T.g__law_pick (l_cons (v_var (i := 0) rfl (by leaf_len) (by decide) (by decide)) (l_cons (v_var (i := 1) rfl (by leaf_len) (by decide) (by decide)) l_nil rfl) rfl) rfl (by decide))) rfl (.inl rfl)) (ss_cons (s_ret (v_callTy (c_tuple c.cK) (by rfl) T.z_tuple (by decide +kernel) (l_cons (v_lc c (own := [("_law_turn", 3)]) (i_rng1 (by rfl) T.z_range (l_cons (v_var (i := 2) rfl (by leaf_len) (by decide) (by decide)) l_nil rfl) rfl) (blkOk_by (N := ["_law_tape", "_law_longest", "_law_many", "_law_turn"]) (sc := defScope st__law_anyrow) (by decide +kernel)) (fun s H C cl fp => blkP c fun c => (p_name (i := 3) c.nd rfl (by mem_news) (.inr rfl))) (fun s H C cl fp => blkT c fun c => t_nil) (fun s H C cl fp => blkV c fun c => (v_tup (l_cons (v_ix c.cK (v_lst (l_cons v_str (l_cons v_str l_nil rfl) rfl) (by decide)) (v_calls (FnA.call c ((ok__law_pick T).mono (by decide))) (by rfl) T.g__law_pick (l_cons (v_var (i := 0) rfl (by leaf_len) (by decide) (by decide)) (l_cons v_int l_nil rfl) rfl) rfl (by decide)) rfl) (l_cons (v_bin (o_add c.cK) v_int (v_calls (FnA.call c ((ok__law_pick T).mono (by decide))) (by rfl) T.g__law_pick (l_cons (v_var (i := 0) rfl (by leaf_len) (by decide) (by decide)) (l_cons v_int l_nil rfl) rfl) rfl (by decide))) l_nil rfl) rfl) (by decide))) rfl (by decide)) l_nil rfl) rfl (by decide) (by decide))) ss_nil)⟩
def sem__law_anyrow : List D → M D := runFn 2 4 pk__law_anyrow.1
theorem ok__law_anyrow (T : Facts P w K mg base ad) : FnA P w K mg base (GG b K ad) 4 (ad 2) sem__law_anyrow := by
  obtain ⟨fd, F⟩ := T.f__law_anyrow
  exact fna_rule F sc__law_anyrow (F.binds fun _ _ _ _ _ _ us hl => match us, hl with | [_, _], _ => rfl) rfl (pk__law_anyrow.2 P w K mg base ad b T) rfl rfl (by decide)
def pk__law_anyword : Σ' ms : MS, ∀ (P : Program) (w : World) (K : PySem.W.Frag) (mg : Str → Option Value) (base : Heap) (ad : Nat → Addr) (b : Bool), Facts P w K mg base ad → Body P w K mg base (GG b K ad) 2 (ad 3) ["_law_tape", "_law_known", "_law_way", "_law_letters", "_law_old", "_law_turn"] "_law_anyword" st__law_anyword ms :=
  ⟨_, fun P w K mg base ad b T cdv A fr s H E c => ss_cons (s_set (i := 2) c rfl (by mem_news) (v_calls (FnA.call c ((ok__law_pick T).mono (by decide))) (by rfl) T.g__law_pick (l_cons (v_var (i := 0) rfl (by leaf_len) (by decide) (by decide)) (l_cons v_int l_nil rfl) rfl) rfl (by decide)) rfl (.inl rfl)) (ss_cons (s_lc (i := 3) c rfl rfl rfl (own := [("_law_turn", 5)]) (i_rng1 (by rfl) T.z_range (l_cons (v_bin (o_add c.cK) v_int (v_calls (FnA.call c ((ok__law_pick T).mono (by decide))) (by rfl) T.g__law_pick (l_cons (v_var (i := 0) rfl (by leaf_len) (by decide) (by decide)) (l_cons v_int l_nil rfl) rfl) rfl (by decide))) l_nil rfl) rfl) (blkOk_by (N := ["_law_tape", "_law_known", "_law_way", "_law_letters", "_law_old", "_law_turn"]) (sc := defScope st__law_anyword) (by decide +kernel)) (fun s H C cl fp => blkP c fun c => (p_name (i := 5) c.nd rfl (by mem_news) (.inr rfl))) (fun s H C cl fp => blkT c fun c => t_nil) (fun s H C cl fp => blkV c fun c => (v_ix c.cK (v_lst (l_cons v_str (l_cons v_str (l_cons (v_ix c.cK v_str (v_calls (FnA.call c ((ok__law_pick T).mono (by decide))) (by rfl) T.g__law_pick (l_cons (v_var (i := 0) rfl (by leaf_len) (by decide) (by decide)) (l_cons v_int l_nil rfl) rfl) rfl (by decide)) rfl) l_nil rfl) rfl) rfl) (by decide)) (v_callB (c_min c.calm) (by rfl) T.z_min (by decide +kernel) (l_cons v_int (l_cons (v_calls (FnA.call c ((ok__law_pick T).mono (by decide))) (by rfl) T.g__law_pick (l_cons (v_var (i := 0) rfl (by leaf_len) (by decide) (by decide)) (l_cons v_int l_nil rfl) rfl) rfl (by decide)) l_nil rfl) rfl) rfl (by decide) (by decide)) rfl)) rfl (by decide)) (ss_cons (s_if (b_of (w_or (b_cmp (o_eq c.cK c.rm) (v_var (i := 1) rfl (by leaf_len) (by decide) (by decide)) (v_lst l_nil (by decide)) rfl) (w_or1 (b_cmp (o_eq c.cK c.rm) (v_var (i := 2) rfl (by leaf_len) (by decide) (by decide)) v_int rfl)))) (ss_cons (s_ret (v_join c.cK v_str (v_var (i := 3) rfl (by leaf_len) (by decide) (by decide)) rfl rfl rfl)) ss_nil) (ss_nil)) (ss_cons (s_set (i := 4) c rfl (by mem_news) (v_ix c.cK (v_var (i := 1) rfl (by leaf_len) (by decide) (by decide)) (v_calls (FnA.call c ((ok__law_pick T).mono (by decide))) (by rfl) T.g__law_pick (l_cons (v_var (i := 0) rfl (by leaf_len) (by decide) (by decide)) (l_cons (v_callB (c_len c.cK) (by rfl) T.z_len (by decide +kernel) (l_cons (v_var (i := 1) rfl (by leaf_len) (by decide) (by decide)) l_nil rfl) rfl (by decide) (by decide)) l_nil rfl) rfl) rfl (by decide)) rfl) rfl (.inl rfl)) (ss_cons (s_if (b_of (w_or (b_cmp (o_eq c.cK c.rm) (v_var (i := 2) rfl (by leaf_len) (by decide) (by decide)) v_int rfl) (w_or1 (b_cmp (o_eq c.cK c.rm) (v_callB (c_len c.cK) (by rfl) T.z_len (by decide +kernel) (l_cons (v_var (i := 4) rfl (by leaf_len) (by decide) (by decide)) l_nil rfl) rfl (by decide) (by decide)) v_int rfl)))) (ss_cons (s_ret (v_var (i := 4) rfl (by leaf_len) (by decide) (by decide))) ss_nil) (ss_nil)) (ss_cons (s_ret (v_ite (b_of (w_or (b_cmp (o_eq c.cK c.rm) (v_var (i := 2) rfl (by leaf_len) (by decide) (by decide)) v_int rfl) (w_or1 (b_cmp (o_eq c.cK c.rm) (v_callB (c_len c.cK) (by rfl) T.z_len (by decide +kernel) (l_cons (v_var (i := 4) rfl (by leaf_len) (by decide) (by decide)) l_nil rfl) rfl (by decide) (by decide)) v_int rfl)))) (v_bin (o_add c.cK) (v_var (i := 4) rfl (by leaf_len) (by decide) (by decide)) (v_ix c.cK (v_var (i := 3) rfl (by leaf_len) (by decide) (by decide)) v_int rfl)) (v_slice c.cK (v_var (i := 4) rfl (by leaf_len) (by decide) (by decide)) q_none (q_some (v_neg v_int))))) ss_nil)))))⟩
def sem__law_anyword : List D → M D := runFn 2 6 pk__law_anyword.1
theorem ok__law_anyword (T : Facts P w K mg base ad) : FnA P w K mg base (GG b K ad) 4 (ad 3) sem__law_anyword := by
  obtain ⟨fd, F⟩ := T.f__law_anyword
  exact fna_rule F sc__law_anyword (F.binds fun _ _ _ _ _ _ us hl => match us, hl with | [_, _], _ => rfl) rfl (pk__law_anyword.2 P w K mg base ad b T) rfl rfl (by decide)
def pk_Bench_changes : Σ' ms : MS, ∀ (P : Program) (w : World) (K : PySem.W.Frag) (mg : Str → Option Value) (base : Heap) (ad : Nat → Addr) (b : Bool), Facts P w K mg base ad → Body P w K mg base (GG b K ad) 0 (ad 4) ["self"] "Bench.changes" st_Bench_changes ms :=
  ⟨_, fun P w K mg base ad b T cdv A fr s H E c => ss_cons (s_ret (v_callB (c_len c.cK) (by rfl) T.z_len (by decide +kernel) (l_cons (v_attr c (T_attr_past_11 T ⟨rfl, rfl, rfl, rfl, rfl⟩ (by decide)) (v_var (i := 0) rfl (by leaf_len) (by decide) (by decide)) rfl) l_nil rfl) rfl (by decide) (by decide))) ss_nil⟩
def sem_Bench_changes : List D → M D := runFn 1 1 pk_Bench_changes.1
theorem ok_Bench_changes (T : Facts P w K mg base ad) : FnA P w K mg base (GG b K ad) 2 (ad 4) sem_Bench_changes := by
  obtain ⟨fd, F⟩ := T.f_Bench_changes
  exact fna_rule F sc_Bench_changes (F.binds fun _ _ _ _ _ _ us hl => match us, hl with | [_], _ => rfl) rfl (pk_Bench_changes.2 P w K mg base ad b T) rfl rfl (by decide)
theorem T_attr_changes_11 (T : Facts P w K mg base ad) {X : Cx} (h : Same X P w K mg base) {k : Nat} (hk : 2 ≤ k) : AttrT X (GG b K ad) k "changes" (tab [(11, .prop sem_Bench_changes)]) := by
  obtain ⟨rfl, rfl, rfl, rfl, rfl⟩ := h
  exact AttrT.of (tab_cons (let ⟨q, hq⟩ := T.p_Bench_Bench_changes; ⟨q, _, T.cl_Bench, hq, (ok_Bench_changes T).mono (Nat.le_trans (by decide) hk)⟩) tab_nil)
def pk_Bench_claims : Σ' ms : MS, ∀ (P : Program) (w : World) (K : PySem.W.Frag) (mg : Str → Option Value) (base : Heap) (ad : Nat → Addr) (b : Bool), Facts P w K mg base ad → Body P w K mg base (GG b K ad) 0 (ad 5) ["self"] "Bench.claims" st_Bench_claims ms :=
  ⟨_, fun P w K mg base ad b T cdv A fr s H E c => ss_cons (s_ret (v_attr c (T_attr_made_11 T ⟨rfl, rfl, rfl, rfl, rfl⟩ (by decide)) (v_var (i := 0) rfl (by leaf_len) (by decide) (by decide)) rfl)) ss_nil⟩
def sem_Bench_claims : List D → M D := runFn 1 1 pk_Bench_claims.1
theorem ok_Bench_claims (T : Facts P w K mg base ad) : FnA P w K mg base (GG b K ad) 2 (ad 5) sem_Bench_claims := by
  obtain ⟨fd, F⟩ := T.f_Bench_claims
  exact fna_rule F sc_Bench_claims (F.binds fun _ _ _ _ _ _ us hl => match us, hl with | [_], _ => rfl) rfl (pk_Bench_claims.2 P w K mg base ad b T) rfl rfl (by decide)
theorem T_attr_claims_11 (T : Facts P w K mg base ad) {X : Cx} (h : Same X P w K mg base) {k : Nat} (hk : 2 ≤ k) : AttrT X (GG b K ad) k "claims" (tab [(11, .prop sem_Bench_claims)]) := by
  obtain ⟨rfl, rfl, rfl, rfl, rfl⟩ := h
  exact AttrT.of (tab_cons (let ⟨q, hq⟩ := T.p_Bench_Bench_claims; ⟨q, _, T.cl_Bench, hq, (ok_Bench_claims T).mono (Nat.le_trans (by decide) hk)⟩) tab_nil)
def pk_Bench_names : Σ' ms : MS, ∀ (P : Program) (w : World) (K : PySem.W.Frag) (mg : Str → Option Value) (base : Heap) (ad : Nat → Addr) (b : Bool), Facts P w K mg base ad → Body P w K mg base (GG b K ad) 0 (ad 6) ["self"] "Bench.names" st_Bench_names ms :=
  ⟨_, fun P w K mg base ad b T cdv A fr s H E c => ss_cons (s_ret (v_callTy (c_tuple c.cK) (by rfl) T.z_tuple (by decide +kernel) (l_cons (v_callB (c_sortT c.cK) (by rfl) T.z_sorted (by decide +kernel) (l_cons (v_callTy (c_listDct c.calm) (by rfl) T.z_list (by decide +kernel) (l_cons (v_attr c (T_attr_patterns_11 T ⟨rfl, rfl, rfl, rfl, rfl⟩ (by decide)) (v_var (i := 0) rfl (by leaf_len) (by decide) (by decide)) rfl) l_nil rfl) rfl (by decide) (by decide)) l_nil rfl) rfl (by decide) (by decide)) l_nil rfl) rfl (by decide) (by decide))) ss_nil⟩
def sem_Bench_names : List D → M D := runFn 1 1 pk_Bench_names.1
theorem ok_Bench_names (T : Facts P w K mg base ad) : FnA P w K mg base (GG b K ad) 2 (ad 6) sem_Bench_names := by
  obtain ⟨fd, F⟩ := T.f_Bench_names
  exact fna_rule F sc_Bench_names (F.binds fun _ _ _ _ _ _ us hl => match us, hl with | [_], _ => rfl) rfl (pk_Bench_names.2 P w K mg base ad b T) rfl rfl (by decide)
theorem T_attr_names_11 (T : Facts P w K mg base ad) {X : Cx} (h : Same X P w K mg base) {k : Nat} (hk : 2 ≤ k) : AttrT X (GG b K ad) k "names" (tab [(11, .prop sem_Bench_names)]) := by
  obtain ⟨rfl, rfl, rfl, rfl, rfl⟩ := h
  exact AttrT.of (tab_cons (let ⟨q, hq⟩ := T.p_Bench_Bench_names; ⟨q, _, T.cl_Bench, hq, (ok_Bench_names T).mono (Nat.le_trans (by decide) hk)⟩) tab_nil)
def pk_BenchX_lenX : Σ' ms : MS, ∀ (P : Program) (w : World) (K : PySem.W.Frag) (mg : Str → Option Value) (base : Heap) (ad : Nat → Addr) (b : Bool), Facts P w K mg base ad → Body P w K mg base (GG b K ad) 0 (ad 7) ["self"] "Bench.__len__" st_BenchX_lenX ms :=
  ⟨_, fun P w K mg base ad b T cdv A fr s H E c => ss_cons (s_ret (v_callB c_lenDct (by rfl) T.z_len (by decide +kernel) (l_cons (v_attr c (T_attr_patterns_11 T ⟨rfl, rfl, rfl, rfl, rfl⟩ (by decide)) (v_var (i := 0) rfl (by leaf_len) (by decide) (by decide)) rfl) l_nil rfl) rfl (by decide) (by decide))) ss_nil⟩
def sem_BenchX_lenX : List D → M D := runFn 1 1 pk_BenchX_lenX.1
theorem ok_BenchX_lenX (T : Facts P w K mg base ad) : FnA P w K mg base (GG b K ad) 2 (ad 7) sem_BenchX_lenX := by
  obtain ⟨fd, F⟩ := T.f_BenchX_lenX
  exact fna_rule F sc_BenchX_lenX (F.binds fun _ _ _ _ _ _ us hl => match us, hl with | [_], _ => rfl) rfl (pk_BenchX_lenX.2 P w K mg base ad b T) rfl rfl (by decide)
theorem T_lenb_11 (T : Facts P w K mg base ad) {X : Cx} (h : Same X P w K mg base) {k : Nat} (hk : 2 ≤ k) : LenT X (GG b K ad) k (tab [(11, sem_BenchX_lenX)]) := by
  obtain ⟨rfl, rfl, rfl, rfl, rfl⟩ := h
  exact ⟨(tab_cons ⟨_, T.fl_Bench_BenchX_lenX.1, T.fl_Bench_BenchX_lenX.2.1, T.fl_Bench_BenchX_lenX.2.2, (ok_BenchX_lenX T).mono (Nat.le_trans (by decide) hk)⟩ tab_nil)⟩
theorem T_spX_lenX_11 (T : Facts P w K mg base ad) {X : Cx} (h : Same X P w K mg base) {k : Nat} (hk : 2 ≤ k) : SpT X (GG b K ad) k "__len__" (tab [(11, sem_BenchX_lenX)]) := by
  obtain ⟨rfl, rfl, rfl, rfl, rfl⟩ := h
  exact ⟨(tab_cons ⟨_, T.q_Bench_BenchX_lenX.1, T.q_Bench_BenchX_lenX.2, (ok_BenchX_lenX T).mono (Nat.le_trans (by decide) hk)⟩ tab_nil)⟩
def pk_Pattern_pieces : Σ' ms : MS, ∀ (P : Program) (w : World) (K : PySem.W.Frag) (mg : Str → Option Value) (base : Heap) (ad : Nat → Addr) (b : Bool), Facts P w K mg base ad → Body P w K mg base (GG b K ad) 0 (ad 8) ["self"] "Pattern.pieces" st_Pattern_pieces ms :=
  ⟨_, fun P w K mg base ad b T cdv A fr s H E c => ss_cons (s_ret (v_attr c (T_attr_row_1 T ⟨rfl, rfl, rfl, rfl, rfl⟩ (by decide)) (v_var (i := 0) rfl (by leaf_len) (by decide) (by decide)) rfl)) ss_nil⟩
def sem_Pattern_pieces : List D → M D := runFn 1 1 pk_Pattern_pieces.1
theorem ok_Pattern_pieces (T : Facts P w K mg base ad) : FnA P w K mg base (GG b K ad) 2 (ad 8) sem_Pattern_pieces := by
  obtain ⟨fd, F⟩ := T.f_Pattern_pieces
  exact fna_rule F sc_Pattern_pieces (F.binds fun _ _ _ _ _ _ us hl => match us, hl with | [_], _ => rfl) rfl (pk_Pattern_pieces.2 P w K mg base ad b T) rfl rfl (by decide)
theorem T_attr_pieces_1 (T : Facts P w K mg base ad) {X : Cx} (h : Same X P w K mg base) {k : Nat} (hk : 2 ≤ k) : AttrT X (GG b K ad) k "pieces" (tab [(1, .prop sem_Pattern_pieces)]) := by
  obtain ⟨rfl, rfl, rfl, rfl, rfl⟩ := h
  exact AttrT.of (tab_cons (let ⟨q, hq⟩ := T.p_Pattern_Pattern_pieces; ⟨q, _, T.cl_Pattern, hq, (ok_Pattern_pieces T).mono (Nat.le_trans (by decide) hk)⟩) tab_nil)
def pk_BenchX_containsX : Σ' ms : MS, ∀ (P : Program) (w : World) (K : PySem.W.Frag) (mg : Str → Option Value) (base : Heap) (ad : Nat → Addr) (b : Bool), Facts P w K mg base ad → Body P w K mg base (GG b K ad) 0 (ad 9) ["self", "name"] "Bench.__contains__" st_BenchX_containsX ms :=
  ⟨_, fun P w K mg base ad b T cdv A fr s H E c => ss_cons (s_ret (v_and (v_callB (c_isa c.cK (T.isa _ _ rfl)) (by rfl) T.z_isinstance (by decide +kernel) (l_cons (v_var (i := 1) rfl (by leaf_len) (by decide) (by decide)) (l_cons (v_ty (t := .str) (by rfl) T.z_str (by decide +kernel) (by decide) (by decide)) l_nil rfl) rfl) rfl (by decide) (by decide)) (v_one (v_cmp (o_inDct c.rm) (v_var (i := 1) rfl (by leaf_len) (by decide) (by decide)) (v_attr c (T_attr_patterns_11 T ⟨rfl, rfl, rfl, rfl, rfl⟩ (by decide)) (v_var (i := 0) rfl (by leaf_len) (by decide) (by decide)) rfl) rfl)))) ss_nil⟩
def sem_BenchX_containsX : List D → M D := runFn 2 2 pk_BenchX_containsX.1
theorem ok_BenchX_containsX (T : Facts P w K mg base ad) : FnA P w K mg base (GG b K ad) 2 (ad 9) sem_BenchX_containsX := by
  obtain ⟨fd, F⟩ := T.f_BenchX_containsX
  exact fna_rule F sc_BenchX_containsX (F.binds fun _ _ _ _ _ _ us hl => match us, hl with | [_, _], _ => rfl) rfl (pk_BenchX_containsX.2 P w K mg base ad b T) rfl rfl (by decide)
theorem T_spX_containsX_11 (T : Facts P w K mg base ad) {X : Cx} (h : Same X P w K mg base) {k : Nat} (hk : 2 ≤ k) : SpT X (GG b K ad) k "__contains__" (tab [(11, sem_BenchX_containsX)]) := by
  obtain ⟨rfl, rfl, rfl, rfl, rfl⟩ := h
  exact ⟨(tab_cons ⟨_, T.q_Bench_BenchX_containsX.1, T.q_Bench_BenchX_containsX.2, (ok_BenchX_containsX T).mono (Nat.le_trans (by decide) hk)⟩ tab_nil)⟩
def pk_Bench_check_known : Σ' ms : MS, ∀ (P : Program) (w : World) (K : PySem.W.Frag) (mg : Str → Option Value) (base : Heap) (ad : Nat → Addr) (b : Bool), Facts P w K mg base ad → Body P w K mg base (GG b K ad) 2 (ad 10) ["self", "name"] "Bench.check_known" st_Bench_check_known ms :=
  ⟨_, fun P w K mg base ad b T cdv A fr s H E c => ss_cons (s_if (b_cmp (o_ownNotIn c (T_spX_containsX_11 T ⟨rfl, rfl, rfl, rfl, rfl⟩ (by decide))) (v_var (i := 1) rfl (by leaf_len) (by decide) (by decide)) (v_var (i := 0) rfl (by leaf_len) (by decide) (by decide)) rfl) (ss_cons (s_raise (cx := 13) c (by decide) (L2N.takes_of rfl rfl rfl rfl) (T.er_UnknownName _) (by rfl) (by decide) (v_var (i := 1) rfl (by leaf_len) (by decide) (by decide)) rfl) ss_never) (ss_nil)) (ss_nil)⟩
def sem_Bench_check_known : List D → M D := runFn 2 2 pk_Bench_check_known.1
theorem ok_Bench_check_known (T : Facts P w K mg base ad) : FnA P w K mg base (GG b K ad) 4 (ad 10) sem_Bench_check_known := by
  obtain ⟨fd, F⟩ := T.f_Bench_check_known
  exact fna_rule F sc_Bench_check_known (F.binds fun _ _ _ _ _ _ us hl => match us, hl with | [_, _], _ => rfl) rfl (pk_Bench_check_known.2 P w K mg base ad b T) rfl rfl (by decide)
theorem T_meth_check_known_11 (T : Facts P w K mg base ad) {X : Cx} (h : Same X P w K mg base) {k : Nat} (hk : 4 ≤ k) : MethT X (GG b K ad) k "check_known" (tab [(11, sem_Bench_check_known)]) := by
  obtain ⟨rfl, rfl, rfl, rfl, rfl⟩ := h
  exact ⟨(tab_cons ⟨_, T.cl_Bench, T.t_Bench_Bench_check_known, (ok_Bench_check_known T).mono (Nat.le_trans (by decide) hk), (show ("check_known" : Str) ∉ flds 11 by decide +kernel)⟩ tab_nil)⟩
def pk_BenchX_getitemX : Σ' ms : MS, ∀ (P : Program) (w : World) (K : PySem.W.Frag) (mg : Str → Option Value) (base : Heap) (ad : Nat → Addr) (b : Bool), Facts P w K mg base ad → Body P w K mg base (GG b K ad) 4 (ad 11) ["self", "name"] "Bench.__getitem__" st_BenchX_getitemX ms :=
  ⟨_, fun P w K mg base ad b T cdv A fr s H E c => ss_cons (s_expr (v_meth c (T_meth_check_known_11 T ⟨rfl, rfl, rfl, rfl, rfl⟩ (by decide)) (v_var (i := 0) rfl (by leaf_len) (by decide) (by decide)) (l_cons (v_var (i := 1) rfl (by leaf_len) (by decide) (by decide)) l_nil rfl) rfl rfl (by decide) rfl) rfl) (ss_cons (s_ret (v_ixDct c.rm (v_attr c (T_attr_patterns_11 T ⟨rfl, rfl, rfl, rfl, rfl⟩ (by decide)) (v_var (i := 0) rfl (by leaf_len) (by decide) (by decide)) rfl) (v_var (i := 1) rfl (by leaf_len) (by decide) (by decide)) rfl)) ss_nil)⟩
def sem_BenchX_getitemX : List D → M D := runFn 2 2 pk_BenchX_getitemX.1
theorem ok_BenchX_getitemX (T : Facts P w K mg base ad) : FnA P w K mg base (GG b K ad) 6 (ad 11) sem_BenchX_getitemX := by
  obtain ⟨fd, F⟩ := T.f_BenchX_getitemX
  exact fna_rule F sc_BenchX_getitemX (F.binds fun _ _ _ _ _ _ us hl => match us, hl with | [_, _], _ => rfl) rfl (pk_BenchX_getitemX.2 P w K mg base ad b T) rfl rfl (by decide)
theorem T_get_11 (T : Facts P w K mg base ad) {X : Cx} (h : Same X P w K mg base) {k : Nat} (hk : 6 ≤ k) : GetT X (GG b K ad) k (tab [(11, sem_BenchX_getitemX)]) := by
  obtain ⟨rfl, rfl, rfl, rfl, rfl⟩ := h
  exact ⟨(tab_cons ⟨_, T.fg_Bench_BenchX_getitemX.1, T.fg_Bench_BenchX_getitemX.2.1, T.fg_Bench_BenchX_getitemX.2.2, (ok_BenchX_getitemX T).mono (Nat.le_trans (by decide) hk)⟩ tab_nil)⟩
def pk__law_state_right : Σ' ms : MS, ∀ (P : Program) (w : World) (K : PySem.W.Frag) (mg : Str → Option Value) (base : Heap) (ad : Nat → Addr), Facts P w K mg base ad → Body P w K mg base (GG true K ad) 6 (ad 12) ["_law_desk", "_law_kept", "_law_many", "_law_words", "_law_word"] "_law_state_right" st__law_state_right ms :=
  ⟨_, fun P w K mg base ad T cdv A fr s H E c => ss_cons (s_set (i := 3) c rfl (by mem_news) (v_callB (c_sortT c.cK) (by rfl) T.z_sorted (by decide +kernel) (l_cons (v_strKeys (i := 1) (j := 4) c rfl (by leaf_len) (by decide) (by decide) (blkOk_by (N := ["_law_desk", "_law_kept", "_law_many", "_law_words", "_law_word"]) (sc := defScope st__law_state_right) (by decide +kernel)) (fun _ _ _ _ _ => pg_name c.nd rfl (by mem_news) (.inr rfl)) (fun _ _ _ _ _ => pe_strV (by rfl) T.z_str rfl (by leaf_len) (by decide) (by decide))) l_nil rfl) rfl (by decide) (by decide)) rfl (.inl rfl)) (ss_cons (s_if (b_cmp (o_ne c.cK c.rm) (v_callB (c_repr c.cK c.rm) (by rfl) T.z_repr (by decide +kernel) (l_cons (v_lst (l_cons (v_attr c (T_attr_names_11 T ⟨rfl, rfl, rfl, rfl, rfl⟩ (by decide)) (v_var (i := 0) rfl (by leaf_len) (by decide) (by decide)) rfl) (l_cons (v_attr c (T_attr_claims_11 T ⟨rfl, rfl, rfl, rfl, rfl⟩ (by decide)) (v_var (i := 0) rfl (by leaf_len) (by decide) (by decide)) rfl) (l_cons (v_attr c (T_attr_changes_11 T ⟨rfl, rfl, rfl, rfl, rfl⟩ (by decide)) (v_var (i := 0) rfl (by leaf_len) (by decide) (by decide)) rfl) l_nil rfl) rfl) rfl) (by decide)) l_nil rfl) rfl (by decide) (by decide)) (v_callB (c_repr c.cK c.rm) (by rfl) T.z_repr (by decide +kernel) (l_cons (v_lst (l_cons (v_callTy (c_tuple c.cK) (by rfl) T.z_tuple (by decide +kernel) (l_cons (v_var (i := 3) rfl (by leaf_len) (by decide) (by decide)) l_nil rfl) rfl (by decide) (by decide)) (l_cons (v_tup l_nil (by decide)) (l_cons (v_var (i := 2) rfl (by leaf_len) (by decide) (by decide)) l_nil rfl) rfl) rfl) (by decide)) l_nil rfl) rfl (by decide) (by decide)) rfl) (ss_cons (s_ret v_bool) ss_nil) (ss_nil)) (ss_cons (s_if (b_cmp (o_ne c.cK c.rm) (v_callB (c_repr c.cK c.rm) (by rfl) T.z_repr (by decide +kernel) (l_cons (v_lst (l_cons (v_callB (c_lenX (j := 2) c (by decide) (T_spX_lenX_11 T ⟨rfl, rfl, rfl, rfl, rfl⟩ (by decide))) (by rfl) T.z_len (by decide +kernel) (l_cons (v_var (i := 0) rfl (by leaf_len) (by decide) (by decide)) l_nil rfl) rfl (by decide) (by decide)) (l_cons (v_callTy (c_boolL (j := 2) c (by decide) (T_lenb_11 T ⟨rfl, rfl, rfl, rfl, rfl⟩ (by decide))) (by rfl) T.z_bool (by decide +kernel) (l_cons (v_var (i := 0) rfl (by leaf_len) (by decide) (by decide)) l_nil rfl) rfl (by decide) (by decide)) l_nil rfl) rfl) (by decide)) l_nil rfl) rfl (by decide) (by decide)) (v_callB (c_repr c.cK c.rm) (by rfl) T.z_repr (by decide +kernel) (l_cons (v_lst (l_cons (v_callB (c_len c.cK) (by rfl) T.z_len (by decide +kernel) (l_cons (v_var (i := 3) rfl (by leaf_len) (by decide) (by decide)) l_nil rfl) rfl (by decide) (by decide)) (l_cons (v_cmp (o_ne c.cK c.rm) (v_var (i := 3) rfl (by leaf_len) (by decide) (by decide)) (v_lst l_nil (by decide)) rfl) l_nil rfl) rfl) (by decide)) l_nil rfl) rfl (by decide) (by decide)) rfl) (ss_cons (s_ret v_bool) ss_nil) (ss_nil)) (ss_cons (s_ret (v_callB (c_all c.calm) (by rfl) T.z_all (by decide +kernel) (l_cons (v_lc c (own := [("_law_word", 4)]) (i_seq c (v_var (i := 3) rfl (by leaf_len) (by decide) (by decide))) (blkOk_by (N := ["_law_desk", "_law_kept", "_law_many", "_law_words", "_law_word"]) (sc := defScope st__law_state_right) (by decide +kernel)) (fun s H C cl fp => blkP c fun c => (p_name (i := 4) c.nd rfl (by mem_news) (.inr rfl))) (fun s H C cl fp => blkT c fun c => t_nil) (fun s H C cl fp => blkV c fun c => (v_and (v_cmp (o_ownIn c (T_spX_containsX_11 T ⟨rfl, rfl, rfl, rfl, rfl⟩ (by decide))) (v_var (i := 4) rfl (by leaf_len) (by decide) (by decide)) (v_var (i := 0) rfl (by leaf_len) (by decide) (by decide)) rfl) (v_one (v_cmp (o_eq c.cK c.rm) (v_callB (c_repr c.cK c.rm) (by rfl) T.z_repr (by decide +kernel) (l_cons (v_attr c (T_attr_pieces_1 T ⟨rfl, rfl, rfl, rfl, rfl⟩ (by decide)) (v_getX c (T_get_11 T ⟨rfl, rfl, rfl, rfl, rfl⟩ (by decide)) (v_var (i := 0) rfl (by leaf_len) (by decide) (by decide)) (v_var (i := 4) rfl (by leaf_len) (by decide) (by decide)) rfl) rfl) l_nil rfl) rfl (by decide) (by decide)) (v_callB (c_repr c.cK c.rm) (by rfl) T.z_repr (by decide +kernel) (l_cons (v_ixDct c.rm (v_var (i := 1) rfl (by leaf_len) (by decide) (by decide)) (v_var (i := 4) rfl (by leaf_len) (by decide) (by decide)) rfl) l_nil rfl) rfl (by decide) (by decide)) rfl)))) rfl (by decide)) l_nil rfl) rfl (by decide) (by decide))) ss_nil)))⟩
def sem__law_state_right : List D → M D := runFn 3 5 pk__law_state_right.1
theorem ok__law_state_right (T : Facts P w K mg base ad) : FnA P w K mg base (GG true K ad) 8 (ad 12) sem__law_state_right := by
  obtain ⟨fd, F⟩ := T.f__law_state_right
  exact fna_rule F sc__law_state_right (F.binds fun _ _ _ _ _ _ us hl => match us, hl with | [_, _, _], _ => rfl) rfl (pk__law_state_right.2 P w K mg base ad T) rfl rfl (by decide)
def pk_integer_in : Σ' ms : MS, ∀ (P : Program) (w : World) (K : PySem.W.Frag) (mg : Str → Option Value) (base : Heap) (ad : Nat → Addr) (b : Bool), Facts P w K mg base ad → Body P w K mg base (GG b K ad) 0 (ad 13) ["word", "digit"] "integer_in" st_integer_in ms :=
  ⟨_, fun P w K mg base ad b T cdv A fr s H E c => ss_cons (s_if (b_of (w_or (b_not (b_chain (o_le) (o_le) v_int (v_callB (c_len c.cK) (by rfl) T.z_len (by decide +kernel) (l_cons (v_var (i := 0) rfl (by leaf_len) (by decide) (by decide)) l_nil rfl) rfl (by decide) (by decide)) (v_glob (by rfl) (T.c_MOST_DIGITS _) (by decide)) rfl)) (w_or1 (b_val (v_callB (c_any c.calm) (by rfl) T.z_any (by decide +kernel) (l_cons (v_lc c (own := [("digit", 1)]) (i_str (v_var (i := 0) rfl (by leaf_len) (by decide) (by decide))) (blkOk_by (N := ["word", "digit"]) (sc := defScope st_integer_in) (by decide +kernel)) (fun s H C cl fp => blkP c fun c => (p_name (i := 1) c.nd rfl (by mem_news) (.inr rfl))) (fun s H C cl fp => blkT c fun c => t_nil) (fun s H C cl fp => blkV c fun c => (v_cmp (o_notin c.cK c.rm) (v_var (i := 1) rfl (by leaf_len) (by decide) (by decide)) (v_glob (by rfl) (T.c_DIGITS _) (by decide)) rfl)) rfl (by decide)) l_nil rfl) rfl (by decide) (by decide)) (fun _ => rfl))))) (ss_cons (s_ret v_none) ss_nil) (ss_nil)) (ss_cons (s_ret (v_ite (b_of (w_and (b_cmp (o_eq c.cK c.rm) (v_ix c.cK (v_var (i := 0) rfl (by leaf_len) (by decide) (by decide)) v_int rfl) v_str rfl) (w_and1 (b_cmp (o_ne c.cK c.rm) (v_var (i := 0) rfl (by leaf_len) (by decide) (by decide)) v_str rfl)))) v_none (v_callTy (c_int) (by rfl) T.z_int (by decide +kernel) (l_cons (v_var (i := 0) rfl (by leaf_len) (by decide) (by decide)) l_nil rfl) rfl (by decide) (by decide)))) ss_nil)⟩
def sem_integer_in : List D → M D := runFn 1 2 pk_integer_in.1
theorem ok_integer_in (T : Facts P w K mg base ad) : FnA P w K mg base (GG b K ad) 2 (ad 13) sem_integer_in := by
  obtain ⟨fd, F⟩ := T.f_integer_in
  exact fna_rule F sc_integer_in (F.binds fun _ _ _ _ _ _ us hl => match us, hl with | [_], _ => rfl) rfl (pk_integer_in.2 P w K mg base ad b T) rfl rfl (by decide)
def pk_is_integer : Σ' ms : MS, ∀ (P : Program) (w : World) (K : PySem.W.Frag) (mg : Str → Option Value) (base : Heap) (ad : Nat → Addr) (b : Bool), Facts P w K mg base ad → Body P w K mg base (GG b K ad) 0 (ad 14) ["value"] "is_integer" st_is_integer ms :=
  ⟨_, fun P w K mg base ad b T cdv A fr s H E c => ss_cons (s_ret (v_and (v_callB (c_isa c.cK (T.isa _ _ rfl)) (by rfl) T.z_isinstance (by decide +kernel) (l_cons (v_var (i := 0) rfl (by leaf_len) (by decide) (by decide)) (l_cons (v_ty (t := .int) (by rfl) T.z_int (by decide +kernel) (by decide) (by decide)) l_nil rfl) rfl) rfl (by decide) (by decide)) (v_one (v_not (v_callB (c_isa c.cK (T.isa _ _ rfl)) (by rfl) T.z_isinstance (by decide +kernel) (l_cons (v_var (i := 0) rfl (by leaf_len) (by decide) (by decide)) (l_cons (v_ty (t := .bool) (by rfl) T.z_bool (by decide +kernel) (by decide) (by decide)) l_nil rfl) rfl) rfl (by decide) (by decide)))))) ss_nil⟩
def sem_is_integer : List D → M D := runFn 1 1 pk_is_integer.1
theorem ok_is_integer (T : Facts P w K mg base ad) : FnA P w K mg base (GG b K ad) 2 (ad 14) sem_is_integer := by
  obtain ⟨fd, F⟩ := T.f_is_integer
  exact fna_rule F sc_is_integer (F.binds fun _ _ _ _ _ _ us hl => match us, hl with | [_], _ => rfl) rfl (pk_is_integer.2 P w K mg base ad b T) rfl rfl (by decide)
def pk_is_between : Σ' ms : MS, ∀ (P : Program) (w : World) (K : PySem.W.Frag) (mg : Str → Option Value) (base : Heap) (ad : Nat → Addr) (b : Bool), Facts P w K mg base ad → Body P w K mg base (GG b K ad) 2 (ad 15) ["value", "low", "high"] "is_between" st_is_between ms :=
  ⟨_, fun P w K mg base ad b T cdv A fr s H E c => ss_cons (s_ret (v_and (v_calls (FnA.call c ((ok_is_integer T).mono (by decide))) (by rfl) T.g_is_integer (l_cons (v_var (i := 0) rfl (by leaf_len) (by decide) (by decide)) l_nil rfl) rfl (by decide)) (v_one (v_chain' (o_le) (o_le) (v_var (i := 1) rfl (by leaf_len) (by decide) (by decide)) (v_var (i := 0) rfl (by leaf_len) (by decide) (by decide)) (v_var (i := 2) rfl (by leaf_len) (by decide) (by decide)) rfl)))) ss_nil⟩
def sem_is_between : List D → M D := runFn 3 3 pk_is_between.1
theorem ok_is_between (T : Facts P w K mg base ad) : FnA P w K mg base (GG b K ad) 4 (ad 15) sem_is_between := by
  obtain ⟨fd, F⟩ := T.f_is_between
  exact fna_rule F sc_is_between (F.binds fun _ _ _ _ _ _ us hl => match us, hl with | [_, _, _], _ => rfl) rfl (pk_is_between.2 P w K mg base ad b T) rfl rfl (by decide)
def pk_piece_in : Σ' ms : MS, ∀ (P : Program) (w : World) (K : PySem.W.Frag) (mg : Str → Option Value) (base : Heap) (ad : Nat → Addr) (b : Bool), Facts P w K mg base ad → Body P w K mg base (GG b K ad) 4 (ad 16) ["text", "words", "ohms"] "piece_in" st_piece_in ms :=
  ⟨_, fun P w K mg base ad b T cdv A fr s H E c => ss_cons (s_set (i := 1) c rfl (by mem_news) (v_split (v_var (i := 0) rfl (by leaf_len) (by decide) (by decide)) v_str rfl rfl rfl) rfl (.inl rfl)) (ss_cons (s_if (b_of (w_or (b_cmp (o_ne c.cK c.rm) (v_callB (c_len c.cK) (by rfl) T.z_len (by decide +kernel) (l_cons (v_var (i := 1) rfl (by leaf_len) (by decide) (by decide)) l_nil rfl) rfl (by decide) (by decide)) v_int rfl) (w_or1 (b_cmp (o_notin c.cK c.rm) (v_ix c.cK (v_var (i := 1) rfl (by leaf_len) (by decide) (by decide)) v_int rfl) (v_glob (by rfl) (T.c_WORDS _) (by decide)) rfl)))) (ss_cons (s_ret v_none) ss_nil) (ss_nil)) (ss_cons (s_set (i := 2) c rfl (by mem_news) (v_calls (FnA.call c ((ok_integer_in T).mono (by decide))) (by rfl) T.g_integer_in (l_cons (v_ix c.cK (v_var (i := 1) rfl (by leaf_len) (by decide) (by decide)) v_int rfl) l_nil rfl) rfl (by decide)) rfl (.inl rfl)) (ss_cons (s_ret (v_ite (b_val (v_calls (FnA.call c ((ok_is_between T).mono (by decide))) (by rfl) T.g_is_between (l_cons (v_var (i := 2) rfl (by leaf_len) (by decide) (by decide)) (l_cons v_int (l_cons (v_glob (by rfl) (T.c_MOST_OHMS _) (by decide)) l_nil rfl) rfl) rfl) rfl (by decide)) (fun _ => rfl)) (v_tup (l_cons (v_ix c.cK (v_var (i := 1) rfl (by leaf_len) (by decide) (by decide)) v_int rfl) (l_cons (v_var (i := 2) rfl (by leaf_len) (by decide) (by decide)) l_nil rfl) rfl) (by decide)) v_none)) ss_nil)))⟩
def sem_piece_in : List D → M D := runFn 1 3 pk_piece_in.1
theorem ok_piece_in (T : Facts P w K mg base ad) : FnA P w K mg base (GG b K ad) 6 (ad 16) sem_piece_in := by
  obtain ⟨fd, F⟩ := T.f_piece_in
  exact fna_rule F sc_piece_in (F.binds fun _ _ _ _ _ _ us hl => match us, hl with | [_], _ => rfl) rfl (pk_piece_in.2 P w K mg base ad b T) rfl rfl (by decide)
def pk_is_piece : Σ' ms : MS, ∀ (P : Program) (w : World) (K : PySem.W.Frag) (mg : Str → Option Value) (base : Heap) (ad : Nat → Addr) (b : Bool), Facts P w K mg base ad → Body P w K mg base (GG b K ad) 4 (ad 17) ["value"] "is_piece" st_is_piece ms :=
  ⟨_, fun P w K mg base ad b T cdv A fr s H E c => ss_cons (s_if (b_of (w_or (b_not (b_val (v_callB (c_isa c.cK (T.isa _ _ rfl)) (by rfl) T.z_isinstance (by decide +kernel) (l_cons (v_var (i := 0) rfl (by leaf_len) (by decide) (by decide)) (l_cons (v_ty (t := .tuple) (by rfl) T.z_tuple (by decide +kernel) (by decide) (by decide)) l_nil rfl) rfl) rfl (by decide) (by decide)) (fun _ => rfl))) (w_or (b_cmp (o_ne c.cK c.rm) (v_callB (c_len c.cK) (by rfl) T.z_len (by decide +kernel) (l_cons (v_var (i := 0) rfl (by leaf_len) (by decide) (by decide)) l_nil rfl) rfl (by decide) (by decide)) v_int rfl) (w_or1 (b_not (b_val (v_callB (c_isa c.cK (T.isa _ _ rfl)) (by rfl) T.z_isinstance (by decide +kernel) (l_cons (v_ix c.cK (v_var (i := 0) rfl (by leaf_len) (by decide) (by decide)) v_int rfl) (l_cons (v_ty (t := .str) (by rfl) T.z_str (by decide +kernel) (by decide) (by decide)) l_nil rfl) rfl) rfl (by decide) (by decide)) (fun _ => rfl))))))) (ss_cons (s_ret v_bool) ss_nil) (ss_nil)) (ss_cons (s_ret (v_and (v_cmp (o_in c.cK c.rm) (v_ix c.cK (v_var (i := 0) rfl (by leaf_len) (by decide) (by decide)) v_int rfl) (v_glob (by rfl) (T.c_WORDS _) (by decide)) rfl) (v_one (v_calls (FnA.call c ((ok_is_between T).mono (by decide))) (by rfl) T.g_is_between (l_cons (v_ix c.cK (v_var (i := 0) rfl (by leaf_len) (by decide) (by decide)) v_int rfl) (l_cons v_int (l_cons (v_glob (by rfl) (T.c_MOST_OHMS _) (by decide)) l_nil rfl) rfl) rfl) rfl (by decide))))) ss_nil)⟩
def sem_is_piece : List D → M D := runFn 1 1 pk_is_piece.1
theorem ok_is_piece (T : Facts P w K mg base ad) : FnA P w K mg base (GG b K ad) 6 (ad 17) sem_is_piece := by
  obtain ⟨fd, F⟩ := T.f_is_piece
  exact fna_rule F sc_is_piece (F.binds fun _ _ _ _ _ _ us hl => match us, hl with | [_], _ => rfl) rfl (pk_is_piece.2 P w K mg base ad b T) rfl rfl (by decide)
def pk_check_pieces : Σ' ms : MS, ∀ (P : Program) (w : World) (K : PySem.W.Frag) (mg : Str → Option Value) (base : Heap) (ad : Nat → Addr) (b : Bool), Facts P w K mg base ad → Body P w K mg base (GG b K ad) 6 (ad 18) ["pieces", "index", "piece"] "check_pieces" st_check_pieces ms :=
  ⟨_, fun P w K mg base ad b T cdv A fr s H E c => ss_cons (s_if (b_of (w_or (b_cmp (o_eq c.cK c.rm) (v_callB (c_len c.cK) (by rfl) T.z_len (by decide +kernel) (l_cons (v_var (i := 0) rfl (by leaf_len) (by decide) (by decide)) l_nil rfl) rfl (by decide) (by decide)) v_int rfl) (w_or1 (b_cmp (o_gt) (v_callB (c_len c.cK) (by rfl) T.z_len (by decide +kernel) (l_cons (v_var (i := 0) rfl (by leaf_len) (by decide) (by decide)) l_nil rfl) rfl (by decide) (by decide)) (v_glob (by rfl) (T.c_MOST_PIECES _) (by decide)) rfl)))) (ss_cons (s_raise (cx := 9) c (by decide) (L2N.takes_of rfl rfl rfl rfl) (T.er_InvalidPieces _) (by rfl) (by decide) v_none rfl) ss_never) (ss_nil)) (ss_cons (s_for c (i_enum c (by rfl) T.z_enumerate (v_var (i := 0) rfl (by leaf_len) (by decide) (by decide)) rfl) (g_tup c.cK c.calm (gs_cons (g_name (i := 1) c.nd rfl (by mem_news) (.inl rfl)) (gs_cons (g_name (i := 2) c.nd rfl (by mem_news) (.inl rfl)) gs_nil rfl) rfl) rfl rfl) (ss_cons (s_if (b_not (b_val (v_calls (FnA.call c ((ok_is_piece T).mono (by decide))) (by rfl) T.g_is_piece (l_cons (v_var (i := 2) rfl (by leaf_len) (by decide) (by decide)) l_nil rfl) rfl (by decide)) (fun _ => rfl))) (ss_cons (s_raise (cx := 9) c (by decide) (L2N.takes_of rfl rfl rfl rfl) (T.er_InvalidPieces _) (by rfl) (by decide) (v_var (i := 1) rfl (by leaf_len) (by decide) (by decide)) rfl) ss_never) (ss_nil)) (ss_nil)) rfl) (ss_nil))⟩
def sem_check_pieces : List D → M D := runFn 1 3 pk_check_pieces.1
theorem ok_check_pieces (T : Facts P w K mg base ad) : FnA P w K mg base (GG b K ad) 8 (ad 18) sem_check_pieces := by
  obtain ⟨fd, F⟩ := T.f_check_pieces
  exact fna_rule F sc_check_pieces (F.binds fun _ _ _ _ _ _ us hl => match us, hl with | [_], _ => rfl) rfl (pk_check_pieces.2 P w K mg base ad b T) rfl rfl (by decide)
def pk_joined : Σ' ms : MS, ∀ (P : Program) (w : World) (K : PySem.W.Frag) (mg : Str → Option Value) (base : Heap) (ad : Nat → Addr) (b : Bool), Facts P w K mg base ad → Body P w K mg base (GG b K ad) 0 (ad 19) ["front", "back", "a", "b", "c", "d", "e", "f", "g", "h"] "joined" st_joined ms :=
  ⟨_, fun P w K mg base ad b T cdv A fr s H E c => ss_cons (s_asg (v_var (i := 0) rfl (by leaf_len) (by decide) (by decide)) (g_tup c.cK c.calm (gs_cons (g_name (i := 2) c.nd rfl (by mem_news) (.inl rfl)) (gs_cons (g_name (i := 3) c.nd rfl (by mem_news) (.inl rfl)) (gs_cons (g_name (i := 4) c.nd rfl (by mem_news) (.inl rfl)) (gs_cons (g_name (i := 5) c.nd rfl (by mem_news) (.inl rfl)) gs_nil rfl) rfl) rfl) rfl) rfl rfl) rfl rfl rfl) (ss_cons (s_asg (v_var (i := 1) rfl (by leaf_len) (by decide) (by decide)) (g_tup c.cK c.calm (gs_cons (g_name (i := 6) c.nd rfl (by mem_news) (.inl rfl)) (gs_cons (g_name (i := 7) c.nd rfl (by mem_news) (.inl rfl)) (gs_cons (g_name (i := 8) c.nd rfl (by mem_news) (.inl rfl)) (gs_cons (g_name (i := 9) c.nd rfl (by mem_news) (.inl rfl)) gs_nil rfl) rfl) rfl) rfl) rfl rfl) rfl rfl rfl) (ss_cons (s_ret (v_tup (l_cons (v_bin (o_add c.cK) (v_bin (o_mul c.cK) (v_var (i := 2) rfl (by leaf_len) (by decide) (by decide)) (v_var (i := 6) rfl (by leaf_len) (by decide) (by decide))) (v_bin (o_mul c.cK) (v_var (i := 3) rfl (by leaf_len) (by decide) (by decide)) (v_var (i := 8) rfl (by leaf_len) (by decide) (by decide)))) (l_cons (v_bin (o_add c.cK) (v_bin (o_mul c.cK) (v_var (i := 2) rfl (by leaf_len) (by decide) (by decide)) (v_var (i := 7) rfl (by leaf_len) (by decide) (by decide))) (v_bin (o_mul c.cK) (v_var (i := 3) rfl (by leaf_len) (by decide) (by decide)) (v_var (i := 9) rfl (by leaf_len) (by decide) (by decide)))) (l_cons (v_bin (o_add c.cK) (v_bin (o_mul c.cK) (v_var (i := 4) rfl (by leaf_len) (by decide) (by decide)) (v_var (i := 6) rfl (by leaf_len) (by decide) (by decide))) (v_bin (o_mul c.cK) (v_var (i := 5) rfl (by leaf_len) (by decide) (by decide)) (v_var (i := 8) rfl (by leaf_len) (by decide) (by decide)))) (l_cons (v_bin (o_add c.cK) (v_bin (o_mul c.cK) (v_var (i := 4) rfl (by leaf_len) (by decide) (by decide)) (v_var (i := 7) rfl (by leaf_len) (by decide) (by decide))) (v_bin (o_mul c.cK) (v_var (i := 5) rfl (by leaf_len) (by decide) (by decide)) (v_var (i := 9) rfl (by leaf_len) (by decide) (by decide)))) l_nil rfl) rfl) rfl) rfl) (by decide))) ss_nil))⟩
def sem_joined : List D → M D := runFn 2 10 pk_joined.1
theorem ok_joined (T : Facts P w K mg base ad) : FnA P w K mg base (GG b K ad) 2 (ad 19) sem_joined := by
  obtain ⟨fd, F⟩ := T.f_joined
  exact fna_rule F sc_joined (F.binds fun _ _ _ _ _ _ us hl => match us, hl with | [_, _], _ => rfl) rfl (pk_joined.2 P w K mg base ad b T) rfl rfl (by decide)
def pk_chain_of : Σ' ms : MS, ∀ (P : Program) (w : World) (K : PySem.W.Frag) (mg : Str → Option Value) (base : Heap) (ad : Nat → Addr) (b : Bool), Facts P w K mg base ad → Body P w K mg base (GG b K ad) 2 (ad 20) ["pieces", "found", "times", "word", "ohms"] "chain_of" st_chain_of ms :=
  ⟨_, fun P w K mg base ad b T cdv A fr s H E c => ss_cons (s_par (i := 1) (j := 2) c rfl rfl (by decide) rfl rfl (l_cons (v_glob (by rfl) (T.c_NOTHING _) (by decide)) (l_cons v_int l_nil rfl) rfl) rfl) (ss_cons (s_for c (i_seq c (v_var (i := 0) rfl (by leaf_len) (by decide) (by decide))) (g_tup c.cK c.calm (gs_cons (g_name (i := 3) c.nd rfl (by mem_news) (.inl rfl)) (gs_cons (g_name (i := 4) c.nd rfl (by mem_news) (.inl rfl)) gs_nil rfl) rfl) rfl rfl) (ss_cons (s_if (b_cmp (o_eq c.cK c.rm) (v_var (i := 3) rfl (by leaf_len) (by decide) (by decide)) v_str rfl) (ss_cons (s_set (i := 1) c rfl (by mem_news) (v_calls (FnA.call c ((ok_joined T).mono (by decide))) (by rfl) T.g_joined (l_cons (v_var (i := 1) rfl (by leaf_len) (by decide) (by decide)) (l_cons (v_tup (l_cons v_int (l_cons (v_var (i := 4) rfl (by leaf_len) (by decide) (by decide)) (l_cons v_int (l_cons v_int l_nil rfl) rfl) rfl) rfl) (by decide)) l_nil rfl) rfl) rfl (by decide)) rfl (.inl rfl)) (ss_nil)) (ss_cons (s_par (i := 1) (j := 2) c rfl rfl (by decide) rfl rfl (l_cons (v_calls (FnA.call c ((ok_joined T).mono (by decide))) (by rfl) T.g_joined (l_cons (v_var (i := 1) rfl (by leaf_len) (by decide) (by decide)) (l_cons (v_tup (l_cons (v_var (i := 4) rfl (by leaf_len) (by decide) (by decide)) (l_cons v_int (l_cons v_int (l_cons (v_var (i := 4) rfl (by leaf_len) (by decide) (by decide)) l_nil rfl) rfl) rfl) rfl) (by decide)) l_nil rfl) rfl) rfl (by decide)) (l_cons (v_bin (o_mul c.cK) (v_var (i := 2) rfl (by leaf_len) (by decide) (by decide)) (v_var (i := 4) rfl (by leaf_len) (by decide) (by decide))) l_nil rfl) rfl) rfl) (ss_nil))) (ss_nil)) rfl) (ss_cons (s_ret (v_tup (l_cons (v_var (i := 1) rfl (by leaf_len) (by decide) (by decide)) (l_cons (v_var (i := 2) rfl (by leaf_len) (by decide) (by decide)) l_nil rfl) rfl) (by decide))) ss_nil))⟩
def sem_chain_of : List D → M D := runFn 1 5 pk_chain_of.1
theorem ok_chain_of (T : Facts P w K mg base ad) : FnA P w K mg base (GG b K ad) 4 (ad 20) sem_chain_of := by
  obtain ⟨fd, F⟩ := T.f_chain_of
  exact fna_rule F sc_chain_of (F.binds fun _ _ _ _ _ _ us hl => match us, hl with | [_], _ => rfl) rfl (pk_chain_of.2 P w K mg base ad b T) rfl rfl (by decide)
def pk_PatternX_initX : Σ' ms : MS, ∀ (P : Program) (w : World) (K : PySem.W.Frag) (mg : Str → Option Value) (base : Heap) (ad : Nat → Addr) (b : Bool), Facts P w K mg base ad → Body P w K mg base (GG b K ad) 8 (ad 21) ["self", "pieces"] "Pattern.__init__" st_PatternX_initX ms :=
  ⟨_, fun P w K mg base ad b T cdv A fr s H E c => ss_cons (s_if (b_of (w_and (b_cmp (o_eq c.cK c.rm) (v_callB (c_len c.cK) (by rfl) T.z_len (by decide +kernel) (l_cons (v_var (i := 1) rfl (by leaf_len) (by decide) (by decide)) l_nil rfl) rfl (by decide) (by decide)) v_int rfl) (w_and1 (b_val (v_callB (c_isa c.cK (T.isa _ _ rfl)) (by rfl) T.z_isinstance (by decide +kernel) (l_cons (v_ix c.cK (v_var (i := 1) rfl (by leaf_len) (by decide) (by decide)) v_int rfl) (l_cons (v_glob (by rfl) (glob_cls (c := 0) T.k_Row) (by decide)) l_nil rfl) rfl) rfl (by decide) (by decide)) (fun _ => rfl))))) (ss_cons (s_setF (i := 0) (T_fld_row T ⟨rfl, rfl, rfl, rfl, rfl⟩) rfl (by leaf_len) (by decide) (by decide) (v_attr c (T_attr_told_0 T ⟨rfl, rfl, rfl, rfl, rfl⟩ (by decide)) (v_ix c.cK (v_var (i := 1) rfl (by leaf_len) (by decide) (by decide)) v_int rfl) rfl) rfl) (ss_nil)) (ss_cons (s_expr (v_calls (FnA.call c ((ok_check_pieces T).mono (by decide))) (by rfl) T.g_check_pieces (l_cons (v_var (i := 1) rfl (by leaf_len) (by decide) (by decide)) l_nil rfl) rfl (by decide)) rfl) (ss_cons (s_setF (i := 0) (T_fld_row T ⟨rfl, rfl, rfl, rfl, rfl⟩) rfl (by leaf_len) (by decide) (by decide) (v_callTy (c_tuple c.cK) (by rfl) T.z_tuple (by decide +kernel) (l_cons (v_var (i := 1) rfl (by leaf_len) (by decide) (by decide)) l_nil rfl) rfl (by decide) (by decide)) rfl) (ss_nil)))) (ss_cons (s_asg (v_calls (FnA.call c ((ok_chain_of T).mono (by decide))) (by rfl) T.g_chain_of (l_cons (v_ownF (i := 0) (T_fld_row T ⟨rfl, rfl, rfl, rfl, rfl⟩) rfl (by leaf_len) (by decide) (by decide)) l_nil rfl) rfl (by decide)) (g_tup c.cK c.calm (gs_cons (g_fld (i := 0) (T_fld_chain T ⟨rfl, rfl, rfl, rfl, rfl⟩) rfl (by leaf_len) (by decide) (by decide)) (gs_cons (g_fld (i := 0) (T_fld_scale T ⟨rfl, rfl, rfl, rfl, rfl⟩) rfl (by leaf_len) (by decide) (by decide)) gs_nil rfl) rfl) rfl rfl) rfl rfl rfl) (ss_nil))⟩
def sem_PatternX_initX : List D → M D := mkStar 1 1 2 pk_PatternX_initX.1
theorem mk_Pattern (T : Facts P w K mg base ad) : ClA P w K mg base (GG b K ad) 10 1 sem_PatternX_initX := by
  obtain ⟨fd, F⟩ := T.f_PatternX_initX
  exact cla_star (ps := ["self"]) (pv := "pieces") F sc_PatternX_initX rfl (pk_PatternX_initX.2 P w K mg base ad b T) (fun _ _ _ _ _ _ => StX.bind_star1 (B := fun l => bindArgs _ ⟨l, []⟩) (fun _ => rfl) (fun _ _ _ => rfl)) T.m_Pattern rfl rfl (by decide) (by decide)
def pk_RowX_initX : Σ' ms : MS, ∀ (P : Program) (w : World) (K : PySem.W.Frag) (mg : Str → Option Value) (base : Heap) (ad : Nat → Addr) (b : Bool), Facts P w K mg base ad → Body P w K mg base (GG b K ad) 0 (ad 22) ["self", "told"] "Row.__init__" st_RowX_initX ms :=
  ⟨_, fun P w K mg base ad b T cdv A fr s H E c => ss_cons (s_setF (i := 0) (T_fld_told T ⟨rfl, rfl, rfl, rfl, rfl⟩) rfl (by leaf_len) (by decide) (by decide) (v_var (i := 1) rfl (by leaf_len) (by decide) (by decide)) rfl) (ss_nil)⟩
def sem_RowX_initX : List D → M D := mkFn 0 2 2 pk_RowX_initX.1
theorem mk_Row (T : Facts P w K mg base ad) : ClA P w K mg base (GG b K ad) 2 0 sem_RowX_initX := by
  obtain ⟨fd, F⟩ := T.f_RowX_initX
  exact cla_rule F sc_RowX_initX (F.binds fun _ _ _ _ _ _ us hl => match us, hl with | [_, _], _ => rfl) rfl (pk_RowX_initX.2 P w K mg base ad b T) T.m_Row rfl rfl (by decide)
def pk_pattern_in : Σ' ms : MS, ∀ (P : Program) (w : World) (K : PySem.W.Frag) (mg : Str → Option Value) (base : Heap) (ad : Nat → Addr) (b : Bool), Facts P w K mg base ad → Body P w K mg base (GG b K ad) 10 (ad 23) ["text", "pieces", "part"] "pattern_in" st_pattern_in ms :=
  ⟨_, fun P w K mg base ad b T cdv A fr s H E c => ss_cons (s_lc (i := 1) c rfl rfl rfl (own := [("part", 2)]) (i_seq c (v_split (v_var (i := 0) rfl (by leaf_len) (by decide) (by decide)) v_str rfl rfl rfl)) (blkOk_by (N := ["text", "pieces", "part"]) (sc := defScope st_pattern_in) (by decide +kernel)) (fun s H C cl fp => blkP c fun c => (p_name (i := 2) c.nd rfl (by mem_news) (.inr rfl))) (fun s H C cl fp => blkT c fun c => t_nil) (fun s H C cl fp => blkV c fun c => (v_calls (FnA.call c ((ok_piece_in T).mono (by decide))) (by rfl) T.g_piece_in (l_cons (v_var (i := 2) rfl (by leaf_len) (by decide) (by decide)) l_nil rfl) rfl (by decide))) rfl (by decide)) (ss_cons (s_if (b_of (w_or (b_cmp (o_in c.cK c.rm) v_none (v_var (i := 1) rfl (by leaf_len) (by decide) (by decide)) rfl) (w_or1 (b_cmp (o_gt) (v_callB (c_len c.cK) (by rfl) T.z_len (by decide +kernel) (l_cons (v_var (i := 1) rfl (by leaf_len) (by decide) (by decide)) l_nil rfl) rfl (by decide) (by decide)) (v_glob (by rfl) (T.c_MOST_JOINED _) (by decide)) rfl)))) (ss_cons (s_ret v_none) ss_nil) (ss_nil)) (ss_cons (s_ret (v_calls (ClA.call c ((mk_Pattern T).mono (by decide))) (by rfl) T.k_Pattern (l_cons (v_calls (ClA.call c ((mk_Row T).mono (by decide))) (by rfl) T.k_Row (l_cons (v_callTy (c_tuple c.cK) (by rfl) T.z_tuple (by decide +kernel) (l_cons (v_var (i := 1) rfl (by leaf_len) (by decide) (by decide)) l_nil rfl) rfl (by decide) (by decide)) l_nil rfl) rfl (by decide)) l_nil rfl) rfl (by decide))) ss_nil))⟩
def sem_pattern_in : List D → M D := runFn 1 3 pk_pattern_in.1
theorem ok_pattern_in (T : Facts P w K mg base ad) : FnA P w K mg base (GG b K ad) 12 (ad 23) sem_pattern_in := by
  obtain ⟨fd, F⟩ := T.f_pattern_in
  exact fna_rule F sc_pattern_in (F.binds fun _ _ _ _ _ _ us hl => match us, hl with | [_], _ => rfl) rfl (pk_pattern_in.2 P w K mg base ad b T) rfl rfl (by decide)
def pk_Pattern_read : Σ' ms : MS, ∀ (P : Program) (w : World) (K : PySem.W.Frag) (mg : Str → Option Value) (base : Heap) (ad : Nat → Addr) (b : Bool), Facts P w K mg base ad → Body P w K mg base (GG b K ad) 12 (ad 24) ["text", "found"] "Pattern.read" st_Pattern_read ms :=
  ⟨_, fun P w K mg base ad b T cdv A fr s H E c => ss_cons (s_set (i := 1) c rfl (by mem_news) (v_ite (b_val (v_callB (c_isa c.cK (T.isa _ _ rfl)) (by rfl) T.z_isinstance (by decide +kernel) (l_cons (v_var (i := 0) rfl (by leaf_len) (by decide) (by decide)) (l_cons (v_ty (t := .str) (by rfl) T.z_str (by decide +kernel) (by decide) (by decide)) l_nil rfl) rfl) rfl (by decide) (by decide)) (fun _ => rfl)) (v_calls (FnA.call c ((ok_pattern_in T).mono (by decide))) (by rfl) T.g_pattern_in (l_cons (v_var (i := 0) rfl (by leaf_len) (by decide) (by decide)) l_nil rfl) rfl (by decide)) v_none) rfl (.inl rfl)) (ss_cons (s_if (b_cmp (o_is) (v_var (i := 1) rfl (by leaf_len) (by decide) (by decide)) v_none rfl) (ss_cons (s_raise (cx := 5) c (by decide) (L2N.takes_of rfl rfl rfl rfl) (T.er_InvalidText _) (by rfl) (by decide) (v_var (i := 0) rfl (by leaf_len) (by decide) (by decide)) rfl) ss_never) (ss_nil)) (ss_cons (s_ret (v_var (i := 1) rfl (by leaf_len) (by decide) (by decide))) ss_nil))⟩
def sem_Pattern_read : List D → M D := runFn 1 2 pk_Pattern_read.1
theorem ok_Pattern_read (T : Facts P w K mg base ad) : FnA P w K mg base (GG b K ad) 14 (ad 24) sem_Pattern_read := by
  obtain ⟨fd, F⟩ := T.f_Pattern_read
  exact fna_rule F sc_Pattern_read (F.binds fun _ _ _ _ _ _ us hl => match us, hl with | [_], _ => rfl) rfl (pk_Pattern_read.2 P w K mg base ad b T) rfl rfl (by decide)
def pk__law_text : Σ' ms : MS, ∀ (P : Program) (w : World) (K : PySem.W.Frag) (mg : Str → Option Value) (base : Heap) (ad : Nat → Addr) (b : Bool), Facts P w K mg base ad → Body P w K mg base (GG b K ad) 0 (ad 25) ["_law_row", "_law_word", "_law_size"] "_law_text" st__law_text ms :=
  ⟨_, fun P w K mg base ad b T cdv A fr s H E c => ss_cons (s_ret (v_join c.cK v_str (v_lc c (own := [("_law_word", 1), ("_law_size", 2)]) (i_seq c (v_var (i := 0) rfl (by leaf_len) (by decide) (by decide))) (blkOk_by (N := ["_law_row", "_law_word", "_law_size"]) (sc := defScope st__law_text) (by decide +kernel)) (fun s H C cl fp => blkP c fun c => (p_tup c.cK c.calm (ps_consP (p_name (i := 1) c.nd rfl (by mem_news) (.inr rfl)) (ps_consP (p_name (i := 2) c.nd rfl (by mem_news) (.inr rfl)) ps_nilP rfl) rfl) rfl rfl)) (fun s H C cl fp => blkT c fun c => t_nil) (fun s H C cl fp => blkV c fun c => (v_bin (o_add c.cK) (v_bin (o_add c.cK) (v_var (i := 1) rfl (by leaf_len) (by decide) (by decide)) v_str) (v_callTy (c_str) (by rfl) T.z_str (by decide +kernel) (l_cons (v_var (i := 2) rfl (by leaf_len) (by decide) (by decide)) l_nil rfl) rfl (by decide) (by decide)))) rfl (by decide)) rfl rfl rfl)) ss_nil⟩
def sem__law_text : List D → M D := runFn 1 3 pk__law_text.1
theorem ok__law_text (T : Facts P w K mg base ad) : FnA P w K mg base (GG b K ad) 2 (ad 25) sem__law_text := by
  obtain ⟨fd, F⟩ := T.f__law_text
  exact fna_rule F sc__law_text (F.binds fun _ _ _ _ _ _ us hl => match us, hl with | [_], _ => rfl) rfl (pk__law_text.2 P w K mg base ad b T) rfl rfl (by decide)
def pk__law_pat : Σ' ms : MS, ∀ (P : Program) (w : World) (K : PySem.W.Frag) (mg : Str → Option Value) (base : Heap) (ad : Nat → Addr) (b : Bool), Facts P w K mg base ad → Body P w K mg base (GG b K ad) 14 (ad 26) ["_law_row"] "_law_pat" st__law_pat ms :=
  ⟨_, fun P w K mg base ad b T cdv A fr s H E c => ss_cons (s_ret (v_stat ⟨T.s_Pattern_read⟩ (FnA.call c ((ok_Pattern_read T).mono (by decide))) (by rfl) T.k_Pattern (l_cons (v_calls (FnA.call c ((ok__law_text T).mono (by decide))) (by rfl) T.g__law_text (l_cons (v_var (i := 0) rfl (by leaf_len) (by decide) (by decide)) l_nil rfl) rfl (by decide)) l_nil rfl) rfl (by decide) (by decide) rfl)) ss_nil⟩
def sem__law_pat : List D → M D := runFn 1 1 pk__law_pat.1
theorem ok__law_pat (T : Facts P w K mg base ad) : FnA P w K mg base (GG b K ad) 16 (ad 26) sem__law_pat := by
  obtain ⟨fd, F⟩ := T.f__law_pat
  exact fna_rule F sc__law_pat (F.binds fun _ _ _ _ _ _ us hl => match us, hl with | [_], _ => rfl) rfl (pk__law_pat.2 P w K mg base ad b T) rfl rfl (by decide)
def pk__law_anything : Σ' ms : MS, ∀ (P : Program) (w : World) (K : PySem.W.Frag) (mg : Str → Option Value) (base : Heap) (ad : Nat → Addr) (b : Bool), Facts P w K mg base ad → Body P w K mg base (GG b K ad) 2 (ad 27) ["_law_tape", "_law_odd"] "_law_anything" st__law_anything ms :=
  ⟨_, fun P w K mg base ad b T cdv A fr s H E c => ss_cons (s_set (i := 1) c rfl (by mem_news) (v_lst (l_cons v_none (l_cons v_bool (l_cons v_bool (l_cons v_int (l_cons (v_neg v_int) (l_cons (v_bin (o_pow) v_int v_int) (l_cons v_str (l_cons v_str (l_cons v_str (l_cons v_str (l_cons v_str (l_cons v_str (l_cons v_str (l_cons v_str (l_cons (v_tup (l_cons v_str l_nil rfl) (by decide)) (l_cons (v_lst l_nil (by decide)) l_nil rfl) rfl) rfl) rfl) rfl) rfl) rfl) rfl) rfl) rfl) rfl) rfl) rfl) rfl) rfl) rfl) (by decide)) rfl (.inl rfl)) (ss_cons (s_set (i := 1) c rfl (by mem_news) (v_bin (o_add c.cK) (v_var (i := 1) rfl (by leaf_len) (by decide) (by decide)) (v_lst (l_cons v_dict0 (l_cons (v_lst (l_cons v_str l_nil rfl) (by decide)) (l_cons (v_dct1 v_str v_int) (l_cons (v_tup (l_cons v_str (l_cons (v_lst (l_cons v_str l_nil rfl) (by decide)) l_nil rfl) rfl) (by decide)) (l_cons v_str (l_cons v_str (l_cons v_str (l_cons v_str (l_cons v_str (l_cons v_str l_nil rfl) rfl) rfl) rfl) rfl) rfl) rfl) rfl) rfl) rfl) (by decide))) rfl (.inl rfl)) (ss_cons (s_ret (v_ix c.cK (v_var (i := 1) rfl (by leaf_len) (by decide) (by decide)) (v_calls (FnA.call c ((ok__law_pick T).mono (by decide))) (by rfl) T.g__law_pick (l_cons (v_var (i := 0) rfl (by leaf_len) (by decide) (by decide)) (l_cons v_int l_nil rfl) rfl) rfl (by decide)) rfl)) ss_nil))⟩
def sem__law_anything : List D → M D := runFn 1 2 pk__law_anything.1
theorem ok__law_anything (T : Facts P w K mg base ad) : FnA P w K mg base (GG b K ad) 4 (ad 27) sem__law_anything := by
  obtain ⟨fd, F⟩ := T.f__law_anything
  exact fna_rule F sc__law_anything (F.binds fun _ _ _ _ _ _ us hl => match us, hl with | [_], _ => rfl) rfl (pk__law_anything.2 P w K mg base ad b T) rfl rfl (by decide)
def pk__law_is_name : Σ' ms : MS, ∀ (P : Program) (w : World) (K : PySem.W.Frag) (mg : Str → Option Value) (base : Heap) (ad : Nat → Addr) (b : Bool), Facts P w K mg base ad → Body P w K mg base (GG b K ad) 0 (ad 28) ["_law_thing", "_law_letter"] "_law_is_name" st__law_is_name ms :=
  ⟨_, fun P w K mg base ad b T cdv A fr s H E c => ss_cons (s_if (b_of (w_or (b_not (b_val (v_callB (c_isa c.cK (T.isa _ _ rfl)) (by rfl) T.z_isinstance (by decide +kernel) (l_cons (v_var (i := 0) rfl (by leaf_len) (by decide) (by decide)) (l_cons (v_ty (t := .str) (by rfl) T.z_str (by decide +kernel) (by decide) (by decide)) l_nil rfl) rfl) rfl (by decide) (by decide)) (fun _ => rfl))) (w_or1 (b_not (b_chain (o_le) (o_le) v_int (v_callB (c_len c.cK) (by rfl) T.z_len (by decide +kernel) (l_cons (v_var (i := 0) rfl (by leaf_len) (by decide) (by decide)) l_nil rfl) rfl (by decide) (by decide)) v_int rfl))))) (ss_cons (s_ret v_bool) ss_nil) (ss_nil)) (ss_cons (s_ret (v_callB (c_all c.calm) (by rfl) T.z_all (by decide +kernel) (l_cons (v_lc c (own := [("_law_letter", 1)]) (i_str (v_var (i := 0) rfl (by leaf_len) (by decide) (by decide))) (blkOk_by (N := ["_law_thing", "_law_letter"]) (sc := defScope st__law_is_name) (by decide +kernel)) (fun s H C cl fp => blkP c fun c => (p_name (i := 1) c.nd rfl (by mem_news) (.inr rfl))) (fun s H C cl fp => blkT c fun c => t_nil) (fun s H C cl fp => blkV c fun c => (v_cmp (o_in c.cK c.rm) (v_var (i := 1) rfl (by leaf_len) (by decide) (by decide)) v_str rfl)) rfl (by decide)) l_nil rfl) rfl (by decide) (by decide))) ss_nil)⟩
def sem__law_is_name : List D → M D := runFn 1 2 pk__law_is_name.1
theorem ok__law_is_name (T : Facts P w K mg base ad) : FnA P w K mg base (GG b K ad) 2 (ad 28) sem__law_is_name := by
  obtain ⟨fd, F⟩ := T.f__law_is_name
  exact fna_rule F sc__law_is_name (F.binds fun _ _ _ _ _ _ us hl => match us, hl with | [_], _ => rfl) rfl (pk__law_is_name.2 P w K mg base ad b T) rfl rfl (by decide)
def pk_is_name : Σ' ms : MS, ∀ (P : Program) (w : World) (K : PySem.W.Frag) (mg : Str → Option Value) (base : Heap) (ad : Nat → Addr) (b : Bool), Facts P w K mg base ad → Body P w K mg base (GG b K ad) 0 (ad 29) ["value", "letter"] "is_name" st_is_name ms :=
  ⟨_, fun P w K mg base ad b T cdv A fr s H E c => ss_cons (s_if (b_of (w_or (b_not (b_val (v_callB (c_isa c.cK (T.isa _ _ rfl)) (by rfl) T.z_isinstance (by decide +kernel) (l_cons (v_var (i := 0) rfl (by leaf_len) (by decide) (by decide)) (l_cons (v_ty (t := .str) (by rfl) T.z_str (by decide +kernel) (by decide) (by decide)) l_nil rfl) rfl) rfl (by decide) (by decide)) (fun _ => rfl))) (w_or1 (b_not (b_chain (o_le) (o_le) v_int (v_callB (c_len c.cK) (by rfl) T.z_len (by decide +kernel) (l_cons (v_var (i := 0) rfl (by leaf_len) (by decide) (by decide)) l_nil rfl) rfl (by decide) (by decide)) (v_glob (by rfl) (T.c_MOST_LETTERS _) (by decide)) rfl))))) (ss_cons (s_ret v_bool) ss_nil) (ss_nil)) (ss_cons (s_ret (v_callB (c_all c.calm) (by rfl) T.z_all (by decide +kernel) (l_cons (v_lc c (own := [("letter", 1)]) (i_str (v_var (i := 0) rfl (by leaf_len) (by decide) (by decide))) (blkOk_by (N := ["value", "letter"]) (sc := defScope st_is_name) (by decide +kernel)) (fun s H C cl fp => blkP c fun c => (p_name (i := 1) c.nd rfl (by mem_news) (.inr rfl))) (fun s H C cl fp => blkT c fun c => t_nil) (fun s H C cl fp => blkV c fun c => (v_cmp (o_in c.cK c.rm) (v_var (i := 1) rfl (by leaf_len) (by decide) (by decide)) (v_glob (by rfl) (T.c_LETTERS _) (by decide)) rfl)) rfl (by decide)) l_nil rfl) rfl (by decide) (by decide))) ss_nil)⟩
def sem_is_name : List D → M D := runFn 1 2 pk_is_name.1
theorem ok_is_name (T : Facts P w K mg base ad) : FnA P w K mg base (GG b K ad) 2 (ad 29) sem_is_name := by
  obtain ⟨fd, F⟩ := T.f_is_name
  exact fna_rule F sc_is_name (F.binds fun _ _ _ _ _ _ us hl => match us, hl with | [_], _ => rfl) rfl (pk_is_name.2 P w K mg base ad b T) rfl rfl (by decide)
def pk_check_pattern : Σ' ms : MS, ∀ (P : Program) (w : World) (K : PySem.W.Frag) (mg : Str → Option Value) (base : Heap) (ad : Nat → Addr) (b : Bool), Facts P w K mg base ad → Body P w K mg base (GG b K ad) 1 (ad 30) ["value"] "check_pattern" st_check_pattern ms :=
  ⟨_, fun P w K mg base ad b T cdv A fr s H E c => ss_cons (s_if (b_not (b_val (v_callB (c_isa c.cK (T.isa _ _ rfl)) (by rfl) T.z_isinstance (by decide +kernel) (l_cons (v_var (i := 0) rfl (by leaf_len) (by decide) (by decide)) (l_cons (v_glob (by rfl) (glob_cls (c := 1) T.k_Pattern) (by decide)) l_nil rfl) rfl) rfl (by decide) (by decide)) (fun _ => rfl))) (ss_cons (s_raise (cx := 0) c (by decide) (L2N.takes_of rfl rfl rfl rfl) (T.er_NotAPattern _) (by rfl) (by decide) (v_var (i := 0) rfl (by leaf_len) (by decide) (by decide)) rfl) ss_never) (ss_nil)) (ss_nil)⟩
def sem_check_pattern : List D → M D := runFn 1 1 pk_check_pattern.1
theorem ok_check_pattern (T : Facts P w K mg base ad) : FnA P w K mg base (GG b K ad) 3 (ad 30) sem_check_pattern := by
  obtain ⟨fd, F⟩ := T.f_check_pattern
  exact fna_rule F sc_check_pattern (F.binds fun _ _ _ _ _ _ us hl => match us, hl with | [_], _ => rfl) rfl (pk_check_pattern.2 P w K mg base ad b T) rfl rfl (by decide)
def pk_Bench_become : Σ' ms : MS, ∀ (P : Program) (w : World) (K : PySem.W.Frag) (mg : Str → Option Value) (base : Heap) (ad : Nat → Addr) (b : Bool), Facts P w K mg base ad → Body P w K mg base (GG b K ad) 0 (ad 31) ["self", "patterns", "made"] "Bench.become" st_Bench_become ms :=
  ⟨_, fun P w K mg base ad b T cdv A fr s H E c => ss_cons (s_asg (v_bin (o_add c.cK) (v_attr c (T_attr_past_11 T ⟨rfl, rfl, rfl, rfl, rfl⟩ (by decide)) (v_var (i := 0) rfl (by leaf_len) (by decide) (by decide)) rfl) (v_tup (l_cons (v_tup (l_cons (v_attr c (T_attr_patterns_11 T ⟨rfl, rfl, rfl, rfl, rfl⟩ (by decide)) (v_var (i := 0) rfl (by leaf_len) (by decide) (by decide)) rfl) (l_cons (v_attr c (T_attr_made_11 T ⟨rfl, rfl, rfl, rfl, rfl⟩ (by decide)) (v_var (i := 0) rfl (by leaf_len) (by decide) (by decide)) rfl) l_nil rfl) rfl) (by decide)) l_nil rfl) (by decide))) (g_fldR (W := WF E) (T_fld_past T ⟨rfl, rfl, rfl, rfl, rfl⟩) (v_var (i := 0) rfl (by leaf_len) (by decide) (by decide))) rfl rfl rfl) (ss_cons (s_asg (v_var (i := 1) rfl (by leaf_len) (by decide) (by decide)) (g_fldR (W := WF E) (T_fld_patterns T ⟨rfl, rfl, rfl, rfl, rfl⟩) (v_var (i := 0) rfl (by leaf_len) (by decide) (by decide))) rfl rfl rfl) (ss_cons (s_asg (v_var (i := 2) rfl (by leaf_len) (by decide) (by decide)) (g_fldR (W := WF E) (T_fld_made T ⟨rfl, rfl, rfl, rfl, rfl⟩) (v_var (i := 0) rfl (by leaf_len) (by decide) (by decide))) rfl rfl rfl) (ss_nil)))⟩
def sem_Bench_become : List D → M D := runFn 3 3 pk_Bench_become.1
theorem ok_Bench_become (T : Facts P w K mg base ad) : FnA P w K mg base (GG b K ad) 2 (ad 31) sem_Bench_become := by
  obtain ⟨fd, F⟩ := T.f_Bench_become
  exact fna_rule F sc_Bench_become (F.binds fun _ _ _ _ _ _ us hl => match us, hl with | [_, _, _], _ => rfl) rfl (pk_Bench_become.2 P w K mg base ad b T) rfl rfl (by decide)
theorem T_meth_become_11 (T : Facts P w K mg base ad) {X : Cx} (h : Same X P w K mg base) {k : Nat} (hk : 2 ≤ k) : MethT X (GG b K ad) k "become" (tab [(11, sem_Bench_become)]) := by
  obtain ⟨rfl, rfl, rfl, rfl, rfl⟩ := h
  exact ⟨(tab_cons ⟨_, T.cl_Bench, T.t_Bench_Bench_become, (ok_Bench_become T).mono (Nat.le_trans (by decide) hk), (show ("become" : Str) ∉ flds 11 by decide +kernel)⟩ tab_nil)⟩
def pk_BenchX_setitemX : Σ' ms : MS, ∀ (P : Program) (w : World) (K : PySem.W.Frag) (mg : Str → Option Value) (base : Heap) (ad : Nat → Addr) (b : Bool), Facts P w K mg base ad → Body P w K mg base (GG b K ad) 3 (ad 32) ["self", "name", "pattern", "patterns", "index", "claim"] "Bench.__setitem__" st_BenchX_setitemX ms :=
  ⟨_, fun P w K mg base ad b T cdv A fr s H E c => ss_cons (s_if (b_not (b_val (v_calls (FnA.call c ((ok_is_name T).mono (by decide))) (by rfl) T.g_is_name (l_cons (v_var (i := 1) rfl (by leaf_len) (by decide) (by decide)) l_nil rfl) rfl (by decide)) (fun _ => rfl))) (ss_cons (s_raise (cx := 6) c (by decide) (L2N.takes_of rfl rfl rfl rfl) (T.er_InvalidName _) (by rfl) (by decide) (v_var (i := 1) rfl (by leaf_len) (by decide) (by decide)) rfl) ss_never) (ss_nil)) (ss_cons (s_expr (v_calls (FnA.call c ((ok_check_pattern T).mono (by decide))) (by rfl) T.g_check_pattern (l_cons (v_var (i := 2) rfl (by leaf_len) (by decide) (by decide)) l_nil rfl) rfl (by decide)) rfl) (ss_cons (s_ownD (i := 3) c rfl T.z_dict rfl (by mem_news) (v_attr c (T_attr_patterns_11 T ⟨rfl, rfl, rfl, rfl, rfl⟩ (by decide)) (v_var (i := 0) rfl (by leaf_len) (by decide) (by decide)) rfl) rfl rfl (.inl rfl) (by decide)) (ss_cons (s_setK (i := 3) c rfl (by leaf_len) (by decide) (by decide) (v_var (i := 2) rfl (by leaf_len) (by decide) (by decide)) (v_var (i := 1) rfl (by leaf_len) (by decide) (by decide)) rfl rfl rfl) (ss_cons (s_for c (i_enum c (by rfl) T.z_enumerate (v_attr c (T_attr_made_11 T ⟨rfl, rfl, rfl, rfl, rfl⟩ (by decide)) (v_var (i := 0) rfl (by leaf_len) (by decide) (by decide)) rfl) rfl) (g_tup c.cK c.calm (gs_cons (g_name (i := 4) c.nd rfl (by mem_news) (.inl rfl)) (gs_cons (g_name (i := 5) c.nd rfl (by mem_news) (.inl rfl)) gs_nil rfl) rfl) rfl rfl) (ss_never) rfl) (ss_frzW (i := 3) (ss_cons (s_expr (v_meth c (T_meth_become_11 T ⟨rfl, rfl, rfl, rfl, rfl⟩ (by decide)) (v_var (i := 0) rfl (by leaf_len) (by decide) (by decide)) (l_cons (v_var (i := 3) rfl (by leaf_len) (by decide) (by decide)) (l_cons (v_attr c (T_attr_made_11 T ⟨rfl, rfl, rfl, rfl, rfl⟩ (by decide)) (v_var (i := 0) rfl (by leaf_len) (by decide) (by decide)) rfl) l_nil rfl) rfl) rfl rfl (by decide) rfl) rfl) (ss_nil)))))))⟩
def sem_BenchX_setitemX : List D → M D := runFn 3 6 pk_BenchX_setitemX.1
theorem ok_BenchX_setitemX (T : Facts P w K mg base ad) : FnA P w K mg base (GG b K ad) 5 (ad 32) sem_BenchX_setitemX := by
  obtain ⟨fd, F⟩ := T.f_BenchX_setitemX
  exact fna_rule F sc_BenchX_setitemX (F.binds fun _ _ _ _ _ _ us hl => match us, hl with | [_, _, _], _ => rfl) rfl (pk_BenchX_setitemX.2 P w K mg base ad b T) rfl rfl (by decide)
theorem T_set_11 (T : Facts P w K mg base ad) {X : Cx} (h : Same X P w K mg base) {k : Nat} (hk : 5 ≤ k) : SetT X (GG b K ad) k (tab [(11, sem_BenchX_setitemX)]) := by
  obtain ⟨rfl, rfl, rfl, rfl, rfl⟩ := h
  exact ⟨(tab_cons ⟨_, T.fs_Bench_BenchX_setitemX.1, T.fs_Bench_BenchX_setitemX.2.1, T.fs_Bench_BenchX_setitemX.2.2, (ok_BenchX_setitemX T).mono (Nat.le_trans (by decide) hk)⟩ tab_nil)⟩
def pk__law_put : Σ' ms : MS, ∀ (P : Program) (w : World) (K : PySem.W.Frag) (mg : Str → Option Value) (base : Heap) (ad : Nat → Addr) (b : Bool), Facts P w K mg base ad → Body P w K mg base (GG b K ad) 5 (ad 33) ["_law_desk", "_law_word", "_law_made"] "_law_put" st__law_put ms :=
  ⟨_, fun P w K mg base ad b T cdv A fr s H E c => ss_cons (s_setX c (T_set_11 T ⟨rfl, rfl, rfl, rfl, rfl⟩ (by decide)) (v_var (i := 2) rfl (by leaf_len) (by decide) (by decide)) (v_var (i := 0) rfl (by leaf_len) (by decide) (by decide)) (v_var (i := 1) rfl (by leaf_len) (by decide) (by decide)) rfl rfl rfl) (ss_nil)⟩
def sem__law_put : List D → M D := runFn 3 3 pk__law_put.1
theorem ok__law_put (T : Facts P w K mg base ad) : FnA P w K mg base (GG b K ad) 7 (ad 33) sem__law_put := by
  obtain ⟨fd, F⟩ := T.f__law_put
  exact fna_rule F sc__law_put (F.binds fun _ _ _ _ _ _ us hl => match us, hl with | [_, _, _], _ => rfl) rfl (pk__law_put.2 P w K mg base ad b T) rfl rfl (by decide)
def pk_PatternX_strX : Σ' ms : MS, ∀ (P : Program) (w : World) (K : PySem.W.Frag) (mg : Str → Option Value) (base : Heap) (ad : Nat → Addr) (b : Bool), Facts P w K mg base ad → Body P w K mg base (GG b K ad) 0 (ad 34) ["self", "word", "ohms"] "Pattern.__str__" st_PatternX_strX ms :=
  ⟨_, fun P w K mg base ad b T cdv A fr s H E c => ss_cons (s_ret (v_join c.cK v_str (v_lc c (own := [("word", 1), ("ohms", 2)]) (i_seq c (v_attr c (T_attr_row_1 T ⟨rfl, rfl, rfl, rfl, rfl⟩ (by decide)) (v_var (i := 0) rfl (by leaf_len) (by decide) (by decide)) rfl)) (blkOk_by (N := ["self", "word", "ohms"]) (sc := defScope st_PatternX_strX) (by decide +kernel)) (fun s H C cl fp => blkP c fun c => (p_tup c.cK c.calm (ps_consP (p_name (i := 1) c.nd rfl (by mem_news) (.inr rfl)) (ps_consP (p_name (i := 2) c.nd rfl (by mem_news) (.inr rfl)) ps_nilP rfl) rfl) rfl rfl)) (fun s H C cl fp => blkT c fun c => t_nil) (fun s H C cl fp => blkV c fun c => (v_joined (.cons (v_fmt (v_var (i := 1) rfl (by leaf_len) (by decide) (by decide))) (.cons v_str (.cons (v_fmt (v_var (i := 2) rfl (by leaf_len) (by decide) (by decide))) .nil))))) rfl (by decide)) rfl rfl rfl)) ss_nil⟩
def sem_PatternX_strX : List D → M D := runFn 1 3 pk_PatternX_strX.1
theorem ok_PatternX_strX (T : Facts P w K mg base ad) : FnA P w K mg base (GG b K ad) 2 (ad 34) sem_PatternX_strX := by
  obtain ⟨fd, F⟩ := T.f_PatternX_strX
  exact fna_rule F sc_PatternX_strX (F.binds fun _ _ _ _ _ _ us hl => match us, hl with | [_], _ => rfl) rfl (pk_PatternX_strX.2 P w K mg base ad b T) rfl rfl (by decide)
theorem T_str_1 (T : Facts P w K mg base ad) {X : Cx} (h : Same X P w K mg base) {k : Nat} (hk : 2 ≤ k) : TxT X (GG b K ad) k "__str__" (tab [(1, sem_PatternX_strX)]) := by
  obtain ⟨rfl, rfl, rfl, rfl, rfl⟩ := h
  exact ⟨(tab_cons ⟨_, T.x_Pattern_PatternX_strX.1, T.x_Pattern_PatternX_strX.2.1, T.x_Pattern_PatternX_strX.2.2.1, T.x_Pattern_PatternX_strX.2.2.2, (ok_PatternX_strX T).mono (Nat.le_trans (by decide) hk)⟩ tab_nil)⟩
def pk_PatternX_reprX : Σ' ms : MS, ∀ (P : Program) (w : World) (K : PySem.W.Frag) (mg : Str → Option Value) (base : Heap) (ad : Nat → Addr) (b : Bool), Facts P w K mg base ad → Body P w K mg base (GG b K ad) 2 (ad 35) ["self"] "Pattern.__repr__" st_PatternX_reprX ms :=
  ⟨_, fun P w K mg base ad b T cdv A fr s H E c => ss_cons (s_ret (v_joined (.cons v_str (.cons (v_fmtX c (T_str_1 T ⟨rfl, rfl, rfl, rfl, rfl⟩ (by decide)) (v_var (i := 0) rfl (by leaf_len) (by decide) (by decide))) (.cons v_str .nil))))) ss_nil⟩
def sem_PatternX_reprX : List D → M D := runFn 1 1 pk_PatternX_reprX.1
theorem ok_PatternX_reprX (T : Facts P w K mg base ad) : FnA P w K mg base (GG b K ad) 4 (ad 35) sem_PatternX_reprX := by
  obtain ⟨fd, F⟩ := T.f_PatternX_reprX
  exact fna_rule F sc_PatternX_reprX (F.binds fun _ _ _ _ _ _ us hl => match us, hl with | [_], _ => rfl) rfl (pk_PatternX_reprX.2 P w K mg base ad b T) rfl rfl (by decide)
theorem T_repr_1 (T : Facts P w K mg base ad) {X : Cx} (h : Same X P w K mg base) {k : Nat} (hk : 4 ≤ k) : TxT X (GG b K ad) k "__repr__" (tab [(1, sem_PatternX_reprX)]) := by
  obtain ⟨rfl, rfl, rfl, rfl, rfl⟩ := h
  exact ⟨(tab_cons ⟨_, T.x_Pattern_PatternX_reprX.1, T.x_Pattern_PatternX_reprX.2.1, T.x_Pattern_PatternX_reprX.2.2.1, T.x_Pattern_PatternX_reprX.2.2.2, (ok_PatternX_reprX T).mono (Nat.le_trans (by decide) hk)⟩ tab_nil)⟩
theorem wd_add : dAdd (.str "NotAPattern NotARun InvalidResistance InvalidCount InvalidText InvalidName InvalidClaim InvalidIndex") (.str " InvalidDeeds UnknownName InUse TooMany Broken NoLimit NothingToUndo") = M.pure (.str "NotAPattern NotARun InvalidResistance InvalidCount InvalidText InvalidName InvalidClaim InvalidIndex InvalidDeeds UnknownName InUse TooMany Broken NoLimit NothingToUndo") := by kernel_rfl
theorem wd_spl : dSplit "NotAPattern NotARun InvalidResistance InvalidCount InvalidText InvalidName InvalidClaim InvalidIndex InvalidDeeds UnknownName InUse TooMany Broken NoLimit NothingToUndo" (.str " ") = M.pure (.lst [.str "NotAPattern", .str "NotARun", .str "InvalidResistance", .str "InvalidCount", .str "InvalidText", .str "InvalidName", .str "InvalidClaim", .str "InvalidIndex", .str "InvalidDeeds", .str "UnknownName", .str "InUse", .str "TooMany", .str "Broken", .str "NoLimit", .str "NothingToUndo"]) := by kernel_rfl
def pkh__law_error_UnknownName : Σ' ms : Addr → Addr → MS, ∀ (P : Program) (w : World) (K : PySem.W.Frag) (mg : Str → Option Value) (base : Heap) (ad : Nat → Addr), Facts P w K mg base ad → BodyH P w K mg base (GG true K ad) 0 (ad 42) (ad 1113) ["_law_e", "_law_words", "_law_sorts", "_law_bases", "_law_at"] "_law_error" st__law_error ms :=
  ⟨_, fun P w K mg base ad T cdv A fr s H a dd o c => ss_cons (s_setH (i := 1) c rfl (by mem_news) v_str rfl (.inl rfl)) (ss_cons (s_setH (i := 1) c rfl (by mem_news) (v_split (v_bin (o_add c.cK) (v_var (i := 1) rfl (by leaf_len) (by decide) (by decide)) v_str) v_str rfl rfl rfl) rfl (.inl rfl)) (ss_cons (s_setH (i := 2) c rfl (by mem_news) (v_lst (l_cons (v_callB (c_isaH c (T.xh_UnknownName _)) (by rfl) T.z_isinstance (by decide +kernel) (l_cons (v_var (i := 0) rfl (by leaf_len) (by decide) (by decide)) (l_cons (v_glob (by rfl) (glob_cls (c := 100) T.kx_NotAPattern) (by decide)) l_nil rfl) rfl) rfl (by decide) (by decide)) (l_cons (v_callB (c_isaH c (T.xh_UnknownName _)) (by rfl) T.z_isinstance (by decide +kernel) (l_cons (v_var (i := 0) rfl (by leaf_len) (by decide) (by decide)) (l_cons (v_glob (by rfl) (glob_cls (c := 101) T.kx_NotARun) (by decide)) l_nil rfl) rfl) rfl (by decide) (by decide)) (l_cons (v_callB (c_isaH c (T.xh_UnknownName _)) (by rfl) T.z_isinstance (by decide +kernel) (l_cons (v_var (i := 0) rfl (by leaf_len) (by decide) (by decide)) (l_cons (v_glob (by rfl) (glob_cls (c := 102) T.kx_InvalidResistance) (by decide)) l_nil rfl) rfl) rfl (by decide) (by decide)) l_nil rfl) rfl) rfl) (by decide)) rfl (.inl rfl)) (ss_cons (s_setH (i := 2) c rfl (by mem_news) (v_bin (o_add c.cK) (v_var (i := 2) rfl (by leaf_len) (by decide) (by decide)) (v_lst (l_cons (v_callB (c_isaH c (T.xh_UnknownName _)) (by rfl) T.z_isinstance (by decide +kernel) (l_cons (v_var (i := 0) rfl (by leaf_len) (by decide) (by decide)) (l_cons (v_glob (by rfl) (glob_cls (c := 103) T.kx_InvalidCount) (by decide)) l_nil rfl) rfl) rfl (by decide) (by decide)) (l_cons (v_callB (c_isaH c (T.xh_UnknownName _)) (by rfl) T.z_isinstance (by decide +kernel) (l_cons (v_var (i := 0) rfl (by leaf_len) (by decide) (by decide)) (l_cons (v_glob (by rfl) (glob_cls (c := 105) T.kx_InvalidText) (by decide)) l_nil rfl) rfl) rfl (by decide) (by decide)) (l_cons (v_callB (c_isaH c (T.xh_UnknownName _)) (by rfl) T.z_isinstance (by decide +kernel) (l_cons (v_var (i := 0) rfl (by leaf_len) (by decide) (by decide)) (l_cons (v_glob (by rfl) (glob_cls (c := 106) T.kx_InvalidName) (by decide)) l_nil rfl) rfl) rfl (by decide) (by decide)) l_nil rfl) rfl) rfl) (by decide))) rfl (.inl rfl)) (ss_cons (s_setH (i := 2) c rfl (by mem_news) (v_bin (o_add c.cK) (v_var (i := 2) rfl (by leaf_len) (by decide) (by decide)) (v_lst (l_cons (v_callB (c_isaH c (T.xh_UnknownName _)) (by rfl) T.z_isinstance (by decide +kernel) (l_cons (v_var (i := 0) rfl (by leaf_len) (by decide) (by decide)) (l_cons (v_glob (by rfl) (glob_cls (c := 107) T.kx_InvalidClaim) (by decide)) l_nil rfl) rfl) rfl (by decide) (by decide)) (l_cons (v_callB (c_isaH c (T.xh_UnknownName _)) (by rfl) T.z_isinstance (by decide +kernel) (l_cons (v_var (i := 0) rfl (by leaf_len) (by decide) (by decide)) (l_cons (v_glob (by rfl) (glob_cls (c := 108) T.kx_InvalidIndex) (by decide)) l_nil rfl) rfl) rfl (by decide) (by decide)) (l_cons (v_callB (c_isaH c (T.xh_UnknownName _)) (by rfl) T.z_isinstance (by decide +kernel) (l_cons (v_var (i := 0) rfl (by leaf_len) (by decide) (by decide)) (l_cons (v_glob (by rfl) (glob_cls (c := 112) T.kx_InvalidDeeds) (by decide)) l_nil rfl) rfl) rfl (by decide) (by decide)) l_nil rfl) rfl) rfl) (by decide))) rfl (.inl rfl)) (ss_cons (s_setH (i := 2) c rfl (by mem_news) (v_bin (o_add c.cK) (v_var (i := 2) rfl (by leaf_len) (by decide) (by decide)) (v_lst (l_cons (v_callB (c_isaH c (T.xh_UnknownName _)) (by rfl) T.z_isinstance (by decide +kernel) (l_cons (v_var (i := 0) rfl (by leaf_len) (by decide) (by decide)) (l_cons (v_glob (by rfl) (glob_cls (c := 113) T.kx_UnknownName) (by decide)) l_nil rfl) rfl) rfl (by decide) (by decide)) (l_cons (v_callB (c_isaH c (T.xh_UnknownName _)) (by rfl) T.z_isinstance (by decide +kernel) (l_cons (v_var (i := 0) rfl (by leaf_len) (by decide) (by decide)) (l_cons (v_glob (by rfl) (glob_cls (c := 114) T.kx_InUse) (by decide)) l_nil rfl) rfl) rfl (by decide) (by decide)) (l_cons (v_callB (c_isaH c (T.xh_UnknownName _)) (by rfl) T.z_isinstance (by decide +kernel) (l_cons (v_var (i := 0) rfl (by leaf_len) (by decide) (by decide)) (l_cons (v_glob (by rfl) (glob_cls (c := 115) T.kx_TooMany) (by decide)) l_nil rfl) rfl) rfl (by decide) (by decide)) l_nil rfl) rfl) rfl) (by decide))) rfl (.inl rfl)) (ss_cons (s_setH (i := 2) c rfl (by mem_news) (v_bin (o_add c.cK) (v_var (i := 2) rfl (by leaf_len) (by decide) (by decide)) (v_lst (l_cons (v_callB (c_isaH c (T.xh_UnknownName _)) (by rfl) T.z_isinstance (by decide +kernel) (l_cons (v_var (i := 0) rfl (by leaf_len) (by decide) (by decide)) (l_cons (v_glob (by rfl) (glob_cls (c := 116) T.kx_Broken) (by decide)) l_nil rfl) rfl) rfl (by decide) (by decide)) (l_cons (v_callB (c_isaH c (T.xh_UnknownName _)) (by rfl) T.z_isinstance (by decide +kernel) (l_cons (v_var (i := 0) rfl (by leaf_len) (by decide) (by decide)) (l_cons (v_glob (by rfl) (glob_cls (c := 117) T.kx_NoLimit) (by decide)) l_nil rfl) rfl) rfl (by decide) (by decide)) (l_cons (v_callB (c_isaH c (T.xh_UnknownName _)) (by rfl) T.z_isinstance (by decide +kernel) (l_cons (v_var (i := 0) rfl (by leaf_len) (by decide) (by decide)) (l_cons (v_glob (by rfl) (glob_cls (c := 118) T.kx_NothingToUndo) (by decide)) l_nil rfl) rfl) rfl (by decide) (by decide)) l_nil rfl) rfl) rfl) (by decide))) rfl (.inl rfl)) (ss_cons (s_setH (i := 3) c rfl (by mem_news) (v_lst (l_cons (v_callB (c_isaH c (T.xh_UnknownName _)) (by rfl) T.z_isinstance (by decide +kernel) (l_cons (v_var (i := 0) rfl (by leaf_len) (by decide) (by decide)) (l_cons (v_glob (by rfl) (glob_cls (c := 120) T.kx_WrongValue) (by decide)) l_nil rfl) rfl) rfl (by decide) (by decide)) (l_cons (v_callB (c_isaH c (T.xh_UnknownName _)) (by rfl) T.z_isinstance (by decide +kernel) (l_cons (v_var (i := 0) rfl (by leaf_len) (by decide) (by decide)) (l_cons (v_glob (by rfl) (glob_cls (c := 121) T.kx_WrongName) (by decide)) l_nil rfl) rfl) rfl (by decide) (by decide)) (l_cons (v_callB (c_isaH c (T.xh_UnknownName _)) (by rfl) T.z_isinstance (by decide +kernel) (l_cons (v_var (i := 0) rfl (by leaf_len) (by decide) (by decide)) (l_cons (v_glob (by rfl) (glob_cls (c := 122) T.kx_NoAnswer) (by decide)) l_nil rfl) rfl) rfl (by decide) (by decide)) l_nil rfl) rfl) rfl) (by decide)) rfl (.inl rfl)) (ss_cons (s_setH (i := 4) c rfl (by mem_news) (v_ite (b_cmp o_eqI (v_lcnt c.cK (by have := c.room.un; omega) (v_var (i := 2) rfl (by leaf_len) (by decide) (by decide)) v_bool rfl rfl rfl rfl) v_int rfl) (v_lidx c.cK (by have := c.room.un; omega) (v_var (i := 2) rfl (by leaf_len) (by decide) (by decide)) v_bool rfl rfl rfl rfl) (v_neg v_int)) rfl (.inl rfl)) (ss_cons (s_if (b_of (w_or (b_cmp o_lt (v_var (i := 4) rfl (by leaf_len) (by decide) (by decide)) v_int rfl) (w_or1 (b_cmp (o_neU c.cK (by have := c.room.un; omega)) (v_var (i := 3) rfl (by leaf_len) (by decide) (by decide)) (v_lst (l_cons (v_cmp o_lt (v_var (i := 4) rfl (by leaf_len) (by decide) (by decide)) v_int rfl) (l_cons (v_chain' (o_lt) (o_lt) v_int (v_var (i := 4) rfl (by leaf_len) (by decide) (by decide)) v_int rfl) (l_cons (v_cmp o_gt (v_var (i := 4) rfl (by leaf_len) (by decide) (by decide)) v_int rfl) l_nil rfl) rfl) rfl) (by decide)) rfl)))) (ss_cons (s_ret (v_tup (l_cons v_str (l_cons (v_callB (c_reprH c rfl) (by rfl) T.z_repr (by decide +kernel) (l_cons (v_var (i := 2) rfl (by leaf_len) (by decide) (by decide)) l_nil rfl) rfl (by decide) (by decide)) l_nil rfl) rfl) (by decide))) ss_nil) (ss_nil)) (ss_cons (s_if (b_of (w_or (b_cmp o_lt (v_var (i := 4) rfl (by leaf_len) (by decide) (by decide)) v_int rfl) (w_or1 (b_cmp o_eqI (v_var (i := 4) rfl (by leaf_len) (by decide) (by decide)) v_int rfl)))) (ss_cons (s_ret (v_tup (l_cons (v_ix c.cK (v_var (i := 1) rfl (by leaf_len) (by decide) (by decide)) (v_var (i := 4) rfl (by leaf_len) (by decide) (by decide)) rfl) (l_cons (v_callB (c_reprH c rfl) (by rfl) T.z_repr (by decide +kernel) (l_cons (v_attrH c T.xf_UnknownName T.xn_UnknownName_given (v_var (i := 0) rfl (by leaf_len) (by decide) (by decide)) rfl) l_nil rfl) rfl (by decide) (by decide)) l_nil rfl) rfl) (by decide))) ss_nil) (ss_nil)) (ss_cons (s_if (b_cmp (o_inU c.cK (by have := c.room.un; omega)) (v_var (i := 4) rfl (by leaf_len) (by decide) (by decide)) (v_lst (l_cons v_int (l_cons v_int (l_cons v_int l_nil rfl) rfl) rfl) (by decide)) rfl) (ss_cons (s_ret (v_tup (l_cons (v_ix c.cK (v_var (i := 1) rfl (by leaf_len) (by decide) (by decide)) (v_var (i := 4) rfl (by leaf_len) (by decide) (by decide)) rfl) (l_cons (v_callB (c_reprH c rfl) (by rfl) T.z_repr (by decide +kernel) (l_cons (v_attrH c T.xf_UnknownName T.xn_UnknownName_index (v_var (i := 0) rfl (by leaf_len) (by decide) (by decide)) rfl) l_nil rfl) rfl (by decide) (by decide)) l_nil rfl) rfl) (by decide))) ss_nil) (ss_nil)) (ss_cons (s_ret (v_tup (l_cons (v_ix c.cK (v_var (i := 1) rfl (by leaf_len) (by decide) (by decide)) (v_var (i := 4) rfl (by leaf_len) (by decide) (by decide)) rfl) (l_cons (v_ite (b_cmp o_eqI (v_var (i := 4) rfl (by leaf_len) (by decide) (by decide)) v_int rfl) (v_callB (c_reprH c rfl) (by rfl) T.z_repr (by decide +kernel) (l_cons (v_attrH c T.xf_UnknownName T.xn_UnknownName_most (v_var (i := 0) rfl (by leaf_len) (by decide) (by decide)) rfl) l_nil rfl) rfl (by decide) (by decide)) v_str) l_nil rfl) rfl) (by decide))) ss_nil))))))))))))⟩
theorem okh__law_error_UnknownName (T : Facts P w K mg base ad) : FnHA P w K mg base (GG true K ad) 1 (ad 42) (ad 1113) (fun a dd => runFn 1 5 (pkh__law_error_UnknownName.1 a dd)) := by
  obtain ⟨fd, F⟩ := T.f__law_error
  exact fnh_rule F sc__law_error (F.binds fun _ _ _ _ _ _ us hl => match us, hl with | [_], _ => rfl) rfl (pkh__law_error_UnknownName.2 P w K mg base ad T) rfl rfl (by decide)
theorem cod_UnknownName : ∀ (a dd : Addr) (d u : D) (S : List Ob), dRepr d = M.pure u → runFn 1 5 (pkh__law_error_UnknownName.1 a dd) [.raw (.ref a) dd ["given"] [d]] S = some (.ok (.tup [.str "UnknownName", u]), S) := by
  intro a dd d u S h
  have hc : lm2 cntF (.lst [.bl false, .bl false, .bl false, .bl false, .bl false, .bl false, .bl false, .bl false, .bl false, .bl true, .bl false, .bl false, .bl false, .bl false, .bl false]) (.bl true) = M.pure (.int 1) := by kernel_rfl
  have hi : lm2 idxF (.lst [.bl false, .bl false, .bl false, .bl false, .bl false, .bl false, .bl false, .bl false, .bl false, .bl true, .bl false, .bl false, .bl false, .bl false, .bl false]) (.bl true) = M.pure (.int 9) := by kernel_rfl
  have hl : isLst (.lst [.bl false, .bl false, .bl false, .bl false, .bl false, .bl false, .bl false, .bl false, .bl false, .bl true, .bl false, .bl false, .bl false, .bl false, .bl false]) = M.pure () := by rfl
  have he : dEq true (.lst [.bl false, .bl true, .bl false]) (.lst [.bl false, .bl true, .bl false]) = M.pure (.bl false) := by kernel_rfl
  have hx : dIx (.lst [.str "NotAPattern", .str "NotARun", .str "InvalidResistance", .str "InvalidCount", .str "InvalidText", .str "InvalidName", .str "InvalidClaim", .str "InvalidIndex", .str "InvalidDeeds", .str "UnknownName", .str "InUse", .str "TooMany", .str "Broken", .str "NoLimit", .str "NothingToUndo"]) (.int 9) = M.pure (.str "UnknownName") := by kernel_rfl
  have hn : dInD (.int 9) (.lst [.int 8, .int 10, .int 12]) = M.pure (.bl false) := by kernel_rfl
  simp [runFn, pkh__law_error_UnknownName, seqS, asgS, exS, setT, getv, slots, M.bind, M.pure, on2, on1, isaH_at, isaC, isS, isB, attrH_at, h, wd_add, wd_spl, isStr, hl, hc, hi, he, hx, hn, da_lst, dCmpI, dEqI, chainD, toB, nextS, retS, noErr]
  rfl
def pkh__law_error_InvalidText : Σ' ms : Addr → Addr → MS, ∀ (P : Program) (w : World) (K : PySem.W.Frag) (mg : Str → Option Value) (base : Heap) (ad : Nat → Addr), Facts P w K mg base ad → BodyH P w K mg base (GG true K ad) 0 (ad 42) (ad 1105) ["_law_e", "_law_words", "_law_sorts", "_law_bases", "_law_at"] "_law_error" st__law_error ms :=
  ⟨_, fun P w K mg base ad T cdv A fr s H a dd o c => ss_cons (s_setH (i := 1) c rfl (by mem_news) v_str rfl (.inl rfl)) (ss_cons (s_setH (i := 1) c rfl (by mem_news) (v_split (v_bin (o_add c.cK) (v_var (i := 1) rfl (by leaf_len) (by decide) (by decide)) v_str) v_str rfl rfl rfl) rfl (.inl rfl)) (ss_cons (s_setH (i := 2) c rfl (by mem_news) (v_lst (l_cons (v_callB (c_isaH c (T.xh_InvalidText _)) (by rfl) T.z_isinstance (by decide +kernel) (l_cons (v_var (i := 0) rfl (by leaf_len) (by decide) (by decide)) (l_cons (v_glob (by rfl) (glob_cls (c := 100) T.kx_NotAPattern) (by decide)) l_nil rfl) rfl) rfl (by decide) (by decide)) (l_cons (v_callB (c_isaH c (T.xh_InvalidText _)) (by rfl) T.z_isinstance (by decide +kernel) (l_cons (v_var (i := 0) rfl (by leaf_len) (by decide) (by decide)) (l_cons (v_glob (by rfl) (glob_cls (c := 101) T.kx_NotARun) (by decide)) l_nil rfl) rfl) rfl (by decide) (by decide)) (l_cons (v_callB (c_isaH c (T.xh_InvalidText _)) (by rfl) T.z_isinstance (by decide +kernel) (l_cons (v_var (i := 0) rfl (by leaf_len) (by decide) (by decide)) (l_cons (v_glob (by rfl) (glob_cls (c := 102) T.kx_InvalidResistance) (by decide)) l_nil rfl) rfl) rfl (by decide) (by decide)) l_nil rfl) rfl) rfl) (by decide)) rfl (.inl rfl)) (ss_cons (s_setH (i := 2) c rfl (by mem_news) (v_bin (o_add c.cK) (v_var (i := 2) rfl (by leaf_len) (by decide) (by decide)) (v_lst (l_cons (v_callB (c_isaH c (T.xh_InvalidText _)) (by rfl) T.z_isinstance (by decide +kernel) (l_cons (v_var (i := 0) rfl (by leaf_len) (by decide) (by decide)) (l_cons (v_glob (by rfl) (glob_cls (c := 103) T.kx_InvalidCount) (by decide)) l_nil rfl) rfl) rfl (by decide) (by decide)) (l_cons (v_callB (c_isaH c (T.xh_InvalidText _)) (by rfl) T.z_isinstance (by decide +kernel) (l_cons (v_var (i := 0) rfl (by leaf_len) (by decide) (by decide)) (l_cons (v_glob (by rfl) (glob_cls (c := 105) T.kx_InvalidText) (by decide)) l_nil rfl) rfl) rfl (by decide) (by decide)) (l_cons (v_callB (c_isaH c (T.xh_InvalidText _)) (by rfl) T.z_isinstance (by decide +kernel) (l_cons (v_var (i := 0) rfl (by leaf_len) (by decide) (by decide)) (l_cons (v_glob (by rfl) (glob_cls (c := 106) T.kx_InvalidName) (by decide)) l_nil rfl) rfl) rfl (by decide) (by decide)) l_nil rfl) rfl) rfl) (by decide))) rfl (.inl rfl)) (ss_cons (s_setH (i := 2) c rfl (by mem_news) (v_bin (o_add c.cK) (v_var (i := 2) rfl (by leaf_len) (by decide) (by decide)) (v_lst (l_cons (v_callB (c_isaH c (T.xh_InvalidText _)) (by rfl) T.z_isinstance (by decide +kernel) (l_cons (v_var (i := 0) rfl (by leaf_len) (by decide) (by decide)) (l_cons (v_glob (by rfl) (glob_cls (c := 107) T.kx_InvalidClaim) (by decide)) l_nil rfl) rfl) rfl (by decide) (by decide)) (l_cons (v_callB (c_isaH c (T.xh_InvalidText _)) (by rfl) T.z_isinstance (by decide +kernel) (l_cons (v_var (i := 0) rfl (by leaf_len) (by decide) (by decide)) (l_cons (v_glob (by rfl) (glob_cls (c := 108) T.kx_InvalidIndex) (by decide)) l_nil rfl) rfl) rfl (by decide) (by decide)) (l_cons (v_callB (c_isaH c (T.xh_InvalidText _)) (by rfl) T.z_isinstance (by decide +kernel) (l_cons (v_var (i := 0) rfl (by leaf_len) (by decide) (by decide)) (l_cons (v_glob (by rfl) (glob_cls (c := 112) T.kx_InvalidDeeds) (by decide)) l_nil rfl) rfl) rfl (by decide) (by decide)) l_nil rfl) rfl) rfl) (by decide))) rfl (.inl rfl)) (ss_cons (s_setH (i := 2) c rfl (by mem_news) (v_bin (o_add c.cK) (v_var (i := 2) rfl (by leaf_len) (by decide) (by decide)) (v_lst (l_cons (v_callB (c_isaH c (T.xh_InvalidText _)) (by rfl) T.z_isinstance (by decide +kernel) (l_cons (v_var (i := 0) rfl (by leaf_len) (by decide) (by decide)) (l_cons (v_glob (by rfl) (glob_cls (c := 113) T.kx_UnknownName) (by decide)) l_nil rfl) rfl) rfl (by decide) (by decide)) (l_cons (v_callB (c_isaH c (T.xh_InvalidText _)) (by rfl) T.z_isinstance (by decide +kernel) (l_cons (v_var (i := 0) rfl (by leaf_len) (by decide) (by decide)) (l_cons (v_glob (by rfl) (glob_cls (c := 114) T.kx_InUse) (by decide)) l_nil rfl) rfl) rfl (by decide) (by decide)) (l_cons (v_callB (c_isaH c (T.xh_InvalidText _)) (by rfl) T.z_isinstance (by decide +kernel) (l_cons (v_var (i := 0) rfl (by leaf_len) (by decide) (by decide)) (l_cons (v_glob (by rfl) (glob_cls (c := 115) T.kx_TooMany) (by decide)) l_nil rfl) rfl) rfl (by decide) (by decide)) l_nil rfl) rfl) rfl) (by decide))) rfl (.inl rfl)) (ss_cons (s_setH (i := 2) c rfl (by mem_news) (v_bin (o_add c.cK) (v_var (i := 2) rfl (by leaf_len) (by decide) (by decide)) (v_lst (l_cons (v_callB (c_isaH c (T.xh_InvalidText _)) (by rfl) T.z_isinstance (by decide +kernel) (l_cons (v_var (i := 0) rfl (by leaf_len) (by decide) (by decide)) (l_cons (v_glob (by rfl) (glob_cls (c := 116) T.kx_Broken) (by decide)) l_nil rfl) rfl) rfl (by decide) (by decide)) (l_cons (v_callB (c_isaH c (T.xh_InvalidText _)) (by rfl) T.z_isinstance (by decide +kernel) (l_cons (v_var (i := 0) rfl (by leaf_len) (by decide) (by decide)) (l_cons (v_glob (by rfl) (glob_cls (c := 117) T.kx_NoLimit) (by decide)) l_nil rfl) rfl) rfl (by decide) (by decide)) (l_cons (v_callB (c_isaH c (T.xh_InvalidText _)) (by rfl) T.z_isinstance (by decide +kernel) (l_cons (v_var (i := 0) rfl (by leaf_len) (by decide) (by decide)) (l_cons (v_glob (by rfl) (glob_cls (c := 118) T.kx_NothingToUndo) (by decide)) l_nil rfl) rfl) rfl (by decide) (by decide)) l_nil rfl) rfl) rfl) (by decide))) rfl (.inl rfl)) (ss_cons (s_setH (i := 3) c rfl (by mem_news) (v_lst (l_cons (v_callB (c_isaH c (T.xh_InvalidText _)) (by rfl) T.z_isinstance (by decide +kernel) (l_cons (v_var (i := 0) rfl (by leaf_len) (by decide) (by decide)) (l_cons (v_glob (by rfl) (glob_cls (c := 120) T.kx_WrongValue) (by decide)) l_nil rfl) rfl) rfl (by decide) (by decide)) (l_cons (v_callB (c_isaH c (T.xh_InvalidText _)) (by rfl) T.z_isinstance (by decide +kernel) (l_cons (v_var (i := 0) rfl (by leaf_len) (by decide) (by decide)) (l_cons (v_glob (by rfl) (glob_cls (c := 121) T.kx_WrongName) (by decide)) l_nil rfl) rfl) rfl (by decide) (by decide)) (l_cons (v_callB (c_isaH c (T.xh_InvalidText _)) (by rfl) T.z_isinstance (by decide +kernel) (l_cons (v_var (i := 0) rfl (by leaf_len) (by decide) (by decide)) (l_cons (v_glob (by rfl) (glob_cls (c := 122) T.kx_NoAnswer) (by decide)) l_nil rfl) rfl) rfl (by decide) (by decide)) l_nil rfl) rfl) rfl) (by decide)) rfl (.inl rfl)) (ss_cons (s_setH (i := 4) c rfl (by mem_news) (v_ite (b_cmp o_eqI (v_lcnt c.cK (by have := c.room.un; omega) (v_var (i := 2) rfl (by leaf_len) (by decide) (by decide)) v_bool rfl rfl rfl rfl) v_int rfl) (v_lidx c.cK (by have := c.room.un; omega) (v_var (i := 2) rfl (by leaf_len) (by decide) (by decide)) v_bool rfl rfl rfl rfl) (v_neg v_int)) rfl (.inl rfl)) (ss_cons (s_if (b_of (w_or (b_cmp o_lt (v_var (i := 4) rfl (by leaf_len) (by decide) (by decide)) v_int rfl) (w_or1 (b_cmp (o_neU c.cK (by have := c.room.un; omega)) (v_var (i := 3) rfl (by leaf_len) (by decide) (by decide)) (v_lst (l_cons (v_cmp o_lt (v_var (i := 4) rfl (by leaf_len) (by decide) (by decide)) v_int rfl) (l_cons (v_chain' (o_lt) (o_lt) v_int (v_var (i := 4) rfl (by leaf_len) (by decide) (by decide)) v_int rfl) (l_cons (v_cmp o_gt (v_var (i := 4) rfl (by leaf_len) (by decide) (by decide)) v_int rfl) l_nil rfl) rfl) rfl) (by decide)) rfl)))) (ss_cons (s_ret (v_tup (l_cons v_str (l_cons (v_callB (c_reprH c rfl) (by rfl) T.z_repr (by decide +kernel) (l_cons (v_var (i := 2) rfl (by leaf_len) (by decide) (by decide)) l_nil rfl) rfl (by decide) (by decide)) l_nil rfl) rfl) (by decide))) ss_nil) (ss_nil)) (ss_cons (s_if (b_of (w_or (b_cmp o_lt (v_var (i := 4) rfl (by leaf_len) (by decide) (by decide)) v_int rfl) (w_or1 (b_cmp o_eqI (v_var (i := 4) rfl (by leaf_len) (by decide) (by decide)) v_int rfl)))) (ss_cons (s_ret (v_tup (l_cons (v_ix c.cK (v_var (i := 1) rfl (by leaf_len) (by decide) (by decide)) (v_var (i := 4) rfl (by leaf_len) (by decide) (by decide)) rfl) (l_cons (v_callB (c_reprH c rfl) (by rfl) T.z_repr (by decide +kernel) (l_cons (v_attrH c T.xf_InvalidText T.xn_InvalidText_given (v_var (i := 0) rfl (by leaf_len) (by decide) (by decide)) rfl) l_nil rfl) rfl (by decide) (by decide)) l_nil rfl) rfl) (by decide))) ss_nil) (ss_nil)) (ss_cons (s_if (b_cmp (o_inU c.cK (by have := c.room.un; omega)) (v_var (i := 4) rfl (by leaf_len) (by decide) (by decide)) (v_lst (l_cons v_int (l_cons v_int (l_cons v_int l_nil rfl) rfl) rfl) (by decide)) rfl) (ss_cons (s_ret (v_tup (l_cons (v_ix c.cK (v_var (i := 1) rfl (by leaf_len) (by decide) (by decide)) (v_var (i := 4) rfl (by leaf_len) (by decide) (by decide)) rfl) (l_cons (v_callB (c_reprH c rfl) (by rfl) T.z_repr (by decide +kernel) (l_cons (v_attrH c T.xf_InvalidText T.xn_InvalidText_index (v_var (i := 0) rfl (by leaf_len) (by decide) (by decide)) rfl) l_nil rfl) rfl (by decide) (by decide)) l_nil rfl) rfl) (by decide))) ss_nil) (ss_nil)) (ss_cons (s_ret (v_tup (l_cons (v_ix c.cK (v_var (i := 1) rfl (by leaf_len) (by decide) (by decide)) (v_var (i := 4) rfl (by leaf_len) (by decide) (by decide)) rfl) (l_cons (v_ite (b_cmp o_eqI (v_var (i := 4) rfl (by leaf_len) (by decide) (by decide)) v_int rfl) (v_callB (c_reprH c rfl) (by rfl) T.z_repr (by decide +kernel) (l_cons (v_attrH c T.xf_InvalidText T.xn_InvalidText_most (v_var (i := 0) rfl (by leaf_len) (by decide) (by decide)) rfl) l_nil rfl) rfl (by decide) (by decide)) v_str) l_nil rfl) rfl) (by decide))) ss_nil))))))))))))⟩
theorem okh__law_error_InvalidText (T : Facts P w K mg base ad) : FnHA P w K mg base (GG true K ad) 1 (ad 42) (ad 1105) (fun a dd => runFn 1 5 (pkh__law_error_InvalidText.1 a dd)) := by
  obtain ⟨fd, F⟩ := T.f__law_error
  exact fnh_rule F sc__law_error (F.binds fun _ _ _ _ _ _ us hl => match us, hl with | [_], _ => rfl) rfl (pkh__law_error_InvalidText.2 P w K mg base ad T) rfl rfl (by decide)
theorem cod_InvalidText : ∀ (a dd : Addr) (d u : D) (S : List Ob), dRepr d = M.pure u → runFn 1 5 (pkh__law_error_InvalidText.1 a dd) [.raw (.ref a) dd ["given"] [d]] S = some (.ok (.tup [.str "InvalidText", u]), S) := by
  intro a dd d u S h
  have hc : lm2 cntF (.lst [.bl false, .bl false, .bl false, .bl false, .bl true, .bl false, .bl false, .bl false, .bl false, .bl false, .bl false, .bl false, .bl false, .bl false, .bl false]) (.bl true) = M.pure (.int 1) := by kernel_rfl
  have hi : lm2 idxF (.lst [.bl false, .bl false, .bl false, .bl false, .bl true, .bl false, .bl false, .bl false, .bl false, .bl false, .bl false, .bl false, .bl false, .bl false, .bl false]) (.bl true) = M.pure (.int 4) := by kernel_rfl
  have hl : isLst (.lst [.bl false, .bl false, .bl false, .bl false, .bl true, .bl false, .bl false, .bl false, .bl false, .bl false, .bl false, .bl false, .bl false, .bl false, .bl false]) = M.pure () := by rfl
  have he : dEq true (.lst [.bl true, .bl false, .bl false]) (.lst [.bl true, .bl false, .bl false]) = M.pure (.bl false) := by kernel_rfl
  have hx : dIx (.lst [.str "NotAPattern", .str "NotARun", .str "InvalidResistance", .str "InvalidCount", .str "InvalidText", .str "InvalidName", .str "InvalidClaim", .str "InvalidIndex", .str "InvalidDeeds", .str "UnknownName", .str "InUse", .str "TooMany", .str "Broken", .str "NoLimit", .str "NothingToUndo"]) (.int 4) = M.pure (.str "InvalidText") := by kernel_rfl
  have hn : dInD (.int 4) (.lst [.int 8, .int 10, .int 12]) = M.pure (.bl false) := by kernel_rfl
  simp [runFn, pkh__law_error_InvalidText, seqS, asgS, exS, setT, getv, slots, M.bind, M.pure, on2, on1, isaH_at, isaC, isS, isB, attrH_at, h, wd_add, wd_spl, isStr, hl, hc, hi, he, hx, hn, da_lst, dCmpI, dEqI, chainD, toB, nextS, retS, noErr]
  rfl
def pkh__law_error_InvalidName : Σ' ms : Addr → Addr → MS, ∀ (P : Program) (w : World) (K : PySem.W.Frag) (mg : Str → Option Value) (base : Heap) (ad : Nat → Addr), Facts P w K mg base ad → BodyH P w K mg base (GG true K ad) 0 (ad 42) (ad 1106) ["_law_e", "_law_words", "_law_sorts", "_law_bases", "_law_at"] "_law_error" st__law_error ms :=
  ⟨_, fun P w K mg base ad T cdv A fr s H a dd o c => ss_cons (s_setH (i := 1) c rfl (by mem_news) v_str rfl (.inl rfl)) (ss_cons (s_setH (i := 1) c rfl (by mem_news) (v_split (v_bin (o_add c.cK) (v_var (i := 1) rfl (by leaf_len) (by decide) (by decide)) v_str) v_str rfl rfl rfl) rfl (.inl rfl)) (ss_cons (s_setH (i := 2) c rfl (by mem_news) (v_lst (l_cons (v_callB (c_isaH c (T.xh_InvalidName _)) (by rfl) T.z_isinstance (by decide +kernel) (l_cons (v_var (i := 0) rfl (by leaf_len) (by decide) (by decide)) (l_cons (v_glob (by rfl) (glob_cls (c := 100) T.kx_NotAPattern) (by decide)) l_nil rfl) rfl) rfl (by decide) (by decide)) (l_cons (v_callB (c_isaH c (T.xh_InvalidName _)) (by rfl) T.z_isinstance (by decide +kernel) (l_cons (v_var (i := 0) rfl (by leaf_len) (by decide) (by decide)) (l_cons (v_glob (by rfl) (glob_cls (c := 101) T.kx_NotARun) (by decide)) l_nil rfl) rfl) rfl (by decide) (by decide)) (l_cons (v_callB (c_isaH c (T.xh_InvalidName _)) (by rfl) T.z_isinstance (by decide +kernel) (l_cons (v_var (i := 0) rfl (by leaf_len) (by decide) (by decide)) (l_cons (v_glob (by rfl) (glob_cls (c := 102) T.kx_InvalidResistance) (by decide)) l_nil rfl) rfl) rfl (by decide) (by decide)) l_nil rfl) rfl) rfl) (by decide)) rfl (.inl rfl)) (ss_cons (s_setH (i := 2) c rfl (by mem_news) (v_bin (o_add c.cK) (v_var (i := 2) rfl (by leaf_len) (by decide) (by decide)) (v_lst (l_cons (v_callB (c_isaH c (T.xh_InvalidName _)) (by rfl) T.z_isinstance (by decide +kernel) (l_cons (v_var (i := 0) rfl (by leaf_len) (by decide) (by decide)) (l_cons (v_glob (by rfl) (glob_cls (c := 103) T.kx_InvalidCount) (by decide)) l_nil rfl) rfl) rfl (by decide) (by decide)) (l_cons (v_callB (c_isaH c (T.xh_InvalidName _)) (by rfl) T.z_isinstance (by decide +kernel) (l_cons (v_var (i := 0) rfl (by leaf_len) (by decide) (by decide)) (l_cons (v_glob (by rfl) (glob_cls (c := 105) T.kx_InvalidText) (by decide)) l_nil rfl) rfl) rfl (by decide) (by decide)) (l_cons (v_callB (c_isaH c (T.xh_InvalidName _)) (by rfl) T.z_isinstance (by decide +kernel) (l_cons (v_var (i := 0) rfl (by leaf_len) (by decide) (by decide)) (l_cons (v_glob (by rfl) (glob_cls (c := 106) T.kx_InvalidName) (by decide)) l_nil rfl) rfl) rfl (by decide) (by decide)) l_nil rfl) rfl) rfl) (by decide))) rfl (.inl rfl)) (ss_cons (s_setH (i := 2) c rfl (by mem_news) (v_bin (o_add c.cK) (v_var (i := 2) rfl (by leaf_len) (by decide) (by decide)) (v_lst (l_cons (v_callB (c_isaH c (T.xh_InvalidName _)) (by rfl) T.z_isinstance (by decide +kernel) (l_cons (v_var (i := 0) rfl (by leaf_len) (by decide) (by decide)) (l_cons (v_glob (by rfl) (glob_cls (c := 107) T.kx_InvalidClaim) (by decide)) l_nil rfl) rfl) rfl (by decide) (by decide)) (l_cons (v_callB (c_isaH c (T.xh_InvalidName _)) (by rfl) T.z_isinstance (by decide +kernel) (l_cons (v_var (i := 0) rfl (by leaf_len) (by decide) (by decide)) (l_cons (v_glob (by rfl) (glob_cls (c := 108) T.kx_InvalidIndex) (by decide)) l_nil rfl) rfl) rfl (by decide) (by decide)) (l_cons (v_callB (c_isaH c (T.xh_InvalidName _)) (by rfl) T.z_isinstance (by decide +kernel) (l_cons (v_var (i := 0) rfl (by leaf_len) (by decide) (by decide)) (l_cons (v_glob (by rfl) (glob_cls (c := 112) T.kx_InvalidDeeds) (by decide)) l_nil rfl) rfl) rfl (by decide) (by decide)) l_nil rfl) rfl) rfl) (by decide))) rfl (.inl rfl)) (ss_cons (s_setH (i := 2) c rfl (by mem_news) (v_bin (o_add c.cK) (v_var (i := 2) rfl (by leaf_len) (by decide) (by decide)) (v_lst (l_cons (v_callB (c_isaH c (T.xh_InvalidName _)) (by rfl) T.z_isinstance (by decide +kernel) (l_cons (v_var (i := 0) rfl (by leaf_len) (by decide) (by decide)) (l_cons (v_glob (by rfl) (glob_cls (c := 113) T.kx_UnknownName) (by decide)) l_nil rfl) rfl) rfl (by decide) (by decide)) (l_cons (v_callB (c_isaH c (T.xh_InvalidName _)) (by rfl) T.z_isinstance (by decide +kernel) (l_cons (v_var (i := 0) rfl (by leaf_len) (by decide) (by decide)) (l_cons (v_glob (by rfl) (glob_cls (c := 114) T.kx_InUse) (by decide)) l_nil rfl) rfl) rfl (by decide) (by decide)) (l_cons (v_callB (c_isaH c (T.xh_InvalidName _)) (by rfl) T.z_isinstance (by decide +kernel) (l_cons (v_var (i := 0) rfl (by leaf_len) (by decide) (by decide)) (l_cons (v_glob (by rfl) (glob_cls (c := 115) T.kx_TooMany) (by decide)) l_nil rfl) rfl) rfl (by decide) (by decide)) l_nil rfl) rfl) rfl) (by decide))) rfl (.inl rfl)) (ss_cons (s_setH (i := 2) c rfl (by mem_news) (v_bin (o_add c.cK) (v_var (i := 2) rfl (by leaf_len) (by decide) (by decide)) (v_lst (l_cons (v_callB (c_isaH c (T.xh_InvalidName _)) (by rfl) T.z_isinstance (by decide +kernel) (l_cons (v_var (i := 0) rfl (by leaf_len) (by decide) (by decide)) (l_cons (v_glob (by rfl) (glob_cls (c := 116) T.kx_Broken) (by decide)) l_nil rfl) rfl) rfl (by decide) (by decide)) (l_cons (v_callB (c_isaH c (T.xh_InvalidName _)) (by rfl) T.z_isinstance (by decide +kernel) (l_cons (v_var (i := 0) rfl (by leaf_len) (by decide) (by decide)) (l_cons (v_glob (by rfl) (glob_cls (c := 117) T.kx_NoLimit) (by decide)) l_nil rfl) rfl) rfl (by decide) (by decide)) (l_cons (v_callB (c_isaH c (T.xh_InvalidName _)) (by rfl) T.z_isinstance (by decide +kernel) (l_cons (v_var (i := 0) rfl (by leaf_len) (by decide) (by decide)) (l_cons (v_glob (by rfl) (glob_cls (c := 118) T.kx_NothingToUndo) (by decide)) l_nil rfl) rfl) rfl (by decide) (by decide)) l_nil rfl) rfl) rfl) (by decide))) rfl (.inl rfl)) (ss_cons (s_setH (i := 3) c rfl (by mem_news) (v_lst (l_cons (v_callB (c_isaH c (T.xh_InvalidName _)) (by rfl) T.z_isinstance (by decide +kernel) (l_cons (v_var (i := 0) rfl (by leaf_len) (by decide) (by decide)) (l_cons (v_glob (by rfl) (glob_cls (c := 120) T.kx_WrongValue) (by decide)) l_nil rfl) rfl) rfl (by decide) (by decide)) (l_cons (v_callB (c_isaH c (T.xh_InvalidName _)) (by rfl) T.z_isinstance (by decide +kernel) (l_cons (v_var (i := 0) rfl (by leaf_len) (by decide) (by decide)) (l_cons (v_glob (by rfl) (glob_cls (c := 121) T.kx_WrongName) (by decide)) l_nil rfl) rfl) rfl (by decide) (by decide)) (l_cons (v_callB (c_isaH c (T.xh_InvalidName _)) (by rfl) T.z_isinstance (by decide +kernel) (l_cons (v_var (i := 0) rfl (by leaf_len) (by decide) (by decide)) (l_cons (v_glob (by rfl) (glob_cls (c := 122) T.kx_NoAnswer) (by decide)) l_nil rfl) rfl) rfl (by decide) (by decide)) l_nil rfl) rfl) rfl) (by decide)) rfl (.inl rfl)) (ss_cons (s_setH (i := 4) c rfl (by mem_news) (v_ite (b_cmp o_eqI (v_lcnt c.cK (by have := c.room.un; omega) (v_var (i := 2) rfl (by leaf_len) (by decide) (by decide)) v_bool rfl rfl rfl rfl) v_int rfl) (v_lidx c.cK (by have := c.room.un; omega) (v_var (i := 2) rfl (by leaf_len) (by decide) (by decide)) v_bool rfl rfl rfl rfl) (v_neg v_int)) rfl (.inl rfl)) (ss_cons (s_if (b_of (w_or (b_cmp o_lt (v_var (i := 4) rfl (by leaf_len) (by decide) (by decide)) v_int rfl) (w_or1 (b_cmp (o_neU c.cK (by have := c.room.un; omega)) (v_var (i := 3) rfl (by leaf_len) (by decide) (by decide)) (v_lst (l_cons (v_cmp o_lt (v_var (i := 4) rfl (by leaf_len) (by decide) (by decide)) v_int rfl) (l_cons (v_chain' (o_lt) (o_lt) v_int (v_var (i := 4) rfl (by leaf_len) (by decide) (by decide)) v_int rfl) (l_cons (v_cmp o_gt (v_var (i := 4) rfl (by leaf_len) (by decide) (by decide)) v_int rfl) l_nil rfl) rfl) rfl) (by decide)) rfl)))) (ss_cons (s_ret (v_tup (l_cons v_str (l_cons (v_callB (c_reprH c rfl) (by rfl) T.z_repr (by decide +kernel) (l_cons (v_var (i := 2) rfl (by leaf_len) (by decide) (by decide)) l_nil rfl) rfl (by decide) (by decide)) l_nil rfl) rfl) (by decide))) ss_nil) (ss_nil)) (ss_cons (s_if (b_of (w_or (b_cmp o_lt (v_var (i := 4) rfl (by leaf_len) (by decide) (by decide)) v_int rfl) (w_or1 (b_cmp o_eqI (v_var (i := 4) rfl (by leaf_len) (by decide) (by decide)) v_int rfl)))) (ss_cons (s_ret (v_tup (l_cons (v_ix c.cK (v_var (i := 1) rfl (by leaf_len) (by decide) (by decide)) (v_var (i := 4) rfl (by leaf_len) (by decide) (by decide)) rfl) (l_cons (v_callB (c_reprH c rfl) (by rfl) T.z_repr (by decide +kernel) (l_cons (v_attrH c T.xf_InvalidName T.xn_InvalidName_given (v_var (i := 0) rfl (by leaf_len) (by decide) (by decide)) rfl) l_nil rfl) rfl (by decide) (by decide)) l_nil rfl) rfl) (by decide))) ss_nil) (ss_nil)) (ss_cons (s_if (b_cmp (o_inU c.cK (by have := c.room.un; omega)) (v_var (i := 4) rfl (by leaf_len) (by decide) (by decide)) (v_lst (l_cons v_int (l_cons v_int (l_cons v_int l_nil rfl) rfl) rfl) (by decide)) rfl) (ss_cons (s_ret (v_tup (l_cons (v_ix c.cK (v_var (i := 1) rfl (by leaf_len) (by decide) (by decide)) (v_var (i := 4) rfl (by leaf_len) (by decide) (by decide)) rfl) (l_cons (v_callB (c_reprH c rfl) (by rfl) T.z_repr (by decide +kernel) (l_cons (v_attrH c T.xf_InvalidName T.xn_InvalidName_index (v_var (i := 0) rfl (by leaf_len) (by decide) (by decide)) rfl) l_nil rfl) rfl (by decide) (by decide)) l_nil rfl) rfl) (by decide))) ss_nil) (ss_nil)) (ss_cons (s_ret (v_tup (l_cons (v_ix c.cK (v_var (i := 1) rfl (by leaf_len) (by decide) (by decide)) (v_var (i := 4) rfl (by leaf_len) (by decide) (by decide)) rfl) (l_cons (v_ite (b_cmp o_eqI (v_var (i := 4) rfl (by leaf_len) (by decide) (by decide)) v_int rfl) (v_callB (c_reprH c rfl) (by rfl) T.z_repr (by decide +kernel) (l_cons (v_attrH c T.xf_InvalidName T.xn_InvalidName_most (v_var (i := 0) rfl (by leaf_len) (by decide) (by decide)) rfl) l_nil rfl) rfl (by decide) (by decide)) v_str) l_nil rfl) rfl) (by decide))) ss_nil))))))))))))⟩
theorem okh__law_error_InvalidName (T : Facts P w K mg base ad) : FnHA P w K mg base (GG true K ad) 1 (ad 42) (ad 1106) (fun a dd => runFn 1 5 (pkh__law_error_InvalidName.1 a dd)) := by
  obtain ⟨fd, F⟩ := T.f__law_error
  exact fnh_rule F sc__law_error (F.binds fun _ _ _ _ _ _ us hl => match us, hl with | [_], _ => rfl) rfl (pkh__law_error_InvalidName.2 P w K mg base ad T) rfl rfl (by decide)
theorem cod_InvalidName : ∀ (a dd : Addr) (d u : D) (S : List Ob), dRepr d = M.pure u → runFn 1 5 (pkh__law_error_InvalidName.1 a dd) [.raw (.ref a) dd ["given"] [d]] S = some (.ok (.tup [.str "InvalidName", u]), S) := by
  intro a dd d u S h
  have hc : lm2 cntF (.lst [.bl false, .bl false, .bl false, .bl false, .bl false, .bl true, .bl false, .bl false, .bl false, .bl false, .bl false, .bl false, .bl false, .bl false, .bl false]) (.bl true) = M.pure (.int 1) := by kernel_rfl
  have hi : lm2 idxF (.lst [.bl false, .bl false, .bl false, .bl false, .bl false, .bl true, .bl false, .bl false, .bl false, .bl false, .bl false, .bl false, .bl false, .bl false, .bl false]) (.bl true) = M.pure (.int 5) := by kernel_rfl
  have hl : isLst (.lst [.bl false, .bl false, .bl false, .bl false, .bl false, .bl true, .bl false, .bl false, .bl false, .bl false, .bl false, .bl false, .bl false, .bl false, .bl false]) = M.pure () := by rfl
  have he : dEq true (.lst [.bl true, .bl false, .bl false]) (.lst [.bl true, .bl false, .bl false]) = M.pure (.bl false) := by kernel_rfl
  have hx : dIx (.lst [.str "NotAPattern", .str "NotARun", .str "InvalidResistance", .str "InvalidCount", .str "InvalidText", .str "InvalidName", .str "InvalidClaim", .str "InvalidIndex", .str "InvalidDeeds", .str "UnknownName", .str "InUse", .str "TooMany", .str "Broken", .str "NoLimit", .str "NothingToUndo"]) (.int 5) = M.pure (.str "InvalidName") := by kernel_rfl
  have hn : dInD (.int 5) (.lst [.int 8, .int 10, .int 12]) = M.pure (.bl false) := by kernel_rfl
  simp [runFn, pkh__law_error_InvalidName, seqS, asgS, exS, setT, getv, slots, M.bind, M.pure, on2, on1, isaH_at, isaC, isS, isB, attrH_at, h, wd_add, wd_spl, isStr, hl, hc, hi, he, hx, hn, da_lst, dCmpI, dEqI, chainD, toB, nextS, retS, noErr]
  rfl
def pkh__law_error_NotAPattern : Σ' ms : Addr → Addr → MS, ∀ (P : Program) (w : World) (K : PySem.W.Frag) (mg : Str → Option Value) (base : Heap) (ad : Nat → Addr), Facts P w K mg base ad → BodyH P w K mg base (GG true K ad) 0 (ad 42) (ad 1100) ["_law_e", "_law_words", "_law_sorts", "_law_bases", "_law_at"] "_law_error" st__law_error ms :=
  ⟨_, fun P w K mg base ad T cdv A fr s H a dd o c => ss_cons (s_setH (i := 1) c rfl (by mem_news) v_str rfl (.inl rfl)) (ss_cons (s_setH (i := 1) c rfl (by mem_news) (v_split (v_bin (o_add c.cK) (v_var (i := 1) rfl (by leaf_len) (by decide) (by decide)) v_str) v_str rfl rfl rfl) rfl (.inl rfl)) (ss_cons (s_setH (i := 2) c rfl (by mem_news) (v_lst (l_cons (v_callB (c_isaH c (T.xh_NotAPattern _)) (by rfl) T.z_isinstance (by decide +kernel) (l_cons (v_var (i := 0) rfl (by leaf_len) (by decide) (by decide)) (l_cons (v_glob (by rfl) (glob_cls (c := 100) T.kx_NotAPattern) (by decide)) l_nil rfl) rfl) rfl (by decide) (by decide)) (l_cons (v_callB (c_isaH c (T.xh_NotAPattern _)) (by rfl) T.z_isinstance (by decide +kernel) (l_cons (v_var (i := 0) rfl (by leaf_len) (by decide) (by decide)) (l_cons (v_glob (by rfl) (glob_cls (c := 101) T.kx_NotARun) (by decide)) l_nil rfl) rfl) rfl (by decide) (by decide)) (l_cons (v_callB (c_isaH c (T.xh_NotAPattern _)) (by rfl) T.z_isinstance (by decide +kernel) (l_cons (v_var (i := 0) rfl (by leaf_len) (by decide) (by decide)) (l_cons (v_glob (by rfl) (glob_cls (c := 102) T.kx_InvalidResistance) (by decide)) l_nil rfl) rfl) rfl (by decide) (by decide)) l_nil rfl) rfl) rfl) (by decide)) rfl (.inl rfl)) (ss_cons (s_setH (i := 2) c rfl (by mem_news) (v_bin (o_add c.cK) (v_var (i := 2) rfl (by leaf_len) (by decide) (by decide)) (v_lst (l_cons (v_callB (c_isaH c (T.xh_NotAPattern _)) (by rfl) T.z_isinstance (by decide +kernel) (l_cons (v_var (i := 0) rfl (by leaf_len) (by decide) (by decide)) (l_cons (v_glob (by rfl) (glob_cls (c := 103) T.kx_InvalidCount) (by decide)) l_nil rfl) rfl) rfl (by decide) (by decide)) (l_cons (v_callB (c_isaH c (T.xh_NotAPattern _)) (by rfl) T.z_isinstance (by decide +kernel) (l_cons (v_var (i := 0) rfl (by leaf_len) (by decide) (by decide)) (l_cons (v_glob (by rfl) (glob_cls (c := 105) T.kx_InvalidText) (by decide)) l_nil rfl) rfl) rfl (by decide) (by decide)) (l_cons (v_callB (c_isaH c (T.xh_NotAPattern _)) (by rfl) T.z_isinstance (by decide +kernel) (l_cons (v_var (i := 0) rfl (by leaf_len) (by decide) (by decide)) (l_cons (v_glob (by rfl) (glob_cls (c := 106) T.kx_InvalidName) (by decide)) l_nil rfl) rfl) rfl (by decide) (by decide)) l_nil rfl) rfl) rfl) (by decide))) rfl (.inl rfl)) (ss_cons (s_setH (i := 2) c rfl (by mem_news) (v_bin (o_add c.cK) (v_var (i := 2) rfl (by leaf_len) (by decide) (by decide)) (v_lst (l_cons (v_callB (c_isaH c (T.xh_NotAPattern _)) (by rfl) T.z_isinstance (by decide +kernel) (l_cons (v_var (i := 0) rfl (by leaf_len) (by decide) (by decide)) (l_cons (v_glob (by rfl) (glob_cls (c := 107) T.kx_InvalidClaim) (by decide)) l_nil rfl) rfl) rfl (by decide) (by decide)) (l_cons (v_callB (c_isaH c (T.xh_NotAPattern _)) (by rfl) T.z_isinstance (by decide +kernel) (l_cons (v_var (i := 0) rfl (by leaf_len) (by decide) (by decide)) (l_cons (v_glob (by rfl) (glob_cls (c := 108) T.kx_InvalidIndex) (by decide)) l_nil rfl) rfl) rfl (by decide) (by decide)) (l_cons (v_callB (c_isaH c (T.xh_NotAPattern _)) (by rfl) T.z_isinstance (by decide +kernel) (l_cons (v_var (i := 0) rfl (by leaf_len) (by decide) (by decide)) (l_cons (v_glob (by rfl) (glob_cls (c := 112) T.kx_InvalidDeeds) (by decide)) l_nil rfl) rfl) rfl (by decide) (by decide)) l_nil rfl) rfl) rfl) (by decide))) rfl (.inl rfl)) (ss_cons (s_setH (i := 2) c rfl (by mem_news) (v_bin (o_add c.cK) (v_var (i := 2) rfl (by leaf_len) (by decide) (by decide)) (v_lst (l_cons (v_callB (c_isaH c (T.xh_NotAPattern _)) (by rfl) T.z_isinstance (by decide +kernel) (l_cons (v_var (i := 0) rfl (by leaf_len) (by decide) (by decide)) (l_cons (v_glob (by rfl) (glob_cls (c := 113) T.kx_UnknownName) (by decide)) l_nil rfl) rfl) rfl (by decide) (by decide)) (l_cons (v_callB (c_isaH c (T.xh_NotAPattern _)) (by rfl) T.z_isinstance (by decide +kernel) (l_cons (v_var (i := 0) rfl (by leaf_len) (by decide) (by decide)) (l_cons (v_glob (by rfl) (glob_cls (c := 114) T.kx_InUse) (by decide)) l_nil rfl) rfl) rfl (by decide) (by decide)) (l_cons (v_callB (c_isaH c (T.xh_NotAPattern _)) (by rfl) T.z_isinstance (by decide +kernel) (l_cons (v_var (i := 0) rfl (by leaf_len) (by decide) (by decide)) (l_cons (v_glob (by rfl) (glob_cls (c := 115) T.kx_TooMany) (by decide)) l_nil rfl) rfl) rfl (by decide) (by decide)) l_nil rfl) rfl) rfl) (by decide))) rfl (.inl rfl)) (ss_cons (s_setH (i := 2) c rfl (by mem_news) (v_bin (o_add c.cK) (v_var (i := 2) rfl (by leaf_len) (by decide) (by decide)) (v_lst (l_cons (v_callB (c_isaH c (T.xh_NotAPattern _)) (by rfl) T.z_isinstance (by decide +kernel) (l_cons (v_var (i := 0) rfl (by leaf_len) (by decide) (by decide)) (l_cons (v_glob (by rfl) (glob_cls (c := 116) T.kx_Broken) (by decide)) l_nil rfl) rfl) rfl (by decide) (by decide)) (l_cons (v_callB (c_isaH c (T.xh_NotAPattern _)) (by rfl) T.z_isinstance (by decide +kernel) (l_cons (v_var (i := 0) rfl (by leaf_len) (by decide) (by decide)) (l_cons (v_glob (by rfl) (glob_cls (c := 117) T.kx_NoLimit) (by decide)) l_nil rfl) rfl) rfl (by decide) (by decide)) (l_cons (v_callB (c_isaH c (T.xh_NotAPattern _)) (by rfl) T.z_isinstance (by decide +kernel) (l_cons (v_var (i := 0) rfl (by leaf_len) (by decide) (by decide)) (l_cons (v_glob (by rfl) (glob_cls (c := 118) T.kx_NothingToUndo) (by decide)) l_nil rfl) rfl) rfl (by decide) (by decide)) l_nil rfl) rfl) rfl) (by decide))) rfl (.inl rfl)) (ss_cons (s_setH (i := 3) c rfl (by mem_news) (v_lst (l_cons (v_callB (c_isaH c (T.xh_NotAPattern _)) (by rfl) T.z_isinstance (by decide +kernel) (l_cons (v_var (i := 0) rfl (by leaf_len) (by decide) (by decide)) (l_cons (v_glob (by rfl) (glob_cls (c := 120) T.kx_WrongValue) (by decide)) l_nil rfl) rfl) rfl (by decide) (by decide)) (l_cons (v_callB (c_isaH c (T.xh_NotAPattern _)) (by rfl) T.z_isinstance (by decide +kernel) (l_cons (v_var (i := 0) rfl (by leaf_len) (by decide) (by decide)) (l_cons (v_glob (by rfl) (glob_cls (c := 121) T.kx_WrongName) (by decide)) l_nil rfl) rfl) rfl (by decide) (by decide)) (l_cons (v_callB (c_isaH c (T.xh_NotAPattern _)) (by rfl) T.z_isinstance (by decide +kernel) (l_cons (v_var (i := 0) rfl (by leaf_len) (by decide) (by decide)) (l_cons (v_glob (by rfl) (glob_cls (c := 122) T.kx_NoAnswer) (by decide)) l_nil rfl) rfl) rfl (by decide) (by decide)) l_nil rfl) rfl) rfl) (by decide)) rfl (.inl rfl)) (ss_cons (s_setH (i := 4) c rfl (by mem_news) (v_ite (b_cmp o_eqI (v_lcnt c.cK (by have := c.room.un; omega) (v_var (i := 2) rfl (by leaf_len) (by decide) (by decide)) v_bool rfl rfl rfl rfl) v_int rfl) (v_lidx c.cK (by have := c.room.un; omega) (v_var (i := 2) rfl (by leaf_len) (by decide) (by decide)) v_bool rfl rfl rfl rfl) (v_neg v_int)) rfl (.inl rfl)) (ss_cons (s_if (b_of (w_or (b_cmp o_lt (v_var (i := 4) rfl (by leaf_len) (by decide) (by decide)) v_int rfl) (w_or1 (b_cmp (o_neU c.cK (by have := c.room.un; omega)) (v_var (i := 3) rfl (by leaf_len) (by decide) (by decide)) (v_lst (l_cons (v_cmp o_lt (v_var (i := 4) rfl (by leaf_len) (by decide) (by decide)) v_int rfl) (l_cons (v_chain' (o_lt) (o_lt) v_int (v_var (i := 4) rfl (by leaf_len) (by decide) (by decide)) v_int rfl) (l_cons (v_cmp o_gt (v_var (i := 4) rfl (by leaf_len) (by decide) (by decide)) v_int rfl) l_nil rfl) rfl) rfl) (by decide)) rfl)))) (ss_cons (s_ret (v_tup (l_cons v_str (l_cons (v_callB (c_reprH c rfl) (by rfl) T.z_repr (by decide +kernel) (l_cons (v_var (i := 2) rfl (by leaf_len) (by decide) (by decide)) l_nil rfl) rfl (by decide) (by decide)) l_nil rfl) rfl) (by decide))) ss_nil) (ss_nil)) (ss_cons (s_if (b_of (w_or (b_cmp o_lt (v_var (i := 4) rfl (by leaf_len) (by decide) (by decide)) v_int rfl) (w_or1 (b_cmp o_eqI (v_var (i := 4) rfl (by leaf_len) (by decide) (by decide)) v_int rfl)))) (ss_cons (s_ret (v_tup (l_cons (v_ix c.cK (v_var (i := 1) rfl (by leaf_len) (by decide) (by decide)) (v_var (i := 4) rfl (by leaf_len) (by decide) (by decide)) rfl) (l_cons (v_callB (c_reprH c rfl) (by rfl) T.z_repr (by decide +kernel) (l_cons (v_attrH c T.xf_NotAPattern T.xn_NotAPattern_given (v_var (i := 0) rfl (by leaf_len) (by decide) (by decide)) rfl) l_nil rfl) rfl (by decide) (by decide)) l_nil rfl) rfl) (by decide))) ss_nil) (ss_nil)) (ss_cons (s_if (b_cmp (o_inU c.cK (by have := c.room.un; omega)) (v_var (i := 4) rfl (by leaf_len) (by decide) (by decide)) (v_lst (l_cons v_int (l_cons v_int (l_cons v_int l_nil rfl) rfl) rfl) (by decide)) rfl) (ss_cons (s_ret (v_tup (l_cons (v_ix c.cK (v_var (i := 1) rfl (by leaf_len) (by decide) (by decide)) (v_var (i := 4) rfl (by leaf_len) (by decide) (by decide)) rfl) (l_cons (v_callB (c_reprH c rfl) (by rfl) T.z_repr (by decide +kernel) (l_cons (v_attrH c T.xf_NotAPattern T.xn_NotAPattern_index (v_var (i := 0) rfl (by leaf_len) (by decide) (by decide)) rfl) l_nil rfl) rfl (by decide) (by decide)) l_nil rfl) rfl) (by decide))) ss_nil) (ss_nil)) (ss_cons (s_ret (v_tup (l_cons (v_ix c.cK (v_var (i := 1) rfl (by leaf_len) (by decide) (by decide)) (v_var (i := 4) rfl (by leaf_len) (by decide) (by decide)) rfl) (l_cons (v_ite (b_cmp o_eqI (v_var (i := 4) rfl (by leaf_len) (by decide) (by decide)) v_int rfl) (v_callB (c_reprH c rfl) (by rfl) T.z_repr (by decide +kernel) (l_cons (v_attrH c T.xf_NotAPattern T.xn_NotAPattern_most (v_var (i := 0) rfl (by leaf_len) (by decide) (by decide)) rfl) l_nil rfl) rfl (by decide) (by decide)) v_str) l_nil rfl) rfl) (by decide))) ss_nil))))))))))))⟩
theorem okh__law_error_NotAPattern (T : Facts P w K mg base ad) : FnHA P w K mg base (GG true K ad) 1 (ad 42) (ad 1100) (fun a dd => runFn 1 5 (pkh__law_error_NotAPattern.1 a dd)) := by
  obtain ⟨fd, F⟩ := T.f__law_error
  exact fnh_rule F sc__law_error (F.binds fun _ _ _ _ _ _ us hl => match us, hl with | [_], _ => rfl) rfl (pkh__law_error_NotAPattern.2 P w K mg base ad T) rfl rfl (by decide)
theorem cod_NotAPattern : ∀ (a dd : Addr) (d u : D) (S : List Ob), dRepr d = M.pure u → runFn 1 5 (pkh__law_error_NotAPattern.1 a dd) [.raw (.ref a) dd ["given"] [d]] S = some (.ok (.tup [.str "NotAPattern", u]), S) := by
  intro a dd d u S h
  have hc : lm2 cntF (.lst [.bl true, .bl false, .bl false, .bl false, .bl false, .bl false, .bl false, .bl false, .bl false, .bl false, .bl false, .bl false, .bl false, .bl false, .bl false]) (.bl true) = M.pure (.int 1) := by kernel_rfl
  have hi : lm2 idxF (.lst [.bl true, .bl false, .bl false, .bl false, .bl false, .bl false, .bl false, .bl false, .bl false, .bl false, .bl false, .bl false, .bl false, .bl false, .bl false]) (.bl true) = M.pure (.int 0) := by kernel_rfl
  have hl : isLst (.lst [.bl true, .bl false, .bl false, .bl false, .bl false, .bl false, .bl false, .bl false, .bl false, .bl false, .bl false, .bl false, .bl false, .bl false, .bl false]) = M.pure () := by rfl
  have he : dEq true (.lst [.bl true, .bl false, .bl false]) (.lst [.bl true, .bl false, .bl false]) = M.pure (.bl false) := by kernel_rfl
  have hx : dIx (.lst [.str "NotAPattern", .str "NotARun", .str "InvalidResistance", .str "InvalidCount", .str "InvalidText", .str "InvalidName", .str "InvalidClaim", .str "InvalidIndex", .str "InvalidDeeds", .str "UnknownName", .str "InUse", .str "TooMany", .str "Broken", .str "NoLimit", .str "NothingToUndo"]) (.int 0) = M.pure (.str "NotAPattern") := by kernel_rfl
  have hn : dInD (.int 0) (.lst [.int 8, .int 10, .int 12]) = M.pure (.bl false) := by kernel_rfl
  simp [runFn, pkh__law_error_NotAPattern, seqS, asgS, exS, setT, getv, slots, M.bind, M.pure, on2, on1, isaH_at, isaC, isS, isB, attrH_at, h, wd_add, wd_spl, isStr, hl, hc, hi, he, hx, hn, da_lst, dCmpI, dEqI, chainD, toB, nextS, retS, noErr]
  rfl
def pks__law_told_UnknownName : Σ' m : Addr → Addr → MS, ∀ (P : Program) (w : World) (K : PySem.W.Frag) (mg : Str → Option Value) (base : Heap) (ad : Nat → Addr), Facts P w K mg base ad → ∀ (k : Nat) (cdv : Value) (A : Around) (fr : List Env) (s : Shared) (H : Hp) (a : Addr) (oe : Obj) (dd : Addr) (pn : List (Addr × Obj)), CtxH (GG true K ad) ((XC P w K mg base ["_law_act", "_law_found", "_law_e"] "_law_told" st__law_told (ad 43) cdv A fr s H).nox.suite a ((a, oe) :: pn)) (k + 1) a dd (ad 1113) →
    PSsV (GG true K ad) ((XC P w K mg base ["_law_act", "_law_found", "_law_e"] "_law_told" st__law_told (ad 43) cdv A fr s H).nox.suite a ((a, oe) :: pn)) NoW (excS2 st__law_told) (m a dd) :=
  ⟨_, fun P w K mg base ad T k cdv A fr s H a oe dd pn c => ss_cons (s_ret (v_callH c ((okh__law_error_UnknownName T).mono (by omega)) (by rfl) T.g__law_error (l_cons (v_var (i := 2) rfl (by leaf_len) (by decide) (by decide)) l_nil rfl) rfl (by decide))) ss_nil⟩
theorem tel_UnknownName : ∀ (a dd : Addr) (d u : D) (S : List Ob), dRepr d = M.pure u → pks__law_told_UnknownName.1 a dd ((slots 3 []).set 2 (.val (.raw (.ref a) dd ["given"] [d]))) S = some (.ret (.tup [.str "UnknownName", u]), S) := by
  intro a dd d u S h
  simp [pks__law_told_UnknownName, seqS, exS, getv, slots, M.bind, M.pure, noErr, cod_UnknownName _ _ _ _ _ h, retS, nextS]
def pks__law_told_InvalidText : Σ' m : Addr → Addr → MS, ∀ (P : Program) (w : World) (K : PySem.W.Frag) (mg : Str → Option Value) (base : Heap) (ad : Nat → Addr), Facts P w K mg base ad → ∀ (k : Nat) (cdv : Value) (A : Around) (fr : List Env) (s : Shared) (H : Hp) (a : Addr) (oe : Obj) (dd : Addr) (pn : List (Addr × Obj)), CtxH (GG true K ad) ((XC P w K mg base ["_law_act", "_law_found", "_law_e"] "_law_told" st__law_told (ad 43) cdv A fr s H).nox.suite a ((a, oe) :: pn)) (k + 1) a dd (ad 1105) →
    PSsV (GG true K ad) ((XC P w K mg base ["_law_act", "_law_found", "_law_e"] "_law_told" st__law_told (ad 43) cdv A fr s H).nox.suite a ((a, oe) :: pn)) NoW (excS2 st__law_told) (m a dd) :=
  ⟨_, fun P w K mg base ad T k cdv A fr s H a oe dd pn c => ss_cons (s_ret (v_callH c ((okh__law_error_InvalidText T).mono (by omega)) (by rfl) T.g__law_error (l_cons (v_var (i := 2) rfl (by leaf_len) (by decide) (by decide)) l_nil rfl) rfl (by decide))) ss_nil⟩
theorem tel_InvalidText : ∀ (a dd : Addr) (d u : D) (S : List Ob), dRepr d = M.pure u → pks__law_told_InvalidText.1 a dd ((slots 3 []).set 2 (.val (.raw (.ref a) dd ["given"] [d]))) S = some (.ret (.tup [.str "InvalidText", u]), S) := by
  intro a dd d u S h
  simp [pks__law_told_InvalidText, seqS, exS, getv, slots, M.bind, M.pure, noErr, cod_InvalidText _ _ _ _ _ h, retS, nextS]
def pks__law_told_InvalidName : Σ' m : Addr → Addr → MS, ∀ (P : Program) (w : World) (K : PySem.W.Frag) (mg : Str → Option Value) (base : Heap) (ad : Nat → Addr), Facts P w K mg base ad → ∀ (k : Nat) (cdv : Value) (A : Around) (fr : List Env) (s : Shared) (H : Hp) (a : Addr) (oe : Obj) (dd : Addr) (pn : List (Addr × Obj)), CtxH (GG true K ad) ((XC P w K mg base ["_law_act", "_law_found", "_law_e"] "_law_told" st__law_told (ad 43) cdv A fr s H).nox.suite a ((a, oe) :: pn)) (k + 1) a dd (ad 1106) →
    PSsV (GG true K ad) ((XC P w K mg base ["_law_act", "_law_found", "_law_e"] "_law_told" st__law_told (ad 43) cdv A fr s H).nox.suite a ((a, oe) :: pn)) NoW (excS2 st__law_told) (m a dd) :=
  ⟨_, fun P w K mg base ad T k cdv A fr s H a oe dd pn c => ss_cons (s_ret (v_callH c ((okh__law_error_InvalidName T).mono (by omega)) (by rfl) T.g__law_error (l_cons (v_var (i := 2) rfl (by leaf_len) (by decide) (by decide)) l_nil rfl) rfl (by decide))) ss_nil⟩
theorem tel_InvalidName : ∀ (a dd : Addr) (d u : D) (S : List Ob), dRepr d = M.pure u → pks__law_told_InvalidName.1 a dd ((slots 3 []).set 2 (.val (.raw (.ref a) dd ["given"] [d]))) S = some (.ret (.tup [.str "InvalidName", u]), S) := by
  intro a dd d u S h
  simp [pks__law_told_InvalidName, seqS, exS, getv, slots, M.bind, M.pure, noErr, cod_InvalidName _ _ _ _ _ h, retS, nextS]
def pks__law_told_NotAPattern : Σ' m : Addr → Addr → MS, ∀ (P : Program) (w : World) (K : PySem.W.Frag) (mg : Str → Option Value) (base : Heap) (ad : Nat → Addr), Facts P w K mg base ad → ∀ (k : Nat) (cdv : Value) (A : Around) (fr : List Env) (s : Shared) (H : Hp) (a : Addr) (oe : Obj) (dd : Addr) (pn : List (Addr × Obj)), CtxH (GG true K ad) ((XC P w K mg base ["_law_act", "_law_found", "_law_e"] "_law_told" st__law_told (ad 43) cdv A fr s H).nox.suite a ((a, oe) :: pn)) (k + 1) a dd (ad 1100) →
    PSsV (GG true K ad) ((XC P w K mg base ["_law_act", "_law_found", "_law_e"] "_law_told" st__law_told (ad 43) cdv A fr s H).nox.suite a ((a, oe) :: pn)) NoW (excS2 st__law_told) (m a dd) :=
  ⟨_, fun P w K mg base ad T k cdv A fr s H a oe dd pn c => ss_cons (s_ret (v_callH c ((okh__law_error_NotAPattern T).mono (by omega)) (by rfl) T.g__law_error (l_cons (v_var (i := 2) rfl (by leaf_len) (by decide) (by decide)) l_nil rfl) rfl (by decide))) ss_nil⟩
theorem tel_NotAPattern : ∀ (a dd : Addr) (d u : D) (S : List Ob), dRepr d = M.pure u → pks__law_told_NotAPattern.1 a dd ((slots 3 []).set 2 (.val (.raw (.ref a) dd ["given"] [d]))) S = some (.ret (.tup [.str "NotAPattern", u]), S) := by
  intro a dd d u S h
  simp [pks__law_told_NotAPattern, seqS, exS, getv, slots, M.bind, M.pure, noErr, cod_NotAPattern _ _ _ _ _ h, retS, nextS]
def msX : Nat → Option (Addr → Addr → MS) := tab [(13, pks__law_told_UnknownName.1), (5, pks__law_told_InvalidText.1), (6, pks__law_told_InvalidName.1), (0, pks__law_told_NotAPattern.1)]
def tcX : Nat → D → M D := fun c d => match c with | 13 => tellE "UnknownName" d | 5 => tellE "InvalidText" d | 6 => tellE "InvalidName" d | 0 => tellE "NotAPattern" d | _ => M.stuck
theorem tcX_at : ∀ (c : Nat) (d : D) (S : List Ob) (o : Except Exn D × List Ob), tcX c d S = some o → ∃ m u S', msX c = some m ∧ o = (.ok u, S') ∧ ∀ a dd, m a dd ((slots 3 []).set 2 (.val (.raw (.ref a) dd [xfld c] [d]))) S = some (.ret u, S') := by
  intro c d S o h
  unfold tcX at h
  split at h
  · obtain ⟨u, h1, rfl⟩ := tellE_at h
    exact ⟨_, _, _, rfl, rfl, fun a dd => tel_UnknownName a dd d u S h1⟩
  · obtain ⟨u, h1, rfl⟩ := tellE_at h
    exact ⟨_, _, _, rfl, rfl, fun a dd => tel_InvalidText a dd d u S h1⟩
  · obtain ⟨u, h1, rfl⟩ := tellE_at h
    exact ⟨_, _, _, rfl, rfl, fun a dd => tel_InvalidName a dd d u S h1⟩
  · obtain ⟨u, h1, rfl⟩ := tellE_at h
    exact ⟨_, _, _, rfl, rfl, fun a dd => tel_NotAPattern a dd d u S h1⟩
  · cases h
theorem T_caught (T : Facts P w K mg base ad) (k : Nat) (hk : 4 ≤ k) : ToldT P w K mg base (GG true K ad) (k + 1) (ad 43) "_law_told" "told" (reprX (tab [(1, sem_PatternX_reprX)])) tcX := by
  obtain ⟨fd, F⟩ := T.f__law_told
  refine ⟨fd, st__law_told, ["_law_act", "_law_found", "_law_e"], "_law_act", "_law_found", "_law_e", "WrongValue", "WrongName", "NoAnswer", .ref (ad 1120), .ref (ad 1121), .ref (ad 1122), 2, 1, _, _, msX, F, F.binds fun _ _ _ _ _ _ us hl => (match us, hl with | [_], _ => rfl), sc__law_told, ⟨_, _, _, _, _, _, _, _, _, _, _, _, _, _, _, _, _, _, _, rfl⟩, rfl, rfl, by decide, by decide, rfl, by leaf_len, by decide, by decide, rfl, by decide, by decide +kernel, fun cdv A fr s H => ⟨⟨by rfl, by decide, .inl T.kx_WrongValue⟩, ⟨by rfl, by decide, .inl T.kx_WrongName⟩, ⟨by rfl, by decide, .inl T.kx_NoAnswer⟩, by rfl⟩, T.z_repr, fun cdv A fr s H pn xe c => c_reprX c (T_repr_1 T ⟨rfl, rfl, rfl, rfl, rfl⟩ (Nat.le_succ_of_le hk)), tcX_at, ?_⟩
  intro c m hc
  exact (show ∀ (n : Nat) (g : Addr → Addr → MS), tab _ n = some g → PySem.W.exmAny K (.ref (ad (1100 + n))) [.ref (ad 1120), .ref (ad 1121), .ref (ad 1122)] = some true ∧ ∀ (cdv : Value) (A : Around) (fr : List Env) (s : Shared) (H : Hp) (a : Addr) (oe : Obj) (dd : Addr) (pn : List (Addr × Obj)), Rm true (k + 1 + 1) (A.deeper (envOfC "_law_told" (defScope st__law_told) s.heap.objs.size (ad 43) cdv)) → L2N.Zn (.ref (ad (1100 + n))) (some dd) oe → (∃ vs, oe.data = .fields vs) → PSsV (GG true K ad) ((XC P w K mg base ["_law_act", "_law_found", "_law_e"] "_law_told" st__law_told (ad 43) cdv A fr s H).nox.suite a ((a, oe) :: pn)) NoW (excS2 st__law_told) (g a dd) from (tab_cons ⟨T.xm_UnknownName, fun cdv A fr s H a oe dd pn hr hz hv => pks__law_told_UnknownName.2 P w K mg base ad T _ cdv A fr s H a oe dd pn (ctxSu rfl sc__law_told hr hz hv)⟩ (tab_cons ⟨T.xm_InvalidText, fun cdv A fr s H a oe dd pn hr hz hv => pks__law_told_InvalidText.2 P w K mg base ad T _ cdv A fr s H a oe dd pn (ctxSu rfl sc__law_told hr hz hv)⟩ (tab_cons ⟨T.xm_InvalidName, fun cdv A fr s H a oe dd pn hr hz hv => pks__law_told_InvalidName.2 P w K mg base ad T _ cdv A fr s H a oe dd pn (ctxSu rfl sc__law_told hr hz hv)⟩ (tab_cons ⟨T.xm_NotAPattern, fun cdv A fr s H a oe dd pn hr hz hv => pks__law_told_NotAPattern.2 P w K mg base ad T _ cdv A fr s H a oe dd pn (ctxSu rfl sc__law_told hr hz hv)⟩ tab_nil))))) c m hc
def pk_Bench_drop : Σ' ms : MS, ∀ (P : Program) (w : World) (K : PySem.W.Frag) (mg : Str → Option Value) (base : Heap) (ad : Nat → Addr) (b : Bool), Facts P w K mg base ad → Body P w K mg base (GG b K ad) 4 (ad 36) ["self", "name", "index", "claim", "other"] "Bench.drop" st_Bench_drop ms :=
  ⟨_, fun P w K mg base ad b T cdv A fr s H E c => ss_cons (s_expr (v_meth c (T_meth_check_known_11 T ⟨rfl, rfl, rfl, rfl, rfl⟩ (by decide)) (v_var (i := 0) rfl (by leaf_len) (by decide) (by decide)) (l_cons (v_var (i := 1) rfl (by leaf_len) (by decide) (by decide)) l_nil rfl) rfl rfl (by decide) rfl) rfl) (ss_never)⟩
def sem_Bench_drop : List D → M D := runFn 2 5 pk_Bench_drop.1
theorem ok_Bench_drop (T : Facts P w K mg base ad) : FnA P w K mg base (GG b K ad) 6 (ad 36) sem_Bench_drop := by
  obtain ⟨fd, F⟩ := T.f_Bench_drop
  exact fna_rule F sc_Bench_drop (F.binds fun _ _ _ _ _ _ us hl => match us, hl with | [_, _], _ => rfl) rfl (pk_Bench_drop.2 P w K mg base ad b T) rfl rfl (by decide)
theorem T_meth_drop_11 (T : Facts P w K mg base ad) {X : Cx} (h : Same X P w K mg base) {k : Nat} (hk : 6 ≤ k) : MethT X (GG b K ad) k "drop" (tab [(11, sem_Bench_drop)]) := by
  obtain ⟨rfl, rfl, rfl, rfl, rfl⟩ := h
  exact ⟨(tab_cons ⟨_, T.cl_Bench, T.t_Bench_Bench_drop, (ok_Bench_drop T).mono (Nat.le_trans (by decide) hk), (show ("drop" : Str) ∉ flds 11 by decide +kernel)⟩ tab_nil)⟩
def pk__law_refused_right : Σ' ms : MS, ∀ (P : Program) (w : World) (K : PySem.W.Frag) (mg : Str → Option Value) (base : Heap) (ad : Nat → Addr), Facts P w K mg base ad → BodyC P w K mg base (GG true K ad) 16 (ad 37) (ad 8000) ["_law_desk", "_law_kept", "_law_tape", "_law_thing", "_law_made", "_law_odd", "_law_due", "_law_is_known"] "_law_refused_right" st__law_refused_right ms :=
  ⟨_, fun P w K mg base ad T A fr s H E c => ss_cons (s_asg (v_tup (l_cons (v_calls (FnA.call c ((ok__law_anything T).mono (by decide))) (by rfl) T.g__law_anything (l_cons (v_var (i := 2) rfl (by leaf_len) (by decide) (by decide)) l_nil rfl) rfl (by decide)) (l_cons (v_calls (FnA.call c ((ok__law_pat T).mono (by decide))) (by rfl) T.g__law_pat (l_cons (v_calls (FnA.call c ((ok__law_anyrow T).mono (by decide))) (by rfl) T.g__law_anyrow (l_cons (v_var (i := 2) rfl (by leaf_len) (by decide) (by decide)) (l_cons v_int l_nil rfl) rfl) rfl (by decide)) l_nil rfl) rfl (by decide)) l_nil rfl) rfl) (by decide)) (g_tup c.cK c.calm (gs_cons (g_name (i := 3) c.nd rfl (by mem_news) (.inl rfl)) (gs_cons (g_name (i := 4) c.nd rfl (by mem_news) (.inl rfl)) gs_nil rfl) rfl) rfl rfl) rfl rfl rfl) (ss_cons (s_set (i := 5) c rfl (by mem_news) (v_ix c.cK (v_lst (l_cons v_none (l_cons v_str (l_cons (v_tup (l_cons (v_tup (l_cons v_str (l_cons v_int l_nil rfl) rfl) (by decide)) l_nil rfl) (by decide)) (l_cons (v_tup (l_cons v_str (l_cons v_int l_nil rfl) rfl) (by decide)) (l_cons v_int (l_cons v_bool (l_cons (v_lst l_nil (by decide)) (l_cons v_dict0 l_nil rfl) rfl) rfl) rfl) rfl) rfl) rfl) rfl) (by decide)) (v_calls (FnA.call c ((ok__law_pick T).mono (by decide))) (by rfl) T.g__law_pick (l_cons (v_var (i := 2) rfl (by leaf_len) (by decide) (by decide)) (l_cons v_int l_nil rfl) rfl) rfl (by decide)) rfl) rfl (.inl rfl)) (ss_cons (s_if (b_not (b_val (v_calls (FnA.call c ((ok__law_is_name T).mono (by decide))) (by rfl) T.g__law_is_name (l_cons (v_var (i := 3) rfl (by leaf_len) (by decide) (by decide)) l_nil rfl) rfl (by decide)) (fun _ => rfl))) (ss_cons (s_set (i := 6) c rfl (by mem_news) (v_tup (l_cons v_str (l_cons (v_callB (c_repr c.cK c.rm) (by rfl) T.z_repr (by decide +kernel) (l_cons (v_var (i := 3) rfl (by leaf_len) (by decide) (by decide)) l_nil rfl) rfl (by decide) (by decide)) l_nil rfl) rfl) (by decide)) rfl (.inl rfl)) (ss_cons (s_if (b_cmp (o_ne c.cK c.rm) (v_lamtold (j := 0) c (T_caught T _ (by decide)) (by rfl) T.g__law_told (by decide) T.tb_0 rfl (by first | rfl | decide +kernel) (LamX.lamS_by (sc := defScope st__law_refused_right) (by decide +kernel)) rfl (fun _ _ _ _ _ => rfl) (fun A outer s H E f c' c => (v_calls (FnA.call c ((ok__law_put T).mono (by decide))) (by rfl) T.g__law_put (l_cons (v_var (i := 0) rfl (by leaf_len) (by decide) (by decide)) (l_cons (v_var (i := 3) rfl (by leaf_len) (by decide) (by decide)) (l_cons (v_var (i := 4) rfl (by leaf_len) (by decide) (by decide)) l_nil rfl) rfl) rfl) rfl (by decide)))) (v_var (i := 6) rfl (by leaf_len) (by decide) (by decide)) rfl) (ss_cons (s_ret v_bool) ss_nil) (ss_nil)) (ss_cons (s_if (b_cmp (o_ne c.cK c.rm) (v_lamtold (j := 0) c (T_caught T _ (by decide)) (by rfl) T.g__law_told (by decide) T.tb_0 rfl (by first | rfl | decide +kernel) (LamX.lamS_by (sc := defScope st__law_refused_right) (by decide +kernel)) rfl (fun _ _ _ _ _ => rfl) (fun A outer s H E f c' c => (v_calls (FnA.call c ((ok__law_put T).mono (by decide))) (by rfl) T.g__law_put (l_cons (v_var (i := 0) rfl (by leaf_len) (by decide) (by decide)) (l_cons (v_var (i := 3) rfl (by leaf_len) (by decide) (by decide)) (l_cons (v_var (i := 5) rfl (by leaf_len) (by decide) (by decide)) l_nil rfl) rfl) rfl) rfl (by decide)))) (v_var (i := 6) rfl (by leaf_len) (by decide) (by decide)) rfl) (ss_cons (s_ret v_bool) ss_nil) (ss_nil)) (ss_nil)))) (ss_cons (s_if (b_cmp (o_ne c.cK c.rm) (v_lamtold (j := 0) c (T_caught T _ (by decide)) (by rfl) T.g__law_told (by decide) T.tb_0 rfl (by first | rfl | decide +kernel) (LamX.lamS_by (sc := defScope st__law_refused_right) (by decide +kernel)) rfl (fun _ _ _ _ _ => rfl) (fun A outer s H E f c' c => (v_calls (FnA.call c ((ok__law_put T).mono (by decide))) (by rfl) T.g__law_put (l_cons (v_var (i := 0) rfl (by leaf_len) (by decide) (by decide)) (l_cons (v_var (i := 3) rfl (by leaf_len) (by decide) (by decide)) (l_cons (v_var (i := 5) rfl (by leaf_len) (by decide) (by decide)) l_nil rfl) rfl) rfl) rfl (by decide)))) (v_tup (l_cons v_str (l_cons (v_callB (c_repr c.cK c.rm) (by rfl) T.z_repr (by decide +kernel) (l_cons (v_var (i := 5) rfl (by leaf_len) (by decide) (by decide)) l_nil rfl) rfl (by decide) (by decide)) l_nil rfl) rfl) (by decide)) rfl) (ss_cons (s_ret v_bool) ss_nil) (ss_nil)) (ss_nil))) (ss_cons (s_set (i := 7) c rfl (by mem_news) (v_and (v_callB (c_isa c.cK (T.isa _ _ rfl)) (by rfl) T.z_isinstance (by decide +kernel) (l_cons (v_var (i := 3) rfl (by leaf_len) (by decide) (by decide)) (l_cons (v_ty (t := .str) (by rfl) T.z_str (by decide +kernel) (by decide) (by decide)) l_nil rfl) rfl) rfl (by decide) (by decide)) (v_one (v_cmp (o_inDct c.rm) (v_var (i := 3) rfl (by leaf_len) (by decide) (by decide)) (v_var (i := 1) rfl (by leaf_len) (by decide) (by decide)) rfl))) rfl (.inl rfl)) (ss_cons (s_if (b_cmp (o_ne c.cK c.rm) (v_callB (c_repr c.cK c.rm) (by rfl) T.z_repr (by decide +kernel) (l_cons (v_cmp (o_ownIn c (T_spX_containsX_11 T ⟨rfl, rfl, rfl, rfl, rfl⟩ (by decide))) (v_var (i := 3) rfl (by leaf_len) (by decide) (by decide)) (v_var (i := 0) rfl (by leaf_len) (by decide) (by decide)) rfl) l_nil rfl) rfl (by decide) (by decide)) (v_callB (c_repr c.cK c.rm) (by rfl) T.z_repr (by decide +kernel) (l_cons (v_var (i := 7) rfl (by leaf_len) (by decide) (by decide)) l_nil rfl) rfl (by decide) (by decide)) rfl) (ss_cons (s_ret v_bool) ss_nil) (ss_nil)) (ss_cons (s_if (b_val (v_var (i := 7) rfl (by leaf_len) (by decide) (by decide)) (fun _ => rfl)) (ss_cons (s_ret (v_cmp (o_eq c.cK c.rm) (v_callB (c_repr c.cK c.rm) (by rfl) T.z_repr (by decide +kernel) (l_cons (v_attr c (T_attr_pieces_1 T ⟨rfl, rfl, rfl, rfl, rfl⟩ (by decide)) (v_getX c (T_get_11 T ⟨rfl, rfl, rfl, rfl, rfl⟩ (by decide)) (v_var (i := 0) rfl (by leaf_len) (by decide) (by decide)) (v_var (i := 3) rfl (by leaf_len) (by decide) (by decide)) rfl) rfl) l_nil rfl) rfl (by decide) (by decide)) (v_callB (c_repr c.cK c.rm) (by rfl) T.z_repr (by decide +kernel) (l_cons (v_ixDct c.rm (v_var (i := 1) rfl (by leaf_len) (by decide) (by decide)) (v_var (i := 3) rfl (by leaf_len) (by decide) (by decide)) rfl) l_nil rfl) rfl (by decide) (by decide)) rfl)) ss_nil) (ss_nil)) (ss_cons (s_set (i := 6) c rfl (by mem_news) (v_tup (l_cons v_str (l_cons (v_callB (c_repr c.cK c.rm) (by rfl) T.z_repr (by decide +kernel) (l_cons (v_var (i := 3) rfl (by leaf_len) (by decide) (by decide)) l_nil rfl) rfl (by decide) (by decide)) l_nil rfl) rfl) (by decide)) rfl (.inl rfl)) (ss_cons (s_if (b_cmp (o_ne c.cK c.rm) (v_lamtold (j := 0) c (T_caught T _ (by decide)) (by rfl) T.g__law_told (by decide) T.tb_0 rfl (by first | rfl | decide +kernel) (LamX.lamS_by (sc := defScope st__law_refused_right) (by decide +kernel)) rfl (fun _ _ _ _ _ => rfl) (fun A outer s H E f c' c => (v_getX c (T_get_11 T ⟨rfl, rfl, rfl, rfl, rfl⟩ (by decide)) (v_var (i := 0) rfl (by leaf_len) (by decide) (by decide)) (v_var (i := 3) rfl (by leaf_len) (by decide) (by decide)) rfl))) (v_var (i := 6) rfl (by leaf_len) (by decide) (by decide)) rfl) (ss_cons (s_ret v_bool) ss_nil) (ss_nil)) (ss_cons (s_ret (v_cmp (o_eq c.cK c.rm) (v_lamtold (j := 0) c (T_caught T _ (by decide)) (by rfl) T.g__law_told (by decide) T.tb_0 rfl (by first | rfl | decide +kernel) (LamX.lamS_by (sc := defScope st__law_refused_right) (by decide +kernel)) rfl (fun _ _ _ _ _ => rfl) (fun A outer s H E f c' c => (v_meth c (T_meth_drop_11 T ⟨rfl, rfl, rfl, rfl, rfl⟩ (by decide)) (v_var (i := 0) rfl (by leaf_len) (by decide) (by decide)) (l_cons (v_var (i := 3) rfl (by leaf_len) (by decide) (by decide)) l_nil rfl) rfl rfl (by decide) rfl))) (v_var (i := 6) rfl (by leaf_len) (by decide) (by decide)) rfl)) ss_nil))))))))⟩
def sem__law_refused_right : List D → M D := runFn 3 8 pk__law_refused_right.1
theorem ok__law_refused_right (T : Facts P w K mg base ad) : FnA P w K mg base (GG true K ad) 18 (ad 37) sem__law_refused_right := by
  obtain ⟨fd, F⟩ := T.f__law_refused_right
  exact fna_ruleC F sc__law_refused_right (F.fn.binds fun _ _ _ _ _ _ us hl => match us, hl with | [_, _, _], _ => rfl) rfl (pk__law_refused_right.2 P w K mg base ad T) rfl rfl (by decide)
def pk__law_right : Σ' ms : MS, ∀ (P : Program) (w : World) (K : PySem.W.Frag) (mg : Str → Option Value) (base : Heap) (ad : Nat → Addr), Facts P w K mg base ad → BodyC P w K mg base (GG true K ad) 18 (ad 38) (ad 8001) ["_law_tape", "_law_desk", "_law_kept", "_law_second", "_law_many", "_law_word", "_law_row", "_law_each"] "_law_right" st__law_right ms :=
  ⟨_, fun P w K mg base ad T A fr s H E c => ss_cons (s_asg (v_tup (l_cons (v_calls0 (ClA.call c ((mk_Bench T).mono (by decide))) (by rfl) T.k_Bench (by decide)) (l_cons v_newD (l_cons (v_calls0 (ClA.call c ((mk_Bench T).mono (by decide))) (by rfl) T.k_Bench (by decide)) l_nil rfl) rfl) rfl) (by decide)) (g_tup c.cK c.calm (gs_cons (g_name (i := 1) c.nd rfl (by mem_news) (.inl rfl)) (gs_cons (g_name (i := 2) c.nd rfl (by mem_news) (.inl rfl)) (gs_cons (g_name (i := 3) c.nd rfl (by mem_news) (.inl rfl)) gs_nil rfl) rfl) rfl) rfl rfl) rfl rfl rfl) (ss_cons (s_for c (i_rng1 (by rfl) T.z_range (l_cons (v_bin (o_add c.cK) v_int (v_calls (FnA.call c ((ok__law_pick T).mono (by decide))) (by rfl) T.g__law_pick (l_cons (v_var (i := 0) rfl (by leaf_len) (by decide) (by decide)) (l_cons v_int l_nil rfl) rfl) rfl (by decide))) l_nil rfl) rfl) (g_name (i := 4) c.nd rfl (by mem_news) (.inl rfl)) (ss_cons (s_asg (v_tup (l_cons (v_calls (FnA.call c ((ok__law_anyword T).mono (by decide))) (by rfl) T.g__law_anyword (l_cons (v_var (i := 0) rfl (by leaf_len) (by decide) (by decide)) (l_cons (v_strKeys (i := 2) (j := 7) c rfl (by leaf_len) (by decide) (by decide) (blkOk_by (N := ["_law_tape", "_law_desk", "_law_kept", "_law_second", "_law_many", "_law_word", "_law_row", "_law_each"]) (sc := defScope st__law_right) (by decide +kernel)) (fun _ _ _ _ _ => pg_name c.nd rfl (by mem_news) (.inr rfl)) (fun _ _ _ _ _ => pe_strV (by rfl) T.z_str rfl (by leaf_len) (by decide) (by decide))) l_nil rfl) rfl) rfl (by decide)) (l_cons (v_calls (FnA.call c ((ok__law_anyrow T).mono (by decide))) (by rfl) T.g__law_anyrow (l_cons (v_var (i := 0) rfl (by leaf_len) (by decide) (by decide)) (l_cons v_int l_nil rfl) rfl) rfl (by decide)) l_nil rfl) rfl) (by decide)) (g_tup c.cK c.calm (gs_cons (g_name (i := 5) c.nd rfl (by mem_news) (.inl rfl)) (gs_cons (g_name (i := 6) c.nd rfl (by mem_news) (.inl rfl)) gs_nil rfl) rfl) rfl rfl) rfl rfl rfl) (ss_cons (s_if (b_of (w_or (b_not (b_val (v_calls (FnA.call c ((ok__law_refused_right T).mono (by decide))) (by rfl) T.g__law_refused_right (l_cons (v_var (i := 1) rfl (by leaf_len) (by decide) (by decide)) (l_cons (v_var (i := 2) rfl (by leaf_len) (by decide) (by decide)) (l_cons (v_var (i := 0) rfl (by leaf_len) (by decide) (by decide)) l_nil rfl) rfl) rfl) rfl (by decide)) (fun _ => rfl))) (w_or1 (b_not (b_val (v_calls (FnA.call c ((ok__law_state_right T).mono (by decide))) (by rfl) T.g__law_state_right (l_cons (v_var (i := 1) rfl (by leaf_len) (by decide) (by decide)) (l_cons (v_var (i := 2) rfl (by leaf_len) (by decide) (by decide)) (l_cons (v_var (i := 4) rfl (by leaf_len) (by decide) (by decide)) l_nil rfl) rfl) rfl) rfl (by decide)) (fun _ => rfl)))))) (ss_cons (s_ret v_bool) ss_nil) (ss_nil)) (ss_cons (s_if (b_cmp (o_ne c.cK c.rm) (v_lamtold (j := 1) c (T_caught T _ (by decide)) (by rfl) T.g__law_told (by decide) T.tb_1 rfl (by first | rfl | decide +kernel) (LamX.lamS_by (sc := defScope st__law_right) (by decide +kernel)) rfl (fun _ _ _ _ _ => rfl) (fun A outer s H E f c' c => (v_calls (FnA.call c ((ok__law_put T).mono (by decide))) (by rfl) T.g__law_put (l_cons (v_var (i := 1) rfl (by leaf_len) (by decide) (by decide)) (l_cons (v_var (i := 5) rfl (by leaf_len) (by decide) (by decide)) (l_cons (v_calls (FnA.call c ((ok__law_pat T).mono (by decide))) (by rfl) T.g__law_pat (l_cons (v_var (i := 6) rfl (by leaf_len) (by decide) (by decide)) l_nil rfl) rfl (by decide)) l_nil rfl) rfl) rfl) rfl (by decide)))) (v_tup (l_cons v_str (l_cons v_str l_nil rfl) rfl) (by decide)) rfl) (ss_cons (s_ret v_bool) ss_nil) (ss_nil)) (ss_cons (s_asg (v_var (i := 6) rfl (by leaf_len) (by decide) (by decide)) (g_itemD (W := WF E) c (v_var (i := 2) rfl (by leaf_len) (by decide) (by decide)) (v_var (i := 5) rfl (by leaf_len) (by decide) (by decide)) rfl) rfl rfl rfl) (ss_cons (s_if (b_not (b_val (v_calls (FnA.call c ((ok__law_state_right T).mono (by decide))) (by rfl) T.g__law_state_right (l_cons (v_var (i := 1) rfl (by leaf_len) (by decide) (by decide)) (l_cons (v_var (i := 2) rfl (by leaf_len) (by decide) (by decide)) (l_cons (v_bin (o_add c.cK) (v_var (i := 4) rfl (by leaf_len) (by decide) (by decide)) v_int) l_nil rfl) rfl) rfl) rfl (by decide)) (fun _ => rfl))) (ss_cons (s_ret v_bool) ss_nil) (ss_nil)) (ss_nil)))))) rfl) (ss_cons (s_ret (v_and (v_calls (FnA.call c ((ok__law_refused_right T).mono (by decide))) (by rfl) T.g__law_refused_right (l_cons (v_var (i := 1) rfl (by leaf_len) (by decide) (by decide)) (l_cons (v_var (i := 2) rfl (by leaf_len) (by decide) (by decide)) (l_cons (v_var (i := 0) rfl (by leaf_len) (by decide) (by decide)) l_nil rfl) rfl) rfl) rfl (by decide)) (v_one (v_calls (FnA.call c ((ok__law_state_right T).mono (by decide))) (by rfl) T.g__law_state_right (l_cons (v_var (i := 3) rfl (by leaf_len) (by decide) (by decide)) (l_cons v_dict0 (l_cons v_int l_nil rfl) rfl) rfl) rfl (by decide))))) ss_nil))⟩
def sem__law_right : List D → M D := runFn 1 8 pk__law_right.1
theorem ok__law_right (T : Facts P w K mg base ad) : FnA P w K mg base (GG true K ad) 20 (ad 38) sem__law_right := by
  obtain ⟨fd, F⟩ := T.f__law_right
  exact fna_ruleC F sc__law_right (F.fn.binds fun _ _ _ _ _ _ us hl => match us, hl with | [_], _ => rfl) rfl (pk__law_right.2 P w K mg base ad T) rfl rfl (by decide)
def pk__law_src : Σ' ms : MS, ∀ (P : Program) (w : World) (K : PySem.W.Frag) (mg : Str → Option Value) (base : Heap) (ad : Nat → Addr) (b : Bool), Facts P w K mg base ad → Body P w K mg base (GG b K ad) 0 (ad 39) ["_law_number", "_law_digits"] "_law_src" st__law_src ms :=
  ⟨_, fun P w K mg base ad b T cdv A fr s H E c => ss_cons (s_set (i := 1) c rfl (by mem_news) (v_ite (b_of (w_or (b_cmp (o_lt) (v_var (i := 0) rfl (by leaf_len) (by decide) (by decide)) v_int rfl) (w_or1 (b_cmp (o_ge) (v_var (i := 0) rfl (by leaf_len) (by decide) (by decide)) (v_bin (o_pow) v_int v_int) rfl)))) (v_callB (c_abs) (by rfl) T.z_abs (by decide +kernel) (l_cons (v_var (i := 0) rfl (by leaf_len) (by decide) (by decide)) l_nil rfl) rfl (by decide) (by decide)) v_int) rfl (.inl rfl)) (ss_cons (s_ret (v_shr (o_lst (l_cons (v_var (i := 1) rfl (by leaf_len) (by decide) (by decide)) (l_cons (v_bin (o_mod) (v_callTy (c_int) (by rfl) T.z_int (by decide +kernel) (l_cons (v_var (i := 0) rfl (by leaf_len) (by decide) (by decide)) l_nil rfl) rfl (by decide) (by decide)) v_int) (l_cons v_int l_nil rfl) rfl) rfl) (by decide)))) ss_nil)⟩
def sem__law_src : List D → M D := runFn 1 2 pk__law_src.1
theorem ok__law_src (T : Facts P w K mg base ad) : FnA P w K mg base (GG b K ad) 2 (ad 39) sem__law_src := by
  obtain ⟨fd, F⟩ := T.f__law_src
  exact fna_rule F sc__law_src (F.binds fun _ _ _ _ _ _ us hl => match us, hl with | [_], _ => rfl) rfl (pk__law_src.2 P w K mg base ad b T) rfl rfl (by decide)
def pk__law_cell : Σ' ms : MS, ∀ (P : Program) (w : World) (K : PySem.W.Frag) (mg : Str → Option Value) (base : Heap) (ad : Nat → Addr) (b : Bool), Facts P w K mg base ad → Body P w K mg base (GG b K ad) 0 (ad 40) ["_law_script", "_law_place", "_law_found", "_law_number"] "_law_cell" st__law_cell ms :=
  ⟨_, fun P w K mg base ad b T cdv A fr s H E c => ss_cons (s_if (b_cmp (o_lt) (v_var (i := 1) rfl (by leaf_len) (by decide) (by decide)) (v_callB (c_len c.cK) (by rfl) T.z_len (by decide +kernel) (l_cons (v_var (i := 0) rfl (by leaf_len) (by decide) (by decide)) l_nil rfl) rfl (by decide) (by decide)) rfl) (ss_cons (s_ret (v_callTy (c_int) (by rfl) T.z_int (by decide +kernel) (l_cons (v_ix c.cK (v_var (i := 0) rfl (by leaf_len) (by decide) (by decide)) (v_var (i := 1) rfl (by leaf_len) (by decide) (by decide)) rfl) l_nil rfl) rfl (by decide) (by decide))) ss_nil) (ss_nil)) (ss_cons (s_set (i := 2) c rfl (by mem_news) (v_bin (o_add c.cK) (v_bin (o_add c.cK) (v_bin (o_mul c.cK) (v_bin (o_mul c.cK) v_int (v_var (i := 1) rfl (by leaf_len) (by decide) (by decide))) (v_var (i := 1) rfl (by leaf_len) (by decide) (by decide))) (v_bin (o_mul c.cK) v_int (v_var (i := 1) rfl (by leaf_len) (by decide) (by decide)))) v_int) rfl (.inl rfl)) (ss_cons (s_for c (i_seq c (v_slice c.cK (v_var (i := 0) rfl (by leaf_len) (by decide) (by decide)) q_none (q_some v_int))) (g_name (i := 3) c.nd rfl (by mem_news) (.inl rfl)) (ss_cons (s_set (i := 2) c rfl (by mem_news) (v_bin (o_mod) (v_callTy (c_int) (by rfl) T.z_int (by decide +kernel) (l_cons (v_bin (o_add c.cK) (v_bin (o_mul c.cK) (v_var (i := 2) rfl (by leaf_len) (by decide) (by decide)) v_int) (v_var (i := 3) rfl (by leaf_len) (by decide) (by decide))) l_nil rfl) rfl (by decide) (by decide)) v_int) rfl (.inl rfl)) (ss_nil)) rfl) (ss_cons (s_ret (v_var (i := 2) rfl (by leaf_len) (by decide) (by decide))) ss_nil)))⟩
def sem__law_cell : List D → M D := runFn 2 4 pk__law_cell.1
theorem ok__law_cell (T : Facts P w K mg base ad) : FnA P w K mg base (GG b K ad) 2 (ad 40) sem__law_cell := by
  obtain ⟨fd, F⟩ := T.f__law_cell
  exact fna_rule F sc__law_cell (F.binds fun _ _ _ _ _ _ us hl => match us, hl with | [_, _], _ => rfl) rfl (pk__law_cell.2 P w K mg base ad b T) rfl rfl (by decide)
def pk_law : Σ' ms : MS, ∀ (P : Program) (w : World) (K : PySem.W.Frag) (mg : Str → Option Value) (base : Heap) (ad : Nat → Addr), Facts P w K mg base ad → Body P w K mg base (GG true K ad) 20 (ad 41) ["_law_script", "_law_place"] "law" st_law ms :=
  ⟨_, fun P w K mg base ad T cdv A fr s H E c => ss_cons (s_ret (v_callB (c_all c.calm) (by rfl) T.z_all (by decide +kernel) (l_cons (v_lc c (own := [("_law_place", 1)]) (i_rng1 (by rfl) T.z_range (l_cons (v_callB (c_max c.calm) (by rfl) T.z_max (by decide +kernel) (l_cons v_int (l_cons (v_callB (c_min c.calm) (by rfl) T.z_min (by decide +kernel) (l_cons (v_callB (c_len c.cK) (by rfl) T.z_len (by decide +kernel) (l_cons (v_var (i := 0) rfl (by leaf_len) (by decide) (by decide)) l_nil rfl) rfl (by decide) (by decide)) (l_cons v_int l_nil rfl) rfl) rfl (by decide) (by decide)) l_nil rfl) rfl) rfl (by decide) (by decide)) l_nil rfl) rfl) (blkOk_by (N := ["_law_script", "_law_place"]) (sc := defScope st_law) (by decide +kernel)) (fun s H C cl fp => blkP c fun c => (p_name (i := 1) c.nd rfl (by mem_news) (.inr rfl))) (fun s H C cl fp => blkT c fun c => t_nil) (fun s H C cl fp => blkV c fun c => (v_calls (FnA.call c ((ok__law_right T).mono (by decide))) (by rfl) T.g__law_right (l_cons (v_calls (FnA.call c ((ok__law_src T).mono (by decide))) (by rfl) T.g__law_src (l_cons (v_calls (FnA.call c ((ok__law_cell T).mono (by decide))) (by rfl) T.g__law_cell (l_cons (v_var (i := 0) rfl (by leaf_len) (by decide) (by decide)) (l_cons (v_var (i := 1) rfl (by leaf_len) (by decide) (by decide)) l_nil rfl) rfl) rfl (by decide)) l_nil rfl) rfl (by decide)) l_nil rfl) rfl (by decide))) rfl (by decide)) l_nil rfl) rfl (by decide) (by decide))) ss_nil⟩
def sem_law : List D → M D := runFn 1 2 pk_law.1
theorem ok_law (T : Facts P w K mg base ad) : FnA P w K mg base (GG true K ad) 22 (ad 41) sem_law := by
  obtain ⟨fd, F⟩ := T.f_law
  exact fna_rule F sc_law (F.binds fun _ _ _ _ _ _ us hl => match us, hl with | [_], _ => rfl) rfl (pk_law.2 P w K mg base ad T) rfl rfl (by decide)
end K61
set_option maxRecDepth 100000
set_option maxHeartbeats 1000000
set_option exponentiation.threshold 4000
namespace K61
open PySem Ev
theorem runS_expr {α : Type} {g : List SV → M α} {sd : List SV} {S : List Ob} {N : List SV → List Ob → Prop} {R : D → List Ob → Prop} {B C : List SV → List Ob → Prop} : RunS (exS g fun _ => nextS) sd S N R B C ↔ Ev.Run (g sd) S fun _ S' => N sd S' := by
  rw [runS_ex]
  exact Iff.rfl
def Sm (k : Nat) (x : Int) : Prop := 0 ≤ x ∧ x < 2 ^ k
theorem Sm.mono {j k : Nat} {x : Int} (h : Sm j x) (l : j ≤ k) : Sm k x := ⟨h.1, Int.lt_of_lt_of_le h.2 (by exact_mod_cast Nat.pow_le_pow_right (by decide) l)⟩
theorem Sm.mul {j k : Nat} {x y : Int} (h : Sm j x) (l : Sm k y) : Sm (j + k) (x * y) := by
  refine ⟨Int.mul_nonneg h.1 l.1, ?_⟩
  have a : x * y ≤ x * 2 ^ k := Int.mul_le_mul_of_nonneg_left (by have := l.2; omega) h.1
  have p : (0 : Int) < 2 ^ k := Int.pow_pos (by decide)
  have b : x * 2 ^ k < 2 ^ j * 2 ^ k := Int.mul_lt_mul_of_pos_right h.2 p
  rw [Int.pow_add]
  omega
theorem Sm.add {k : Nat} {x y : Int} (h : Sm k x) (l : Sm k y) : Sm (k + 1) (x + y) := by
  have a := h.1
  have b := h.2
  have c := l.1
  have d := l.2
  refine ⟨by omega, ?_⟩
  rw [Int.pow_succ]
  omega
theorem Sm.nat {k : Nat} {x : Int} (h : Sm k x) : x.natAbs < 2 ^ k := by
  have a := h.1
  have b := h.2
  have e : ((x.natAbs : Nat) : Int) = x := by omega
  have c : ((x.natAbs : Nat) : Int) < ((2 ^ k : Nat) : Int) := by
    rw [e]
    simpa using b
  exact_mod_cast c
theorem mulS {j k : Nat} {x y : Int} (h : Sm j x) (l : Sm k y) (c : j + k ≤ 134217728) : dMul (.int x) (.int y) = M.pure (.int (x * y)) := mul_int (mulOk_by h.nat l.nat c)
structure Mx where
  a : Int
  b : Int
  c : Int
  d : Int
def Mx.D (m : Mx) : Ev.D := .tup [.int m.a, .int m.b, .int m.c, .int m.d]
def Mx.mul (m n : Mx) : Mx := ⟨m.a * n.a + m.b * n.c, m.a * n.b + m.b * n.d, m.c * n.a + m.d * n.c, m.c * n.b + m.d * n.d⟩
structure Mx.S (k : Nat) (m : Mx) : Prop where
  a : Sm k m.a
  b : Sm k m.b
  c : Sm k m.c
  d : Sm k m.d
theorem joined_ok {k : Nat} (m n : Mx) (hm : m.S k) (hn : n.S k) (hk : k ≤ 10000) : sem_joined [m.D, n.D] = M.pure (m.mul n).D := by
  refine pure_of fun S => ?_
  have l : k + k ≤ 134217728 := by omega
  unfold sem_joined
  rw [run_fn]
  refine ⟨rfl, ?_⟩
  show RunS pk_joined.1 [.val m.D, .val n.D, .no, .no, .no, .no, .no, .no, .no, .no] S _ _ _ _
  unfold pk_joined Mx.D
  simp only [run_pure, run_bind, run_ite, run_noErr, run_stuck, runS_next, runS_stuck, runS_seq, runS_ret, runS_par, runS_own, runS_for, runS_if, runS_tgt, runS_expr, setT, tupT, consT, getv, on1, on2, toB_bl, add_int, sub_int, cmp_int, int_int, List.getElem?_cons_zero, List.getElem?_cons_succ, List.set_cons_zero, List.set_cons_succ, List.length_cons, List.length_nil, if_true, reduceIte, Nat.reduceAdd, Nat.reduceEqDiff]
  simp only [mulS hm.a hn.a l, mulS hm.b hn.c l, mulS hm.a hn.b l, mulS hm.b hn.d l, mulS hm.c hn.a l, mulS hm.d hn.c l, mulS hm.c hn.b l, mulS hm.d hn.d l]
  simp only [run_pure, run_bind, run_ite, run_noErr, run_stuck, runS_next, runS_stuck, runS_seq, runS_ret, runS_par, runS_own, runS_for, runS_if, runS_tgt, runS_expr, setT, tupT, consT, getv, on1, on2, toB_bl, add_int, sub_int, cmp_int, int_int, List.getElem?_cons_zero, List.getElem?_cons_succ, List.set_cons_zero, List.set_cons_succ, List.length_cons, List.length_nil, if_true, reduceIte, Nat.reduceAdd, Nat.reduceEqDiff]
  exact ⟨rfl, trivial⟩
structure Pc where
  rail : Bool
  o : Int
def Pc.ok (p : Pc) : Prop := 1 ≤ p.o ∧ p.o ≤ 12
def Pc.w (p : Pc) : Str := if p.rail then "rail" else "rung"
def Pc.D (p : Pc) : Ev.D := .tup [.str p.w, .int p.o]
def Pc.m (p : Pc) : Mx := if p.rail then ⟨1, p.o, 0, 1⟩ else ⟨p.o, 0, 1, p.o⟩
def rowD (r : List Pc) : Ev.D := .tup (r.map Pc.D)
theorem Pc.sm {p : Pc} (h : p.ok) : Sm 4 p.o := ⟨by have := h.1; omega, by have := h.2; show p.o < 16; omega⟩
theorem Pc.ms {p : Pc} (h : p.ok) : p.m.S 4 := by
  have s := Pc.sm h
  have z : Sm 4 0 := ⟨by decide, by decide⟩
  have u : Sm 4 1 := ⟨by decide, by decide⟩
  unfold Pc.m
  split
  · exact ⟨u, s, z, u⟩
  · exact ⟨s, z, u, s⟩
theorem Mx.S.mul {j k : Nat} {m n : Mx} (h : m.S j) (l : n.S k) : (m.mul n).S (j + k + 1) :=
  ⟨(h.a.mul l.a).add (h.b.mul l.c), (h.a.mul l.b).add (h.b.mul l.d), (h.c.mul l.a).add (h.d.mul l.c), (h.c.mul l.b).add (h.d.mul l.d)⟩
theorem Mx.S.mono {j k : Nat} {m : Mx} (h : m.S j) (l : j ≤ k) : m.S k := ⟨h.a.mono l, h.b.mono l, h.c.mono l, h.d.mono l⟩
def chainM : Mx → Int → List Pc → Mx × Int
  | m, t, [] => (m, t)
  | m, t, p :: r => chainM (m.mul p.m) (if p.rail then t else t * p.o) r
def one : Mx := ⟨1, 0, 0, 1⟩
theorem eq_str (x y : Str) : dEq false (.str x) (.str y) = M.pure (.bl (decide (x = y))) := rfl
theorem rail_eq : decide (("rail" : Str) = "rail") = true := by decide
theorem rung_ne : decide (("rung" : Str) = "rail") = false := by decide
theorem chain_ok (r : List Pc) (hr : ∀ p ∈ r, p.ok) (hl : r.length ≤ 8) : sem_chain_of [rowD r] = M.pure (.tup [(chainM one 1 r).1.D, .int (chainM one 1 r).2]) := by
  refine pure_of fun S => ?_
  unfold sem_chain_of
  rw [run_fn]
  refine ⟨rfl, ?_⟩
  show RunS pk_chain_of.1 [.val (rowD r), .no, .no, .no, .no] S _ _ _ _
  unfold pk_chain_of rowD
  simp only [run_pure, run_bind, run_ite, run_noErr, run_stuck, runS_next, runS_stuck, runS_seq, runS_ret, runS_par, runS_own, runS_for, runS_if, runS_tgt, runS_expr, setT, tupT, consT, getv, on1, on2, toB_bl, add_int, sub_int, cmp_int, int_int, List.getElem?_cons_zero, List.getElem?_cons_succ, List.set_cons_zero, List.set_cons_succ, List.length_cons, List.length_nil, if_true, reduceIte, Nat.reduceAdd, Nat.reduceEqDiff]
  unfold seqOf
  simp only [run_pure, run_bind, run_ite, run_noErr, run_stuck, runS_next, runS_stuck, runS_seq, runS_ret, runS_par, runS_own, runS_for, runS_if, runS_tgt, runS_expr, setT, tupT, consT, getv, on1, on2, toB_bl, add_int, sub_int, cmp_int, int_int, List.getElem?_cons_zero, List.getElem?_cons_succ, List.set_cons_zero, List.set_cons_succ, List.length_cons, List.length_nil, if_true, reduceIte, Nat.reduceAdd, Nat.reduceEqDiff]
  refine loop_rule (J := fun ds sd S' => S' = S ∧ ∃ (r' : List Pc) (m : Mx) (t : Int) (k : Nat) (u v : SV), ds = r'.map Pc.D ∧ sd = [.val (.tup (r.map Pc.D)), .val m.D, .val (.int t), u, v] ∧ chainM m t r' = chainM one 1 r ∧ m.S k ∧ Sm k t ∧ k + 5 * r'.length ≤ 100 ∧ ∀ p ∈ r', p.ok) ?_ ?_ _ _ _ ?_
  · rintro d ds sd S' ⟨rfl, r', m, t, k, u, v, e, rfl, ch, hm, ht, hk, ho⟩
    rcases r' with _ | ⟨p, r'⟩
    · cases e
    rw [List.map_cons] at e
    cases e
    have hp := ho p List.mem_cons_self
    have hk : k + 5 * (r'.length + 1) ≤ 100 := by simpa using hk
    refine ⟨_, _, rfl, ?_⟩
    have jm := joined_ok m p.m (hm.mono (by omega : k ≤ k + 4)) ((Pc.ms hp).mono (by omega : 4 ≤ k + 4)) (by omega)
    have hm2 : (m.mul p.m).S (k + 5) := hm.mul (Pc.ms hp)
    have hr2 : ∀ q ∈ r', q.ok := fun q hq => ho q (List.mem_cons_of_mem _ hq)
    rcases p with ⟨_ | _, o⟩
    · simp only [run_pure, run_bind, run_ite, run_noErr, run_stuck, runS_next, runS_stuck, runS_seq, runS_ret, runS_par, runS_own, runS_for, runS_if, runS_tgt, runS_expr, setT, tupT, consT, getv, on1, on2, toB_bl, add_int, sub_int, cmp_int, int_int, List.getElem?_cons_zero, List.getElem?_cons_succ, List.set_cons_zero, List.set_cons_succ, List.length_cons, List.length_nil, if_true, reduceIte, Nat.reduceAdd, Nat.reduceEqDiff]
      simp only [eq_str, Pc.w, Bool.false_eq_true, if_false, rung_ne]
      simp only [run_pure, run_bind, run_ite, run_noErr, run_stuck, runS_next, runS_stuck, runS_seq, runS_ret, runS_par, runS_own, runS_for, runS_if, runS_tgt, runS_expr, setT, tupT, consT, getv, on1, on2, toB_bl, add_int, sub_int, cmp_int, int_int, List.getElem?_cons_zero, List.getElem?_cons_succ, List.set_cons_zero, List.set_cons_succ, List.length_cons, List.length_nil, if_true, reduceIte, Nat.reduceAdd, Nat.reduceEqDiff]
      rw [if_neg Bool.false_ne_true]
      have jm : sem_joined [m.D, .tup [.int o, .int 0, .int 1, .int o]] = M.pure (m.mul (Pc.m ⟨false, o⟩)).D := jm
      have so : Sm 4 o := Pc.sm hp
      rw [jm]
      simp only [run_pure, run_bind, run_ite, run_noErr, run_stuck, runS_next, runS_stuck, runS_seq, runS_ret, runS_par, runS_own, runS_for, runS_if, runS_tgt, runS_expr, setT, tupT, consT, getv, on1, on2, toB_bl, add_int, sub_int, cmp_int, int_int, List.getElem?_cons_zero, List.getElem?_cons_succ, List.set_cons_zero, List.set_cons_succ, List.length_cons, List.length_nil, if_true, reduceIte, Nat.reduceAdd, Nat.reduceEqDiff]
      rw [mulS ht so (by omega)]
      simp only [run_pure, run_bind, run_ite, run_noErr, run_stuck, runS_next, runS_stuck, runS_seq, runS_ret, runS_par, runS_own, runS_for, runS_if, runS_tgt, runS_expr, setT, tupT, consT, getv, on1, on2, toB_bl, add_int, sub_int, cmp_int, int_int, List.getElem?_cons_zero, List.getElem?_cons_succ, List.set_cons_zero, List.set_cons_succ, List.length_cons, List.length_nil, if_true, reduceIte, Nat.reduceAdd, Nat.reduceEqDiff]
      exact ⟨trivial, r', _, _, k + 5, _, _, rfl, rfl, ch, hm2, (ht.mul so).mono (by omega), by omega, hr2⟩
    · simp only [run_pure, run_bind, run_ite, run_noErr, run_stuck, runS_next, runS_stuck, runS_seq, runS_ret, runS_par, runS_own, runS_for, runS_if, runS_tgt, runS_expr, setT, tupT, consT, getv, on1, on2, toB_bl, add_int, sub_int, cmp_int, int_int, List.getElem?_cons_zero, List.getElem?_cons_succ, List.set_cons_zero, List.set_cons_succ, List.length_cons, List.length_nil, if_true, reduceIte, Nat.reduceAdd, Nat.reduceEqDiff]
      simp only [eq_str, Pc.w, if_true, rail_eq]
      simp only [run_pure, run_bind, run_ite, run_noErr, run_stuck, runS_next, runS_stuck, runS_seq, runS_ret, runS_par, runS_own, runS_for, runS_if, runS_tgt, runS_expr, setT, tupT, consT, getv, on1, on2, toB_bl, add_int, sub_int, cmp_int, int_int, List.getElem?_cons_zero, List.getElem?_cons_succ, List.set_cons_zero, List.set_cons_succ, List.length_cons, List.length_nil, if_true, reduceIte, Nat.reduceAdd, Nat.reduceEqDiff]
      rw [if_pos (decide_eq_true trivial)]
      have jm : sem_joined [m.D, .tup [.int 1, .int o, .int 0, .int 1]] = M.pure (m.mul (Pc.m ⟨true, o⟩)).D := jm
      rw [jm]
      simp only [run_pure, run_bind, run_ite, run_noErr, run_stuck, runS_next, runS_stuck, runS_seq, runS_ret, runS_par, runS_own, runS_for, runS_if, runS_tgt, runS_expr, setT, tupT, consT, getv, on1, on2, toB_bl, add_int, sub_int, cmp_int, int_int, List.getElem?_cons_zero, List.getElem?_cons_succ, List.set_cons_zero, List.set_cons_succ, List.length_cons, List.length_nil, if_true, reduceIte, Nat.reduceAdd, Nat.reduceEqDiff]
      exact ⟨trivial, r', _, _, k + 5, _, _, rfl, rfl, ch, hm2, ht.mono (by omega), by omega, hr2⟩
  · rintro sd S' ⟨rfl, r', m, t, k, u, v, e, rfl, ch, hm, ht, hk, ho⟩
    rcases r' with _ | ⟨p, r'⟩
    · simp only [run_pure, run_bind, run_ite, run_noErr, run_stuck, runS_next, runS_stuck, runS_seq, runS_ret, runS_par, runS_own, runS_for, runS_if, runS_tgt, runS_expr, setT, tupT, consT, getv, on1, on2, toB_bl, add_int, sub_int, cmp_int, int_int, List.getElem?_cons_zero, List.getElem?_cons_succ, List.set_cons_zero, List.set_cons_succ, List.length_cons, List.length_nil, if_true, reduceIte, Nat.reduceAdd, Nat.reduceEqDiff]
      have ch : (m, t) = chainM one 1 r := ch
      rw [← ch]
      exact ⟨rfl, trivial⟩
    · cases e
  · exact ⟨rfl, r, one, 1, 1, _, _, rfl, rfl, rfl, ⟨⟨by decide, by decide⟩, ⟨by decide, by decide⟩, ⟨by decide, by decide⟩, ⟨by decide, by decide⟩⟩, ⟨by decide, by decide⟩, by omega, hr⟩
def Mx.top (m : Mx) (t b : Int) : Int := m.a * t + m.b * b
def Mx.bot (m : Mx) (t b : Int) : Int := m.c * t + m.d * b
theorem isa_str_str (kn : Nat → Bool) (sb : Nat → Nat → Option Bool) (x : Str) : dIsa kn sb (.str x) (.ty .str) = M.pure (.bl true) := rfl
theorem len_tup (ds : List D) : dLen (.tup ds) = M.pure (.int ds.length) := rfl
theorem eq_int (i j : Int) : dEq false (.int i) (.int j) = M.pure (.bl (decide (i = j))) := rfl
section
variable {S : List Ob} {c m n : Nat} {ms : MS} {ds : List D} {Q : D → List Ob → Prop} {sd : List SV} {N : List SV → List Ob → Prop} {R : D → List Ob → Prop} {B C : List SV → List Ob → Prop}
theorem run_mkFn : Run (mkFn c m n ms ds) S Q ↔ ds.length + 1 = m ∧ RunS ms (slots n (.own (.ins c []) :: ds.map .val)) S (fun sd S' => match sd[0]? with | some (SV.own (Ob.ins c' es)) => if c' = c then Q (.ins c es) S' else False | _ => False) (fun _ _ => False) (fun _ _ => False) (fun _ _ => False) := by
  unfold Ev.Run mkFn RunS
  by_cases h : ds.length + 1 = m
  · simp only [h, if_true, true_and]
    rcases ms (slots n (.own (.ins c []) :: ds.map .val)) S with _ | ⟨sd | _ | _ | _ | _, S'⟩
    · exact Iff.rfl
    · unfold mkR
      simp only
      rcases sd[0]? with _ | _ | _ | ⟨_ | _ | ⟨c', es⟩ | jt⟩
      · exact Iff.rfl
      · exact Iff.rfl
      · exact Iff.rfl
      · exact Iff.rfl
      · exact Iff.rfl
      · simp only
        by_cases e : c' = c
        · rw [if_pos e, if_pos e]
        · rw [if_neg e, if_neg e]
      · exact Iff.rfl
    · exact Iff.rfl
    · exact Iff.rfl
    · exact Iff.rfl
    · exact Iff.rfl
  · simp only [h, if_false, false_and]
theorem runS_setF {i : Nat} {tbl : Nat → Option Nat} {g : List SV → M D} : RunS (setFS i tbl g) sd S N R B C ↔ Run (g sd) S fun d S' => match sd[i]? with
    | some (SV.own (Ob.ins c ds)) => (match tbl c with
      | some j => (match putL ds j d with
        | some es => N (sd.set i (.own (.ins c es))) S'
        | none => False)
      | none => False)
    | _ => False := by
  unfold setFS
  rw [runS_ex]
  unfold Ev.Run
  rcases g sd S with _ | ⟨_ | d, S'⟩
  · exact Iff.rfl
  · exact Iff.rfl
  · unfold RunS
    simp only
    rcases sd[i]? with _ | _ | _ | ⟨_ | _ | ⟨c', es⟩ | jt⟩
    · exact Iff.rfl
    · exact Iff.rfl
    · exact Iff.rfl
    · exact Iff.rfl
    · exact Iff.rfl
    · simp only
      rcases tbl c' with _ | j
      · exact Iff.rfl
      · simp only
        rcases putL es j d with _ | es2
        · exact Iff.rfl
        · exact Iff.rfl
    · exact Iff.rfl
end
def patD (r : List Pc) : D := .ins 1 [rowD r, (chainM one 1 r).1.D, .int (chainM one 1 r).2]
theorem row_ok (d : D) : sem_RowX_initX [d] = M.pure (.ins 0 [d]) := by
  refine pure_of fun S => ?_
  unfold sem_RowX_initX
  rw [run_mkFn]
  refine ⟨rfl, ?_⟩
  show RunS pk_RowX_initX.1 [.own (.ins 0 []), .val d] S _ _ _ _
  unfold pk_RowX_initX
  simp only [run_pure, run_bind, run_ite, run_noErr, run_stuck, runS_next, runS_stuck, runS_seq, runS_ret, runS_par, runS_own, runS_for, runS_if, runS_tgt, runS_expr, setT, tupT, consT, getv, on1, on2, toB_bl, add_int, sub_int, cmp_int, int_int, List.getElem?_cons_zero, List.getElem?_cons_succ, List.set_cons_zero, List.set_cons_succ, List.length_cons, List.length_nil, if_true, reduceIte, Nat.reduceAdd, Nat.reduceEqDiff, Bool.not_true, Bool.not_false, Bool.false_eq_true, if_false, decide_true, decide_false, Bool.true_eq_false, and_true, true_and, runS_setF]
  rfl
theorem isa_row (d : D) : dIsa (fun c => decide (c < 2)) (fun a b => if a < 2 ∧ b < 2 then some (decide (a = b)) else none) (.ins 0 [d]) (.cls 0) = M.pure (.bl true) := rfl
theorem attr_told (d : D) : attr (tab [(0, .fld 0)]) (.ins 0 [d]) = M.pure d := rfl
theorem pat_of_row (r : List Pc) (hr : ∀ p ∈ r, p.ok) (hl : r.length ≤ 8) : sem_PatternX_initX [.ins 0 [rowD r]] = M.pure (patD r) := by
  refine pure_of fun S => ?_
  unfold sem_PatternX_initX mkStar
  rw [if_pos (show 1 ≤ [D.ins 0 [rowD r]].length + 1 ∧ [D.ins 0 [rowD r]].length + 1 < 1 + lim from (show 1 ≤ 2 ∧ 2 < 1 + lim by decide))]
  rw [run_mkFn]
  refine ⟨rfl, ?_⟩
  show RunS pk_PatternX_initX.1 [.own (.ins 1 []), .val (.tup [.ins 0 [rowD r]])] S _ _ _ _
  unfold pk_PatternX_initX
  have l1 : ([D.ins 0 [rowD r]].length : Int) = 1 := rfl
  have i0 : dIx (.tup [.ins 0 [rowD r]]) (.int 0) = M.pure (.ins 0 [rowD r]) := ix_tup rfl
  simp only [run_pure, run_bind, run_ite, run_noErr, run_stuck, runS_next, runS_stuck, runS_seq, runS_ret, runS_par, runS_own, runS_for, runS_if, runS_tgt, runS_expr, setT, tupT, consT, getv, on1, on2, toB_bl, add_int, sub_int, cmp_int, int_int, List.getElem?_cons_zero, List.getElem?_cons_succ, List.set_cons_zero, List.set_cons_succ, List.length_cons, List.length_nil, if_true, reduceIte, Nat.reduceAdd, Nat.reduceEqDiff, Bool.not_true, Bool.not_false, Bool.false_eq_true, if_false, decide_true, decide_false, Bool.true_eq_false, and_true, true_and, runS_setF, len_tup, eq_int, l1, i0, isa_row, attr_told]
  rw [if_pos (by decide)]
  show Ev.Run (sem_chain_of [rowD r]) S _
  rw [chain_ok r hr hl]
  exact ⟨rfl, rfl⟩
def Row (r : List Pc) : Prop := (∀ p ∈ r, p.ok) ∧ r.length ≤ 8
def pairD (p : Int × Int) : D := .tup [.int p.1, .int p.2]
end K61
set_option maxRecDepth 100000
set_option maxHeartbeats 1000000
namespace K61
open PySem Ev
theorem pc_all {P : Pc → Prop} (h1 : ∀ b, P ⟨b, 1⟩) (h2 : ∀ b, P ⟨b, 2⟩) (h3 : ∀ b, P ⟨b, 3⟩) (h4 : ∀ b, P ⟨b, 4⟩) (h5 : ∀ b, P ⟨b, 5⟩) (h6 : ∀ b, P ⟨b, 6⟩) (h7 : ∀ b, P ⟨b, 7⟩) (h8 : ∀ b, P ⟨b, 8⟩) (h9 : ∀ b, P ⟨b, 9⟩)
    (h10 : ∀ b, P ⟨b, 10⟩) (h11 : ∀ b, P ⟨b, 11⟩) (h12 : ∀ b, P ⟨b, 12⟩) {p : Pc} (h : p.ok) : P p := by
  obtain ⟨b, o⟩ := p
  obtain ⟨l, u⟩ := h
  have l : 1 ≤ o := l
  have u : o ≤ 12 := u
  rcases (by omega : o = 1 ∨ o = 2 ∨ o = 3 ∨ o = 4 ∨ o = 5 ∨ o = 6 ∨ o = 7 ∨ o = 8 ∨ o = 9 ∨ o = 10 ∨ o = 11 ∨ o = 12) with e | e | e | e | e | e | e | e | e | e | e | e <;> subst e
  · exact h1 b
  · exact h2 b
  · exact h3 b
  · exact h4 b
  · exact h5 b
  · exact h6 b
  · exact h7 b
  · exact h8 b
  · exact h9 b
  · exact h10 b
  · exact h11 b
  · exact h12 b
def Pc.text (p : Pc) : Str := p.w ++ " " ++ (toString p.o : String)
theorem piece_read {p : Pc} (h : p.ok) : ∀ S, sem_piece_in [.str p.text] S = some (.ok p.D, S) := by
  intro S
  revert S
  refine pc_all (P := fun p => ∀ S, sem_piece_in [.str p.text] S = some (.ok p.D, S)) ?_ ?_ ?_ ?_ ?_ ?_ ?_ ?_ ?_ ?_ ?_ ?_ h <;> (intro b S; cases b <;> kernel_rfl)
theorem text_len {p : Pc} (h : p.ok) : p.text.length ≤ 7 := by
  refine pc_all (P := fun p => p.text.length ≤ 7) ?_ ?_ ?_ ?_ ?_ ?_ ?_ ?_ ?_ ?_ ?_ ?_ h <;> (intro b; cases b <;> decide +kernel)
theorem text_comma {p : Pc} (h : p.ok) : 44 ∉ p.text.cps.toList := by
  refine pc_all (P := fun p => 44 ∉ p.text.cps.toList) ?_ ?_ ?_ ?_ ?_ ?_ ?_ ?_ ?_ ?_ ?_ ?_ h <;> (intro b; cases b <;> decide +kernel)
theorem comp_mapL {α : Type} {t : TgP} {tt : List SV → M Bool} {fe : List SV → M D} {sdw : List SV} {f g : α → D} : ∀ (r : List α) (acc : List D), (∀ x ∈ r, ∃ sd1, t (f x) sdw = some sd1 ∧ tt sd1 = M.pure true ∧ fe sd1 = M.pure (g x)) → acc.length + r.length ≤ lim → compS t tt fe sdw (r.map f) acc = M.pure (acc ++ r.map g)
  | [], acc, _, _ => by rw [List.map_nil, List.map_nil, List.append_nil]; rfl
  | x :: r, acc, h, hl => by
    obtain ⟨sd1, e1, e2, e3⟩ := h x List.mem_cons_self
    rw [List.length_cons] at hl
    rw [List.map_cons]
    unfold compS
    rw [e1]
    simp only
    rw [e2, e3]
    show (if acc.length < lim then compS t tt fe sdw (r.map f) (acc ++ [g x]) else M.stuck) = _
    rw [if_pos (by omega), comp_mapL r (acc ++ [g x]) (fun d hd => h d (List.mem_cons_of_mem _ hd)) (by rw [List.length_append]; simp; omega), List.append_assoc]
    rfl
theorem txts_map : ∀ ys : List Str, txts (ys.map D.str) = some ys
  | [] => rfl
  | y :: ys => by
    rw [List.map_cons]
    unfold txts
    rw [txts_map ys]
    rfl
def rowText (r : List Pc) : Str := Txt.join ", " (r.map Pc.text)
theorem sum_text : ∀ r : List Pc, (∀ p ∈ r, p.ok) → ((r.map Pc.text).map (·.length)).sum ≤ 7 * r.length
  | [], _ => Nat.le_refl _
  | p :: r, h => by
    have a := text_len (h p List.mem_cons_self)
    have b := sum_text r fun q hq => h q (List.mem_cons_of_mem _ hq)
    rw [List.map_cons, List.map_cons, List.sum_cons, List.length_cons]
    omega
theorem join_row (r : List Pc) (h : Row r) : dJoin ", " (.lst (r.map fun p => D.str p.text)) = M.pure (.str (rowText r)) := by
  have e : (r.map fun p => D.str p.text) = (r.map Pc.text).map D.str := by rw [List.map_map]; rfl
  have l := sum_text r h.1
  have l2 := h.2
  rw [e]
  unfold dJoin
  simp only [txts_map]
  rw [if_pos]
  · rfl
  · have e2 : (", " : Str).length = 2 := by decide
    rw [e2, List.length_map]
    omega
theorem text_made {p : Pc} (h : p.ok) : ∀ S, M.bind (dAdd (.str p.w) (.str " ")) (fun x => M.bind (dStr (.int p.o)) fun y => dAdd x y) S = some (.ok (.str p.text), S) := by
  refine pc_all (P := fun p => ∀ S, M.bind (dAdd (.str p.w) (.str " ")) (fun x => M.bind (dStr (.int p.o)) fun y => dAdd x y) S = some (.ok (.str p.text), S)) ?_ ?_ ?_ ?_ ?_ ?_ ?_ ?_ ?_ ?_ ?_ ?_ h <;> (intro b S; cases b <;> kernel_rfl)
theorem row_text_len (r : List Pc) (h : Row r) : (rowText r).length ≤ 1000 := by
  have a := sum_text r h.1
  have b := h.2
  unfold rowText
  rw [TL.join_eq]
  have c := StrLaws.join_length_le ", " (r.map Pc.text)
  have e2 : (", " : Str).length = 2 := by decide
  rw [List.length_map, e2] at c
  omega
theorem split_row (r : List Pc) (h : Row r) (hne : r ≠ []) : dSplit (rowText r) (.str ", ") = M.pure (.lst (r.map fun p => D.str p.text)) := by
  have l := row_text_len r h
  show (if ((", " : Str).length == 0) = false ∧ (rowText r).length + 2 ≤ lim then M.pure (D.lst ((Txt.split (rowText r) ", ").map .str)) else M.stuck) = _
  rw [if_pos ⟨by decide, by unfold lim; omega⟩]
  unfold rowText
  rw [TL.split_join (s := 44) (S := [32]) rfl (by decide +kernel) (by simpa using hne) (fun q hq => by
    obtain ⟨p, hp, rfl⟩ := List.mem_map.mp hq
    exact text_comma (h.1 p hp)), List.map_map]
  rfl
def pP (p : Pc) : PyData := .tuple [.str p.w, .int p.o]
theorem toPs_row : ∀ r : List Pc, toPs (r.map Pc.D) = some (r.map pP)
  | [] => rfl
  | p :: r => by
    rw [List.map_cons, List.map_cons]
    unfold toPs
    rw [toPs_row r]
    rfl
theorem lay_row : ∀ r : List Pc, PyData.canLayAll0 (r.map pP) = true
  | [] => rfl
  | p :: r => by
    rw [List.map_cons]
    unfold PyData.canLayAll0
    rw [lay_row r, Bool.and_true]
    obtain ⟨b, o⟩ := p
    cases b <;> kernel_rfl
theorem depth_row : ∀ r : List Pc, PyData.depthAll (r.map pP) ≤ 1
  | [] => by decide
  | p :: r => by
    rw [List.map_cons]
    unfold PyData.depthAll
    have a := depth_row r
    have b : PyData.depth (pP p) = 1 := rfl
    omega
theorem none_in (r : List Pc) : dIn false .non (.lst (r.map Pc.D)) = M.pure (.bl false) := by
  have sh : SeqAt.shaped (.list (r.map pP)) = true := by
    unfold SeqAt.shaped
    rw [Bool.and_eq_true]
    refine ⟨?_, decide_eq_true ?_⟩
    · unfold PyData.canLay0
      exact lay_row r
    · unfold PyData.depth
      have := depth_row r
      omega
  have none_ : ((r.map pP).any fun z => PyData.eqv z .none) = false := by
    rw [List.any_eq_false]
    intro z hz
    obtain ⟨p, _, rfl⟩ := List.mem_map.mp hz
    unfold pP
    simp [PyData.eqv]
  unfold dIn
  simp only [toPs_row]
  show (match some PyData.none, some (r.map pP) with
    | some p, some ps => if SeqAt.shaped p = true ∧ SeqAt.shaped (.list ps) = true then M.pure (D.bl (if false = true then !(ps.any fun z => PyData.eqv z p) else ps.any fun z => PyData.eqv z p)) else M.stuck
    | _, _ => M.stuck) = _
  simp only
  rw [if_pos ⟨by decide +kernel, sh⟩, none_]
  rfl
theorem len_lst (ds : List D) : dLen (.lst ds) = M.pure (.int ds.length) := rfl
theorem pattern_in_ok (r : List Pc) (h : Row r) (hne : r ≠ []) : sem_pattern_in [.str (rowText r)] = M.pure (patD r) := by
  refine pure_of fun S => ?_
  unfold sem_pattern_in
  rw [run_fn]
  refine ⟨rfl, ?_⟩
  show RunS pk_pattern_in.1 [.val (.str (rowText r)), .no, .no] S _ _ _ _
  unfold pk_pattern_in
  have gt : decide ((8 : Int) < ((r.length : Nat) : Int)) = false := decide_eq_false (by have := h.2; omega)
  have pat := pat_of_row r h.1 h.2
  simp only [runS_seq, runS_tgt, run_bind, run_pure, getv, List.getElem?_cons_zero, List.getElem?_cons_succ]
  unfold lcS
  simp only [run_bind, run_pure, getv, List.getElem?_cons_zero, List.getElem?_cons_succ]
  show Ev.Run (dSplit (rowText r) (.str ", ")) S _
  rw [split_row r h hne]
  simp only [run_bind, run_pure]
  unfold seqOf
  simp only [run_bind, run_pure]
  rw [comp_mapL (g := Pc.D)]
  · simp only [run_pure, setT, List.set_cons_zero, List.set_cons_succ, List.nil_append]
    have tu : dTuple (.lst (r.map Pc.D)) = M.pure (rowD r) := rfl
    have gt2 : decide ((8 : Int) < (((r.map Pc.D).length : Nat) : Int)) = false := by rw [List.length_map]; exact gt
    simp only [runS_if, runS_seq, runS_ret, runS_next, run_bind, run_pure, run_ite, getv, List.getElem?_cons_zero, List.getElem?_cons_succ, none_in r, toB_bl, Bool.false_eq_true, if_false, on1, len_lst, cmp_int, gt2, tu, row_ok, pat]
    trivial
  · intro p hp
    refine ⟨[.val (.str (rowText r)), .no, .val (.str p.text)], rfl, rfl, ?_⟩
    funext S
    exact piece_read (h.1 p hp) S
  · have := h.2
    show 0 + r.length ≤ lim
    unfold lim
    omega
theorem is_pat (r : List Pc) : dIs false (patD r) .non = M.pure (.bl false) := rfl
theorem read_ok (r : List Pc) (h : Row r) (hne : r ≠ []) : sem_Pattern_read [.str (rowText r)] = M.pure (patD r) := by
  refine pure_of fun S => ?_
  unfold sem_Pattern_read
  rw [run_fn]
  refine ⟨rfl, ?_⟩
  show RunS pk_Pattern_read.1 [.val (.str (rowText r)), .no] S _ _ _ _
  unfold pk_Pattern_read
  simp only [runS_seq, runS_tgt, runS_if, runS_ret, runS_next, run_bind, run_pure, run_ite, getv, setT, List.getElem?_cons_zero, List.getElem?_cons_succ, List.set_cons_zero, List.set_cons_succ, on2, isa_str_str, toB_bl, if_true, pattern_in_ok r h hne, is_pat, Bool.false_eq_true, if_false]
  trivial
end K61
set_option maxRecDepth 100000
set_option maxHeartbeats 1000000
namespace K61
open PySem Ev
theorem ix_ref {S : List Ob} {n : Nat} {ds : List D} {i : Int} {d : D} {P : D → List Ob → Prop} (h : S[n]? = some (.lst ds)) (hi : L2.atI ds i = some d) : Ev.Run (dIx (.ref n) (.int i)) S P ↔ P d S := by
  have e : dIx (.ref n) (.int i) S = some (.ok d, S) := by
    show (match S[n]? with
      | some (.lst ds) => (match L2.atI ds i with | some x => (some (Except.ok x, S) : Option (Except Exn D × List Ob)) | none => none)
      | _ => none) = _
    rw [h]
    simp only
    rw [hi]
  unfold Ev.Run
  rw [e]
theorem item_set {S : List Ob} {n i : Nat} {j : Int} {ds : List D} {d : D} {sd : List SV} (h0 : sd[0]? = some (.val (.ref n))) (h : S[n]? = some (.lst ds)) (hi : L2.ixN ds.length j = some i) : itemT (getv 0) (fun _ => M.pure (.int j)) d sd S = some (sd, S.set n (.lst (ds.set i d))) := by
  unfold itemT getv
  rw [h0]
  show (match S[n]? with
    | some (.lst ds) => (match L2.ixN ds.length j with | some i => some (sd, S.set n (.lst (ds.set i d))) | none => none)
    | _ => none) = _
  rw [h]
  simp only
  rw [hi]
theorem set_get {S : List Ob} {n : Nat} {o p : Ob} (h : S[n]? = some o) : (S.set n p)[n]? = some p := List.getElem?_set_self (List.getElem?_eq_some_iff.mp h).1
end K61
set_option maxRecDepth 100000
set_option maxHeartbeats 1000000
namespace K61
open PySem Ev
structure Vec (k : Nat) (v : Int × Int) : Prop where
  t : Sm k v.1
  b : Sm k v.2
  p : 0 < v.1 + v.2
theorem Vec.mono {j k : Nat} {v : Int × Int} (h : Vec j v) (l : j ≤ k) : Vec k v := ⟨h.t.mono l, h.b.mono l, h.p⟩
end K61
set_option maxRecDepth 100000
set_option maxHeartbeats 1000000
namespace K61
open PySem Ev
theorem Mx.ext {m n : Mx} (h1 : m.a = n.a) (h2 : m.b = n.b) (h3 : m.c = n.c) (h4 : m.d = n.d) : m = n := by
  cases m
  cases n
  simp at h1 h2 h3 h4
  simp [h1, h2, h3, h4]
theorem Mx.assoc (m n o : Mx) : (m.mul n).mul o = m.mul (n.mul o) := by
  apply Mx.ext <;> (simp only [Mx.mul]; grind)
theorem Mx.one_mul (m : Mx) : one.mul m = m := by
  apply Mx.ext <;> (simp only [Mx.mul, one]; grind)
def mat (r : List Pc) : Mx := (chainM one 1 r).1
theorem top_mul (m n : Mx) (t b : Int) : (m.mul n).top t b = m.top (n.top t b) (n.bot t b) := by
  simp only [Mx.mul, Mx.top, Mx.bot]
  grind
theorem bot_mul (m n : Mx) (t b : Int) : (m.mul n).bot t b = m.bot (n.top t b) (n.bot t b) := by
  simp only [Mx.mul, Mx.top, Mx.bot]
  grind
end K61
set_option maxRecDepth 100000
set_option maxHeartbeats 1000000
set_option maxRecDepth 100000
set_option maxHeartbeats 1000000
set_option maxRecDepth 100000
set_option maxHeartbeats 1000000
set_option maxRecDepth 100000
set_option maxHeartbeats 1000000
set_option maxRecDepth 100000
set_option maxHeartbeats 1000000
set_option maxRecDepth 100000
set_option maxHeartbeats 1000000
set_option maxRecDepth 100000
set_option maxHeartbeats 1000000
namespace K61
open PySem Ev
theorem ix_scr {ds : List D} {i : Int} {d : D} (h : L2.atI ds i = some d) : dIx (.scr ds) (.int i) = M.pure d := by
  funext S
  show (match L2.atI ds i with | some x => (some (Except.ok x, S) : Option (Except Exn D × List Ob)) | none => none) = _
  rw [h]
  rfl
end K61
set_option maxRecDepth 100000
set_option maxHeartbeats 1000000
namespace K61
open PySem Ev
def scl (r : List Pc) : Int := (chainM one 1 r).2
def SameN (r q : List Pc) : Prop := (mat r).a * scl q = (mat q).a * scl r ∧ (mat r).b * scl q = (mat q).b * scl r ∧ (mat r).c * scl q = (mat q).c * scl r ∧ (mat r).d * scl q = (mat q).d * scl r
theorem bd_sm {k : Nat} {x : Int} (h : Sm k x) : Bd k x := .mk h.nat
end K61
set_option maxRecDepth 100000
set_option maxHeartbeats 1000000
namespace K61
open PySem Ev
def RowN (r : List Pc) : Prop := (∀ p ∈ r, p.ok) ∧ 1 ≤ r.length ∧ r.length ≤ 8
theorem RowN.row {r : List Pc} (h : RowN r) : Row r := ⟨h.1, h.2.2⟩
theorem RowN.ne {r : List Pc} (h : RowN r) : r ≠ [] := by
  intro e
  have := h.2.1
  rw [e] at this
  simp at this
end K61
set_option maxRecDepth 100000
set_option maxHeartbeats 1000000
namespace K61
open PySem Ev
theorem go_filter {α : Type} {f g : α → D} {p : α → Bool} {t : TgP} {tt : List SV → M Bool} {fe : List SV → M D} {sdw : List SV} {S : List Ob} {P : List D → List Ob → Prop} (xs : List α)
    (step : ∀ x ∈ xs, ∃ sd1, t (f x) sdw = some sd1 ∧ tt sd1 = M.pure (p x) ∧ (p x = true → fe sd1 = M.pure (g x))) (l : xs.length ≤ lim) (h : P ((xs.filter p).map g) S) : Wp (compS t tt fe sdw (xs.map f) []) S P := by
  refine go_comp (J := fun ds acc S' => S' = S ∧ ∃ ys : List α, ds = ys.map f ∧ (∀ y ∈ ys, y ∈ xs) ∧ acc.length + ys.length ≤ lim ∧ acc ++ (ys.filter p).map g = (xs.filter p).map g) ?_ ?_ _ _ _ ⟨rfl, xs, rfl, fun _ h => h, by simpa using l, rfl⟩
  · rintro d ds acc S' ⟨rfl, ys, e, hm, hl, he⟩
    rcases ys with _ | ⟨y, ys⟩
    · cases e
    rw [List.map_cons] at e
    cases e
    obtain ⟨sd1, e1, e2, e3⟩ := step y (hm y List.mem_cons_self)
    rw [List.length_cons] at hl
    refine ⟨sd1, e1, by omega, go_val e2 ?_⟩
    cases hp : p y with
    | false =>
      rw [if_neg (by simp)]
      rw [List.filter_cons_of_neg (by simp [hp])] at he
      exact ⟨rfl, ys, rfl, fun z hz => hm z (List.mem_cons_of_mem _ hz), by omega, he⟩
    | true =>
      rw [if_pos rfl]
      rw [List.filter_cons_of_pos hp, List.map_cons] at he
      refine go_val (e3 hp) ⟨rfl, ys, rfl, fun z hz => hm z (List.mem_cons_of_mem _ hz), ?_, ?_⟩
      · rw [List.length_append, List.length_singleton]; omega
      · rw [List.append_assoc]; exact he
  · rintro acc S' ⟨rfl, ys, e, hm, hl, he⟩
    rcases ys with _ | ⟨y, ys⟩
    · rw [← he] at h
      simpa using h
    · cases e
end K61
set_option maxRecDepth 100000
set_option maxHeartbeats 1000000
namespace K61
open PySem Ev
instance (r q : List Pc) : Decidable (SameN r q) := by unfold SameN; exact inferInstance
end K61
set_option maxRecDepth 100000
set_option maxHeartbeats 1000000
namespace K61
open PySem Ev
def rtN : Nat → Nat
  | 0 => 0
  | n + 1 => if (rtN n + 1) * (rtN n + 1) ≤ n + 1 then rtN n + 1 else rtN n
@[irreducible] def rt (n : Int) : Int := rtN n.toNat
end K61
set_option maxRecDepth 100000
set_option maxHeartbeats 1000000
namespace K61
open PySem Ev
theorem check_pat_ok (r : List Pc) : sem_check_pattern [patD r] = M.pure .non := by
  refine pure_wp fun S => ?_
  (unfold sem_check_pattern; refine Ev.go_fn rfl ?_; unfold pk_check_pattern; simp only [Ev.slots, List.map_cons, List.map_nil, List.length_cons, List.length_nil, List.cons_append, List.nil_append, List.replicate, Nat.reduceSub, Nat.reduceAdd])
  (repeat regstrif_gather)
  refine go_val (r := .bl true) rfl ?_
  (repeat regstrif_gather)
  exact ⟨trivial, rfl⟩
end K61
set_option maxRecDepth 100000
set_option maxHeartbeats 1000000
set_option maxRecDepth 100000
set_option maxHeartbeats 1000000
set_option maxRecDepth 100000
set_option maxHeartbeats 1000000
namespace K61
open PySem Ev
def Sc (s : Int) (m q : Mx) : Prop := m.a = s * q.a ∧ m.b = s * q.b ∧ m.c = s * q.c ∧ m.d = s * q.d
theorem Sc.refl (m : Mx) : Sc 1 m m := ⟨by omega, by omega, by omega, by omega⟩
theorem Sc.trans {s t : Int} {m n q : Mx} (h : Sc s m n) (l : Sc t n q) : Sc (s * t) m q := by
  obtain ⟨h1, h2, h3, h4⟩ := h
  obtain ⟨l1, l2, l3, l4⟩ := l
  refine ⟨?_, ?_, ?_, ?_⟩
  · rw [h1, l1, Int.mul_assoc]
  · rw [h2, l2, Int.mul_assoc]
  · rw [h3, l3, Int.mul_assoc]
  · rw [h4, l4, Int.mul_assoc]
theorem Sc.mul {s t : Int} {m n p q : Mx} (h : Sc s m p) (l : Sc t n q) : Sc (s * t) (m.mul n) (p.mul q) := by
  obtain ⟨h1, h2, h3, h4⟩ := h
  obtain ⟨l1, l2, l3, l4⟩ := l
  refine ⟨?_, ?_, ?_, ?_⟩ <;> simp only [Mx.mul, h1, h2, h3, h4, l1, l2, l3, l4] <;> grind
theorem Sc.top {s : Int} {m q : Mx} (h : Sc s m q) (t b : Int) : m.top t b = s * q.top t b := by
  obtain ⟨h1, h2, h3, h4⟩ := h
  simp only [Mx.top, h1, h2]
  grind
theorem Sc.bot {s : Int} {m q : Mx} (h : Sc s m q) (t b : Int) : m.bot t b = s * q.bot t b := by
  obtain ⟨h1, h2, h3, h4⟩ := h
  simp only [Mx.bot, h3, h4]
  grind
def Mx.pow (m : Mx) : Nat → Mx
  | 0 => one
  | n + 1 => m.mul (m.pow n)
theorem Mx.pow_add (m : Mx) (i : Nat) : ∀ j, m.pow (j + i) = (m.pow j).mul (m.pow i)
  | 0 => by rw [Nat.zero_add]; exact (Mx.one_mul _).symm
  | j + 1 => by
    rw [Nat.add_right_comm]
    show m.mul (m.pow (j + i)) = (m.mul (m.pow j)).mul _
    rw [Mx.pow_add m i j, Mx.assoc]
theorem Sc.pow {s : Int} {m q : Mx} (h : Sc s m q) : ∀ n : Nat, Sc (s ^ n) (m.pow n) (q.pow n)
  | 0 => by
    show Sc (s ^ 0) one one
    rw [Int.pow_zero]
    exact Sc.refl one
  | n + 1 => by
    rw [Int.pow_succ, Int.mul_comm]
    exact h.mul (Sc.pow h n)
structure Mx.P (m : Mx) : Prop where
  a : 0 < m.a
  b : 0 ≤ m.b
  c : 0 ≤ m.c
  d : 0 < m.d
theorem Mx.P.mul {m n : Mx} (h : m.P) (l : n.P) : (m.mul n).P := by
  have h1 := h.a
  have h2 := h.d
  have l1 := l.a
  have l2 := l.d
  refine ⟨?_, ?_, ?_, ?_⟩ <;> simp only [Mx.mul]
  · have := Int.mul_pos h1 l1
    have := Int.mul_nonneg h.b l.c
    omega
  · have := Int.mul_nonneg (Int.le_of_lt h1) l.b
    have := Int.mul_nonneg h.b (Int.le_of_lt l2)
    omega
  · have := Int.mul_nonneg h.c (Int.le_of_lt l1)
    have := Int.mul_nonneg (Int.le_of_lt h2) l.c
    omega
  · have := Int.mul_nonneg h.c l.b
    have := Int.mul_pos h2 l2
    omega
theorem Mx.P.one : (K61.one).P := ⟨by decide, by decide, by decide, by decide⟩
theorem Mx.P.pow {m : Mx} (h : m.P) : ∀ n, (m.pow n).P
  | 0 => Mx.P.one
  | n + 1 => h.mul (Mx.P.pow h n)
def Mx.g (m : Mx) : Int := (Int.gcd (Int.gcd m.a m.b : Int) (Int.gcd m.c m.d : Int) : Int)
end K61
set_option maxRecDepth 100000
set_option maxHeartbeats 1000000
set_option maxRecDepth 100000
set_option maxHeartbeats 1000000
namespace K61
open PySem Ev
def Fix (m : Mx) (v : Int × Int) : Prop := m.top v.1 v.2 * v.2 = v.1 * m.bot v.1 v.2
theorem Fix.mul {m n : Mx} {v : Int × Int} (b : v.2 ≠ 0) (h : Fix m v) (l : Fix n v) : Fix (m.mul n) v := by
  unfold Fix at *
  rw [top_mul, bot_mul]
  refine Int.eq_of_mul_eq_mul_left b ?_
  simp only [Mx.top, Mx.bot] at *
  generalize n.a * v.1 + n.b * v.2 = p at *
  generalize n.c * v.1 + n.d * v.2 = q at *
  have e1 : v.2 * ((m.a * p + m.b * q) * v.2) = (m.a * (p * v.2) + m.b * q * v.2) * v.2 := by grind
  have e2 : v.2 * (v.1 * (m.c * p + m.d * q)) = v.1 * (m.c * (p * v.2) + m.d * q * v.2) := by grind
  rw [e1, e2, l]
  have e3 : (m.a * (v.1 * q) + m.b * q * v.2) * v.2 = q * ((m.a * v.1 + m.b * v.2) * v.2) := by grind
  rw [e3, h]
  grind
theorem Fix.pow {m : Mx} {v : Int × Int} (b : v.2 ≠ 0) (h : Fix m v) : ∀ n, Fix (m.pow n) v
  | 0 => by unfold Fix Mx.pow Mx.top Mx.bot one; grind
  | n + 1 => h.mul b (Fix.pow b h n)
end K61
set_option maxRecDepth 100000
set_option maxHeartbeats 1000000
namespace K61
open PySem Ev
structure Tms (s : Int) (m q : Mx) : Prop where
  b : m.b = s * q.b
  c : m.c = s * q.c
  d : m.d - m.a = s * (q.d - q.a)
theorem Tms.two (m : Mx) : Tms (m.a + m.d) (m.mul m) m := by
  refine ⟨?_, ?_, ?_⟩ <;> simp only [Mx.mul] <;> grind
end K61
set_option maxRecDepth 100000
set_option maxHeartbeats 1000000
set_option maxRecDepth 100000
set_option maxHeartbeats 2000000
namespace K61
open PySem Ev
def NT : Nat := 2
def TB (S : List Ob) : Prop := ∀ i, i < NT → S[i]? = some (Ob.tbl i)
def Kp (n : Nat) (S S' : List Ob) : Prop := S'.length = S.length ∧ ∀ m, m ≠ n → S'[m]? = S[m]?
theorem Kp.refl (n : Nat) (S : List Ob) : Kp n S S := ⟨rfl, fun _ _ => rfl⟩
theorem Kp.trans {n : Nat} {S S1 S2 : List Ob} (a : Kp n S S1) (b : Kp n S1 S2) : Kp n S S2 := ⟨b.1.trans a.1, fun m h => (b.2 m h).trans (a.2 m h)⟩
theorem Kp.set {n : Nat} {S : List Ob} {o : Ob} : Kp n S (S.set n o) := ⟨List.length_set .., fun m h => List.getElem?_set_ne (fun z => h z.symm)⟩
def TapeL (S : List Ob) (n c : Nat) : Prop := ∃ a m k : Int, S[n]? = some (.lst [.int a, .int m, .int k]) ∧ 0 ≤ a ∧ 0 ≤ m ∧ m < 2147483629 ∧ 0 ≤ k ∧ k ≤ c
def Tape (S : List Ob) (n c : Nat) : Prop := TapeL S n c ∧ TB S
theorem Tape.mono {S : List Ob} {n c c' : Nat} (h : Tape S n c) (l : c ≤ c') : Tape S n c' := by
  obtain ⟨⟨a, m, k, e, h1, h2, h3, h4, h5⟩, ht⟩ := h
  exact ⟨⟨a, m, k, e, h1, h2, h3, h4, by omega⟩, ht⟩
theorem TapeL.ne {S : List Ob} {n c j i : Nat} (h : TapeL S n c) (e : S[j]? = some (Ob.tbl i)) : j ≠ n := by
  obtain ⟨a, m, k, hS, _⟩ := h
  intro z
  rw [z, hS] at e
  cases e
theorem TB.kp {n c : Nat} {S S' : List Ob} (h : TB S) (l : TapeL S n c) (k : Kp n S S') : TB S' := fun i hi => (k.2 i (l.ne (h i hi))).trans (h i hi)
theorem TB.any {S : List Ob} (h : TB S) {j : Nat} (hj : j < NT) : S.any (isTb j) = true := by
  have e := h j hj
  obtain ⟨l, e⟩ := List.getElem?_eq_some_iff.mp e
  rw [List.any_eq_true]
  exact ⟨_, List.getElem_mem l, by rw [e]; simp [isTb]⟩
theorem TB.push {S : List Ob} (h : TB S) (o : Ob) : TB (S ++ [o]) := fun i hi => by
  have e := h i hi
  rw [List.getElem?_append_left (List.getElem?_eq_some_iff.mp e).1]
  exact e
theorem Tape.push {S : List Ob} {n c : Nat} (h : Tape S n c) (o : Ob) : Tape (S ++ [o]) n c := by
  obtain ⟨⟨a, m, k, e, hr⟩, ht⟩ := h
  exact ⟨⟨a, m, k, by rw [List.getElem?_append_left (List.getElem?_eq_some_iff.mp e).1]; exact e, hr⟩, ht.push o⟩
theorem Tape.lt {S : List Ob} {n c : Nat} (h : Tape S n c) : n < S.length := by
  obtain ⟨⟨a, m, k, e, _⟩, _⟩ := h
  exact (List.getElem?_eq_some_iff.mp e).1
theorem pick_ok (S : List Ob) (n c : Nat) (many : Int) (h : Tape S n c) (hc : c ≤ 1000000) (hm : 0 < many) (hm2 : many ≤ 1000000000001) : Ev.Run (sem__law_pick [.ref n, .int many]) S fun d S' => ∃ r, d = .int r ∧ 0 ≤ r ∧ r < many ∧ Tape S' n (c + 1) ∧ Kp n S S' := by
  obtain ⟨hl, ht⟩ := h
  have hl0 := hl
  obtain ⟨a, m, k, hS, ha, hm0, hm1, hk0, hk1⟩ := hl
  unfold sem__law_pick
  rw [run_fn]
  refine ⟨rfl, ?_⟩
  show RunS pk__law_pick.1 [.val (.ref n), .val (.int many), .no] S _ _ _ _
  unfold pk__law_pick
  simp only [runS_seq, runS_tgt, runS_if, runS_ret, runS_next, run_bind, run_pure, run_ite, getv, List.getElem?_cons_zero, List.getElem?_cons_succ, List.set_cons_zero, List.set_cons_succ, on1, on2]
  rw [ix_ref hS (show L2.atI [D.int a, D.int m, D.int k] 2 = some (.int k) from rfl)]
  simp only [run_pure, add_int, int_int]
  rw [item_set (j := 2) (i := 2) rfl hS rfl]
  have hS1 := set_get (p := .lst [.int a, .int m, .int (k + 1)]) hS
  simp only [List.getElem?_cons_zero, List.getElem?_cons_succ, run_pure, List.set_cons_zero, List.set_cons_succ]
  rw [ix_ref hS1 (show L2.atI [D.int a, D.int m, D.int (k + 1)] 1 = some (.int m) from rfl)]
  rw [ix_ref hS1 (show L2.atI [D.int a, D.int m, D.int (k + 1)] 2 = some (.int (k + 1)) from rfl)]
  have s1 : Sm 31 (k + 1) := ⟨by omega, by omega⟩
  rw [mulS (show Sm 20 31337 from ⟨by decide, by decide⟩) s1 (by decide)]
  simp only [run_pure, add_int]
  have pw : dPow (.int (m + 31337 * (k + 1) + 17)) (.int 5) = M.pure (.int ((m + 31337 * (k + 1) + 17) ^ 5)) := by
    show (if 0 ≤ (5 : Int) ∧ (5 : Int) ≤ 1000000 ∧ (m + 31337 * (k + 1) + 17).natAbs < 2 ^ 64 then M.pure (D.int _) else M.stuck) = _
    rw [if_pos ⟨by decide, by decide, by omega⟩]
    rfl
  rw [pw]
  simp only [run_pure, int_int, mod_int (show (0 : Int) < 2147483629 by decide)]
  rw [item_set (j := 1) (i := 1) rfl hS1 rfl]
  have m0 := Int.emod_nonneg ((m + 31337 * (k + 1) + 17) ^ 5) (show (2147483629 : Int) ≠ 0 by decide)
  have m1 := Int.emod_lt_of_pos ((m + 31337 * (k + 1) + 17) ^ 5) (show (0 : Int) < 2147483629 by decide)
  generalize (m + 31337 * (k + 1) + 17) ^ 5 % 2147483629 = m' at m0 m1
  have hS2 := set_get (p := .lst [.int a, .int m', .int (k + 1)]) hS1
  simp only [List.getElem?_cons_zero, List.getElem?_cons_succ, run_pure, List.set_cons_zero, List.set_cons_succ]
  rw [ix_ref hS2 (show L2.atI [D.int a, D.int m', D.int (k + 1)] 0 = some (.int a) from rfl)]
  simp only [cmp_int, run_pure, toB_bl]
  by_cases b0 : 0 < a
  · rw [if_pos (decide_eq_true b0)]
    rw [ix_ref hS2 (show L2.atI [D.int a, D.int m', D.int (k + 1)] 0 = some (.int a) from rfl)]
    have dm : dDivmod (.int a) (.int many) = M.pure (.tup [.int (a / many), .int (a % many)]) := by
      show (if divmOk a many = true then M.pure (D.tup [.int (a / many), .int (a % many)]) else M.stuck) = _
      rw [if_pos]
      unfold divmOk
      rw [Bool.and_eq_true]
      refine ⟨decide_eq_true hm, ?_⟩
      rw [PyProof.noPylong_of_log2 (by
        have h40 : many.natAbs.log2 < 40 := (Nat.log2_lt (by omega)).mpr (by omega)
        omega)]
      rfl
    rw [dm]
    simp only [run_pure, tupT, consT, List.length_cons, List.length_nil, Nat.reduceAdd, if_true]
    rw [item_set (j := 0) (i := 0) rfl hS2 rfl]
    simp only [setT, List.set_cons_zero, List.set_cons_succ, List.getElem?_cons_zero, List.getElem?_cons_succ, run_pure]
    have kk := Kp.trans (Kp.trans (Kp.set (n := n) (S := S) (o := .lst [.int a, .int m, .int (k + 1)])) (Kp.set (o := .lst [.int a, .int m', .int (k + 1)]))) (Kp.set (o := .lst [.int (a / many), .int m', .int (k + 1)]))
    exact ⟨a % many, rfl, Int.emod_nonneg _ (by omega), Int.emod_lt_of_pos _ hm, ⟨⟨_, _, _, set_get hS2, Int.ediv_nonneg ha (by omega), m0, m1, by omega, by omega⟩, ht.kp hl0 kk⟩, kk⟩
  · rw [if_neg (by simpa using b0)]
    rw [ix_ref hS2 (show L2.atI [D.int a, D.int m', D.int (k + 1)] 1 = some (.int m') from rfl)]
    rw [fdiv_int (show divOk 97 = true by decide +kernel)]
    simp only [run_pure, int_int, mod_int hm]
    have kk := Kp.trans (Kp.set (n := n) (S := S) (o := .lst [.int a, .int m, .int (k + 1)])) (Kp.set (o := .lst [.int a, .int m', .int (k + 1)]))
    exact ⟨_, rfl, Int.emod_nonneg _ (by omega), Int.emod_lt_of_pos _ hm, ⟨⟨_, _, _, hS2, ha, m0, m1, by omega, by omega⟩, ht.kp hl0 kk⟩, kk⟩
theorem pick_wp {S : List Ob} {n c : Nat} {many : Int} {P : D → List Ob → Prop} (h : Tape S n c) (hc : c ≤ 1000000) (hm : 0 < many) (hm2 : many ≤ 1000000000001) (q : ∀ r S', 0 ≤ r → r < many → Tape S' n (c + 1) → Kp n S S' → P (.int r) S') : Wp (sem__law_pick [.ref n, .int many]) S P :=
  ((pick_ok S n c many h hc hm hm2).mono fun d S' z => by obtain ⟨r, rfl, h0, h1, h2, h3⟩ := z; exact q r S' h0 h1 h2 h3).wp
end K61
set_option maxRecDepth 100000
set_option maxHeartbeats 4000000
namespace K61
open PySem Ev
def rowT (r : List Pc) : D := .tup (r.map Pc.D)
end K61
set_option maxRecDepth 100000
set_option maxHeartbeats 4000000
namespace K61
open PySem Ev
inductive Pl : D → Prop
  | non : Pl .non
  | bl (b : Bool) : Pl (.bl b)
  | int (i : Int) (h : Bd 4500 i) : Pl (.int i)
  | str (x : Str) (h : SeqAt.shaped (PyData.str x) = true) : Pl (.str x)
  | tup (ds : List D) (l : ds.length ≤ 100) (h : ∀ d ∈ ds, Pl d) : Pl (.tup ds)
  | lst (ds : List D) (l : ds.length ≤ 100) (h : ∀ d ∈ ds, Pl d) : Pl (.lst ds)
  | dct : Pl (.dct [] [])
def kdT : D → Option TyN
  | .non => some .none_
  | .bl _ => some .bool
  | .int _ => some .int
  | .str _ => some .str
  | .tup _ => some .tuple
  | .lst _ => some .list
  | .dct _ _ => some .dict
  | _ => none
def tyB : D → TyN → Bool
  | .non, .none_ => true
  | .bl _, .bool => true
  | .bl _, .int => true
  | .int _, .int => true
  | .str _, .str => true
  | .tup _, .tuple => true
  | .lst _, .list => true
  | .dct _ _, .dict => true
  | _, _ => false
theorem isa_t {known : Nat → Bool} {sub : Nat → Nat → Option Bool} {d : D} {a t : TyN} (h : kdT d = some a) : dIsa known sub d (.ty t) = M.pure (.bl (tyB d t)) := by
  cases d <;> cases h <;> cases t <;> rfl
def isI : D → Bool
  | .int _ => true
  | _ => false
theorem Pl.tup? {d : D} (h : Pl d) : (∃ ds, d = .tup ds ∧ ds.length ≤ 100 ∧ ∀ x ∈ ds, Pl x) ∨ (tyB d .tuple = false ∧ ∀ ds, d ≠ .tup ds) := by
  cases h with
  | tup ds l h => exact .inl ⟨ds, rfl, l, h⟩
  | _ => exact .inr ⟨rfl, fun _ => nofun⟩
theorem isI_int {d : D} (h : isI d = true) : ∃ i, d = .int i := by
  cases d <;> first | exact ⟨_, rfl⟩ | cases h
end K61
set_option maxRecDepth 100000
set_option maxHeartbeats 4000000
namespace K61
open PySem Ev
theorem bls_map (f : D → Bool) : ∀ ds : List D, bls (ds.map fun d => .bl (f d)) = some (ds.map f)
  | [] => rfl
  | d :: ds => by
    rw [List.map_cons, List.map_cons]
    unfold bls
    rw [bls_map f ds]
    rfl
theorem all_map (f : D → Bool) (ds : List D) : dAll (.lst (ds.map fun d => .bl (f d))) = M.pure (.bl (ds.all f)) := by
  unfold dAll
  simp only [bls_map]
  congr 2
  rw [List.all_map]
  rfl
theorem any_map (f : D → Bool) (ds : List D) : dAny (.lst (ds.map fun d => .bl (f d))) = M.pure (.bl (ds.any f)) := by
  unfold dAny
  simp only [bls_map]
  congr 2
  rw [List.any_map]
  rfl
theorem go_map {f : D → D} {t : TgP} {fe : List SV → M D} {tt : List SV → M Bool} {sdw : List SV} {S : List Ob} {P : List D → List Ob → Prop} (ds : List D) (step : ∀ x ∈ ds, ∃ sd1, t x sdw = some sd1 ∧ tt sd1 = M.pure true ∧ fe sd1 = M.pure (f x)) (l : ds.length ≤ lim) (h : P (ds.map f) S) : Wp (compS t tt fe sdw ds []) S P := by
  have e := go_filter (α := D) (f := id) (g := f) (p := fun _ => true) (t := t) (tt := tt) (fe := fe) (sdw := sdw) (S := S) (P := P) ds (fun x hx => by
    obtain ⟨sd1, a, b, c⟩ := step x hx
    exact ⟨sd1, a, b, fun _ => c⟩) l (by rw [List.filter_eq_self.mpr fun _ _ => rfl]; exact h)
  rw [List.map_id] at e
  exact e
def numB : D → Bool
  | .int i => decide (0 ≤ i)
  | .tup [.int a, .int b] => (decide (0 ≤ a) && decide (1 ≤ b)) || (decide (a = 1) && decide (b = 0))
  | _ => false
def resB : D → Bool
  | .int i => decide (0 ≤ i) && decide (i ≤ 1000000000000)
  | .tup [.int a, .int b] => ((decide (0 ≤ a) && decide (1 ≤ b)) || (decide (a = 1) && decide (b = 0))) && (decide (a ≤ 1000000000000) && decide (b ≤ 1000000000000))
  | _ => false
inductive Sh : D → Prop
  | int (i : Int) (h : Bd 4500 i) : Sh (.int i)
  | two (a b : Int) (ha : Bd 4500 a) (hb : Bd 4500 b) : Sh (.tup [.int a, .int b])
theorem Pl.sh {d : D} (h : Pl d) : Sh d ∨ (numB d = false ∧ resB d = false ∧ ((isI d = false ∧ ∀ ds, d ≠ .tup ds) ∨ ∃ ds, d = .tup ds ∧ (∀ x ∈ ds, Pl x) ∧ (ds.length ≠ 2 ∨ ∃ a b, ds = [a, b] ∧ (isI a && isI b) = false))) := by
  rcases h.tup? with ⟨ds, rfl, _, hp⟩ | ⟨h1, h2⟩
  · rcases ds with _ | ⟨a, _ | ⟨b, _ | ⟨c, l⟩⟩⟩
    · exact .inr ⟨rfl, rfl, .inr ⟨_, rfl, hp, .inl (by decide)⟩⟩
    · exact .inr ⟨by cases a <;> rfl, by cases a <;> rfl, .inr ⟨_, rfl, hp, .inl (by simp)⟩⟩
    · have ha := hp a (by simp)
      have hb := hp b (by simp)
      cases hi : isI a && isI b with
      | true =>
        obtain ⟨h1, h2⟩ := Bool.and_eq_true_iff.mp hi
        obtain ⟨i, rfl⟩ := isI_int h1
        obtain ⟨j, rfl⟩ := isI_int h2
        cases ha with
        | int _ ba => cases hb with
          | int _ bb => exact .inl (.two i j ba bb)
      | false =>
        refine .inr ⟨?_, ?_, .inr ⟨_, rfl, hp, .inr ⟨a, b, rfl, hi⟩⟩⟩
        · cases a <;> cases b <;> first | rfl | cases hi
        · cases a <;> cases b <;> first | rfl | cases hi
    · exact .inr ⟨by cases a <;> cases b <;> rfl, by cases a <;> cases b <;> rfl, .inr ⟨_, rfl, hp, .inl (by simp)⟩⟩
  · cases hi : isI d with
    | true =>
      obtain ⟨i, rfl⟩ := isI_int hi
      cases h with
      | int _ b => exact .inl (.int i b)
    | false =>
      refine .inr ⟨?_, ?_, .inl ⟨rfl, h2⟩⟩
      · cases d <;> first | exact absurd rfl (h2 _) | rfl | cases hi
      · cases d <;> first | exact absurd rfl (h2 _) | rfl | cases hi
theorem chain_of {fa fb fc : List SV → M D} {sd : List SV} {x y z : Int} (ha : fa sd = M.pure (.int x)) (hb : fb sd = M.pure (.int y)) (hc : fc sd = M.pure (.int z)) : chainD (dCmpI fun i j => decide (i ≤ j)) (dCmpI fun i j => decide (i ≤ j)) fa fb fc sd = M.pure (.bl (decide (x ≤ y) && decide (y ≤ z))) := by
  unfold chainD
  rw [ha, hb, hc]
  show (if decide (x ≤ y) = true then M.pure (D.bl (decide (y ≤ z))) else M.pure (.bl false)) = _
  cases decide (x ≤ y) <;> rfl
theorem mem2 {a b z : D} (ha : Pl a) (hb : Pl b) (h : z ∈ [a, b]) : Pl z := by
  rcases List.mem_cons.mp h with rfl | h
  · exact ha
  · rcases List.mem_cons.mp h with rfl | h
    · exact hb
    · exact absurd h List.not_mem_nil
end K61
set_option maxRecDepth 100000
set_option maxHeartbeats 4000000
set_option maxRecDepth 100000
set_option maxHeartbeats 4000000
set_option maxRecDepth 100000
set_option maxHeartbeats 4000000
set_option maxRecDepth 100000
set_option maxHeartbeats 4000000
set_option maxRecDepth 100000
set_option maxHeartbeats 4000000
namespace K61
open PySem Ev
theorem anyrow_wp {S : List Ob} {n c : Nat} {m : Int} {P : D → List Ob → Prop} (h : Tape S n c) (hc : c ≤ 900000) (m0 : 0 < m) (m8 : m ≤ 8) (q : ∀ r S', Row r → r ≠ [] → r.length ≤ m → Tape S' n (c + 17) → Kp n S S' → P (rowT r) S') : Wp (sem__law_anyrow [.ref n, .int m]) S P := by
  (unfold sem__law_anyrow; refine Ev.go_fn rfl ?_; unfold pk__law_anyrow; simp only [Ev.slots, List.map_cons, List.map_nil, List.length_cons, List.length_nil, List.cons_append, List.nil_append, List.replicate, Nat.reduceSub, Nat.reduceAdd])
  (repeat regstrif_gather)
  refine pick_wp h (by omega) m0 (by omega) fun k S1 k0 k1 h1 g1 => ?_
  (repeat regstrif_gather)
  refine go_comp (J := fun ds acc S' => ∃ c', Tape S' n c' ∧ Kp n S S' ∧ c' + 2 * ds.length ≤ c + 17 ∧ ∃ r : List Pc, acc = r.map Pc.D ∧ (∀ p ∈ r, p.ok) ∧ r.length + ds.length = (1 + k).toNat) ?_ ?_ _ _ _ ⟨c + 1, h1, g1, by simp only [rng_len]; omega, [], rfl, fun p hp => (by cases hp), by simp [rngD]⟩
  · rintro d ds acc S' ⟨c', h3, g, hc', r, rfl, ho, hl⟩
    rw [List.length_cons] at hl hc'
    refine ⟨_, rfl, by rw [List.length_map]; unfold lim; omega, ?_⟩
    (repeat regstrif_gather)
    refine pick_wp h3 (by omega) (by decide) (by decide) fun w S3 w0 w1 h3 g3 => ?_
    have hw : ∃ rl : Bool, dIx (.lst [.str "rail", .str "rung"]) (.int w) = M.pure (.str (if rl then "rail" else "rung")) := by
      rcases (show w = 0 ∨ w = 1 by omega) with rfl | rfl
      · exact ⟨true, rfl⟩
      · exact ⟨false, rfl⟩
    obtain ⟨rl, hw⟩ := hw
    (repeat regstrif_gather)
    refine go_val hw ?_
    (repeat regstrif_gather)
    refine pick_wp h3 (by omega) (by decide) (by decide) fun o S4 o0 o1 h4 g4 => ?_
    (repeat regstrif_gather)
    refine ⟨c' + 1 + 1, h4, (g.trans g3).trans g4, by omega, r ++ [⟨rl, 1 + o⟩], ?_, ?_, ?_⟩
    · rw [List.map_append]
      rfl
    · intro p hp
      rcases List.mem_append.mp hp with q | q
      · exact ho p q
      · rw [List.mem_singleton.mp q]
        exact ⟨by show 1 ≤ 1 + o; omega, by show 1 + o ≤ 12; omega⟩
    · rw [List.length_append, List.length_singleton]
      omega
  · rintro acc S' ⟨c', h3, g, hc', r, rfl, ho, hl⟩
    (repeat regstrif_gather)
    simp only [List.length_nil] at hl hc'
    refine go_val (r := rowT r) rfl ?_
    refine q r S' ⟨ho, by omega⟩ (fun z => by rw [z] at hl; simp at hl; omega) (by omega) (h3.mono (by omega)) g
theorem Sh.pl {d : D} (h : Sh d) : Pl d := by
  cases h with
  | int i b => exact .int i b
  | two a b ha hb => exact .tup _ (by simp) fun x hx => mem2 (.int a ha) (.int b hb) hx
theorem ix_mem (l : List D) {i : Int} (h0 : 0 ≤ i) (h1 : i < l.length) : ∃ d ∈ l, dIx (.lst l) (.int i) = M.pure d := by
  have hx : L2.ixN l.length i = some i.toNat := by unfold L2.ixN; rw [if_pos h0, if_pos h1]
  have hlt : i.toNat < l.length := by omega
  refine ⟨l[i.toNat], List.getElem_mem _, ?_⟩
  have e : L2.atI l i = some l[i.toNat] := by
    unfold L2.atI
    rw [hx]
    show l[i.toNat]? = _
    exact List.getElem?_eq_getElem hlt
  refine pure_wp fun S => p_ixL e ⟨rfl, rfl⟩
structure NP (k : Nat) (v : Int × Int) : Prop where
  t : Sm k v.1
  b : Sm k v.2
  n : numB (pairD v) = true
theorem NP.mono {j k : Nat} {v : Int × Int} (h : NP j v) (l : j ≤ k) : NP k v := ⟨h.t.mono l, h.b.mono l, h.n⟩
theorem NP.pl {k : Nat} {v : Int × Int} (h : NP k v) (l : k ≤ 4500) : Pl (pairD v) := .tup _ (by simp) fun x hx => mem2 (.int _ (bd_sm (h.t.mono l))) (.int _ (bd_sm (h.b.mono l))) hx
end K61
set_option maxRecDepth 100000
set_option maxHeartbeats 4000000
set_option maxRecDepth 100000
set_option maxHeartbeats 4000000
set_option maxRecDepth 100000
set_option maxHeartbeats 4000000
namespace K61
open PySem Ev
theorem text_ok (r : List Pc) (h : Row r) : sem__law_text [rowT r] = M.pure (.str (rowText r)) := by
  refine pure_of fun S => ?_
  unfold sem__law_text
  rw [run_fn]
  refine ⟨rfl, ?_⟩
  show RunS pk__law_text.1 [.val (rowT r), .no, .no] S _ _ _ _
  unfold pk__law_text
  simp only [runS_seq, runS_ret, run_bind, run_pure, getv, List.getElem?_cons_zero, List.getElem?_cons_succ]
  unfold lcS
  simp only [run_bind, run_pure, getv, List.getElem?_cons_zero, List.getElem?_cons_succ]
  unfold seqOf rowT
  simp only [run_bind, run_pure]
  rw [comp_mapL (g := fun p => D.str p.text)]
  · show Ev.Run (isStr (.str ", ")) S _
    show Ev.Run (dJoin ", " (.lst ([] ++ r.map fun p => D.str p.text))) S _
    rw [List.nil_append, join_row r h]
    exact ⟨rfl, rfl⟩
  · intro p hp
    refine ⟨[.val (.tup (r.map Pc.D)), .val (.str p.w), .val (.int p.o)], rfl, rfl, ?_⟩
    funext S
    exact text_made (h.1 p hp) S
  · have := h.2
    show 0 + r.length ≤ lim
    unfold lim
    omega
theorem pat_ok (r : List Pc) (h : Row r) (hne : r ≠ []) : sem__law_pat [rowT r] = M.pure (patD r) := by
  refine pure_wp fun S => ?_
  (unfold sem__law_pat; refine Ev.go_fn rfl ?_; unfold pk__law_pat; simp only [Ev.slots, List.map_cons, List.map_nil, List.length_cons, List.length_nil, List.cons_append, List.nil_append, List.replicate, Nat.reduceSub, Nat.reduceAdd])
  (repeat regstrif_gather)
  refine go_val (text_ok r h) ?_
  (repeat regstrif_gather)
  exact go_val (read_ok r h hne) ⟨rfl, rfl⟩
theorem pold_err {j c : Nat} {giv : Str} {rp : D → M D} {tc : Nat → D → M D} {f : M D} {S S1 : List Ob} {d : D} {P : D → List Ob → Prop} (ht : S.any (isTb j) = true) (hf : f S = some (.error ⟨c, some d⟩, S1)) (q : Wp (tc c d) S1 P) : Wp (hasTbl j (toldM giv rp tc f)) S P := by
  refine wp_run.mpr ?_
  have e : hasTbl j (toldM giv rp tc f) S = tc c d S1 := by
    unfold hasTbl toldM
    rw [if_pos ht, hf]
  unfold Ev.Run
  rw [e]
  exact q.run
theorem pold_ok {j : Nat} {giv : Str} {rp : D → M D} {tc : Nat → D → M D} {f : M D} {S S1 : List Ob} {d : D} {P : D → List Ob → Prop} (ht : S.any (isTb j) = true) (hf : f S = some (.ok d, S1)) (q : Wp (rp d) S1 fun u S2 => P (.tup [.str giv, u]) S2) : Wp (hasTbl j (toldM giv rp tc f)) S P := by
  refine wp_run.mpr ?_
  have e : hasTbl j (toldM giv rp tc f) S = M.bind (rp d) (fun u => M.pure (.tup [.str giv, u])) S1 := by
    unfold hasTbl toldM
    rw [if_pos ht, hf]
  unfold Ev.Run
  rw [e]
  exact (go_bind (q.mono fun u S2 h => go_pure h)).run
theorem telle_wp {n : Str} {d u : D} {S : List Ob} {P : D → List Ob → Prop} (e : dRepr d = M.pure u) (q : P (.tup [.str n, u]) S) : Wp (tellE n d) S P := by
  unfold tellE
  rw [e]
  exact go_pure q
end K61
set_option maxRecDepth 100000
set_option maxHeartbeats 4000000
set_option exponentiation.threshold 5000
namespace K61
open PySem Ev
def Sok (x : Str) : Prop := PyData.strOk x = true
instance (x : Str) : Decidable (Sok x) := by
  unfold Sok
  infer_instance
theorem shw_piece {p : Pc} (h : p.ok) : Shw 1 20 p.D := by
  unfold Shw
  refine pc_all (P := fun p => ∃ q, toP p.D = some q ∧ q.showable = true ∧ q.canLay0 = true ∧ q.depth ≤ 1 ∧ q.shown.length ≤ 20) ?_ ?_ ?_ ?_ ?_ ?_ ?_ ?_ ?_ ?_ ?_ ?_ h <;> (intro b; cases b <;> exact ⟨_, rfl, by decide +kernel, by decide +kernel, by decide +kernel, by decide +kernel⟩)
theorem go_at {α : Type} {f : M α} {a : α} {S S' : List Ob} {P : α → List Ob → Prop} (e : f S = some (.ok a, S')) (h : P a S') : Wp f S P := by
  refine wp_run.mpr ?_
  unfold Ev.Run
  rw [e]
  exact h
def txR : D → Str
  | .dct [] [] => "{}"
  | d => txtD d
def Shn (d : D) : Prop := dRepr d = M.pure (.str (txR d)) ∧ Sok (txR d)
theorem shaped_list {ps : List PyData} (c : PyData.canLayAll0 ps = true) (e : PyData.depthAll ps ≤ 60) : SeqAt.shaped (.list ps) = true := by
  have c2 : (PyData.list ps).canLay0 = true := by
    unfold PyData.canLay0
    exact c
  unfold SeqAt.shaped
  rw [c2]
  have : (PyData.list ps).depth ≤ 64 := by
    unfold PyData.depth
    omega
  simpa using this
def shnB : D → Bool
  | .dct [] [] => true
  | d => match toP d with
  | some p => p.showable && (p.canLay0 && (decide (p.depth ≤ 60) && (decide (p.shown.length ≤ 5000) && PyData.strOk (txtD d))))
  | none => false
theorem shn_b {d : D} (h : shnB d = true) : Shn d := by
  by_cases hd : d = .dct [] []
  · subst hd
    exact ⟨rfl, by decide +kernel⟩
  have h : (match toP d with
    | some p => p.showable && (p.canLay0 && (decide (p.depth ≤ 60) && (decide (p.shown.length ≤ 5000) && PyData.strOk (txtD d))))
    | none => false) = true := by
    cases d with
    | dct ks ds =>
      cases ks with
      | nil =>
        cases ds with
        | nil => exact absurd rfl hd
        | cons _ _ => exact h
      | cons _ _ => exact h
    | _ => exact h
  have tx : txR d = txtD d := by
    cases d with
    | dct ks ds =>
      cases ks with
      | nil =>
        cases ds with
        | nil => exact absurd rfl hd
        | cons _ _ => rfl
      | cons _ _ => rfl
    | _ => rfl
  rcases e : toP d with _ | p
  · rw [e] at h; cases h
  rw [e] at h
  simp only [Bool.and_eq_true, decide_eq_true_eq] at h
  obtain ⟨h1, h2, h3, h4, h5⟩ := h
  have s : Shw 60 5000 d := by
    unfold Shw
    exact ⟨p, e, h1, h2, h3, h4⟩
  unfold Shn
  rw [tx]
  exact ⟨repr_get s (by decide) (by decide), h5⟩
mutual
def plB : D → Bool
  | .non => true
  | .bl _ => true
  | .int i => decide (i.natAbs < 2 ^ 4500)
  | .str x => SeqAt.shaped (PyData.str x)
  | .tup ds => decide (ds.length ≤ 100) && plBs ds
  | .lst ds => decide (ds.length ≤ 100) && plBs ds
  | .dct [] [] => true
  | _ => false
def plBs : List D → Bool
  | [] => true
  | d :: ds => plB d && plBs ds
end
mutual
theorem pl_b : ∀ {d : D}, plB d = true → Pl d
  | .non, _ => .non
  | .bl b, _ => .bl b
  | .int i, h => .int i (.mk (of_decide_eq_true (by unfold plB at h; exact h)))
  | .str x, h => .str x (by unfold plB at h; exact h)
  | .tup ds, h => by
    unfold plB at h
    rw [Bool.and_eq_true, decide_eq_true_eq] at h
    exact .tup ds h.1 (pl_bs h.2)
  | .lst ds, h => by
    unfold plB at h
    rw [Bool.and_eq_true, decide_eq_true_eq] at h
    exact .lst ds h.1 (pl_bs h.2)
  | .dct [] [], _ => .dct
  | .dct [] (_ :: _), h => by simp [plB] at h
  | .dct (_ :: _) _, h => by simp [plB] at h
  | .scr _, h => by simp [plB] at h
  | .ins _ _, h => by simp [plB] at h
  | .ref _, h => by simp [plB] at h
  | .ty _, h => by simp [plB] at h
  | .cls _, h => by simp [plB] at h
  | .raw _ _ _ _, h => by simp [plB] at h
theorem pl_bs : ∀ {ds : List D}, plBs ds = true → ∀ d ∈ ds, Pl d
  | [], _, _, h => nomatch h
  | d :: ds, h, x, hx => by
    unfold plBs at h
    rw [Bool.and_eq_true] at h
    have hd := pl_b h.1
    have ht := pl_bs h.2
    rcases List.mem_cons.mp hx with e | hx
    · rw [e]; exact hd
    · exact ht x hx
end
structure PS (d : D) : Prop where
  pl : Pl d
  sh : Shn d
def psB (d : D) : Bool := plB d && shnB d
theorem ps_b {d : D} (h : psB d = true) : PS d := by
  unfold psB at h
  rw [Bool.and_eq_true] at h
  exact ⟨pl_b h.1, shn_b h.2⟩
theorem ps_all {ds : List D} {d : D} (hd : d ∈ ds) (h : ds.all psB = true) : PS d := ps_b (List.all_eq_true.mp h d hd)
end K61
set_option maxRecDepth 100000
set_option maxHeartbeats 4000000
namespace K61
open PySem Ev
def letB (c : Nat) : Bool := decide (97 ≤ c) && decide (c ≤ 122)
def wdB (x : Str) : Bool := (decide ((1 : Int) ≤ (x.length : Nat)) && decide (((x.length : Nat) : Int) ≤ 8)) && x.cps.toList.all letB
theorem letters : ("abcdefghijklmnopqrstuvwxyz" : Str).cps.toList = (List.range 26).map (· + 97) := by decide +kernel
theorem in_let (c : Nat) : dIn false (.str ⟨#[c]⟩) (.str "abcdefghijklmnopqrstuvwxyz") = M.pure (.bl (letB c)) := by
  have e : decide (c ∈ ("abcdefghijklmnopqrstuvwxyz" : Str).cps.toList) = letB c := by
    rw [letters, Bool.eq_iff_iff]
    simp only [decide_eq_true_eq, letB, Bool.and_eq_true, List.mem_map, List.mem_range]
    constructor
    · rintro ⟨a, h, rfl⟩
      omega
    · rintro ⟨h, l⟩
      exact ⟨c - 97, by omega, by omega⟩
  show M.pure (D.bl (decide _)) = _
  rw [e]
theorem len_str {x : Str} (h : x.length ≤ 1000) : dLen (.str x) = M.pure (.int x.length) := by
  funext S
  show (if x.length ≤ lim then some (Except.ok (D.int x.length), S) else none) = _
  rw [if_pos (Nat.le_trans h (by decide))]
  rfl
structure Th (d : D) : Prop where
  isa : ∃ a, kdT d = some a ∧ tyB d .str = (match d with | .str _ => true | _ => false)
  ln : ∀ x, d = .str x → x.length ≤ 1000
theorem Th.str {x : Str} (h : x.length ≤ 1000) : Th (.str x) := ⟨⟨_, rfl, rfl⟩, fun y e => by cases e; exact h⟩
def nameB : D → Bool
  | .str x => wdB x
  | _ => false
theorem chars_name {x : Str} (h : x.length ≤ 1000) : (x.cps.toList.map fun c => D.str ⟨#[c]⟩).length ≤ lim := by
  rw [List.length_map]
  have : x.cps.toList.length = x.length := by
    rw [Array.length_toList]
    rfl
  rw [this]
  exact Nat.le_trans h (by decide)
def letD : D → Bool
  | .str x => match x.cps.toList with
    | [c] => letB c
    | _ => false
  | _ => false
theorem all_let (x : Str) : dAll (.lst ((x.cps.toList.map fun c => D.str ⟨#[c]⟩).map fun d => .bl (letD d))) = M.pure (.bl (x.cps.toList.all letB)) := by
  rw [all_map, List.all_map]
  rfl
theorem is_name_ok {d : D} (h : Th d) : sem_is_name [d] = M.pure (.bl (nameB d)) := by
  refine pure_wp fun S => ?_
  obtain ⟨⟨a, ka, ty⟩, ln⟩ := h
  by_cases hd : ∃ x, d = .str x
  · obtain ⟨x, rfl⟩ := hd
    have lx := ln x rfl
    have cl := chain_of (sd := [SV.val (.str x), .no]) (fa := fun _ => M.pure (.int 1)) (fb := fun sd => ((getv 0 sd).bind fun d => (M.pure []).bind fun ds => M.pure (d :: ds)).bind (on1 dLen)) (fc := fun _ => M.pure (.int 8)) (x := 1) (y := x.length) (z := 8) rfl (len_str lx) rfl
    (unfold sem_is_name; refine Ev.go_fn rfl ?_; unfold pk_is_name; simp only [Ev.slots, List.map_cons, List.map_nil, List.length_cons, List.length_nil, List.cons_append, List.nil_append, List.replicate, Nat.reduceSub, Nat.reduceAdd])
    (repeat regstrif_gather)
    refine go_val (isa_t rfl) ?_
    simp only [tyB]
    (repeat regstrif_gather)
    refine go_val cl ?_
    (repeat regstrif_gather)
    cases hb : (decide ((1 : Int) ≤ (x.length : Nat)) && decide (((x.length : Nat) : Int) ≤ 8)) with
    | false =>
      have e : nameB (.str x) = false := by
        show wdB x = false
        unfold wdB
        rw [hb]
        rfl
      rw [e]
      (repeat regstrif_gather)
      (first | exact ⟨rfl, rfl⟩ | exact go_pure ⟨rfl, rfl⟩)
    | true =>
      have e : nameB (.str x) = x.cps.toList.all letB := by
        show wdB x = _
        unfold wdB
        rw [hb, Bool.true_and]
      rw [e]
      (repeat regstrif_gather)
      refine go_val (r := x.cps.toList.map fun c => D.str ⟨#[c]⟩) rfl ?_
      (repeat regstrif_gather)
      refine go_map (f := fun d => .bl (letD d)) _ (fun d hd => ?_) (chars_name lx) ?_
      · obtain ⟨c, hc, rfl⟩ := List.mem_map.mp hd
        refine ⟨_, rfl, rfl, pure_wp fun S => ?_⟩
        (repeat regstrif_gather)
        exact go_val (in_let c) ⟨rfl, rfl⟩
      (repeat regstrif_gather)
      exact go_val (all_let x) ⟨rfl, rfl⟩
  · have nb : nameB d = false := by
      cases d with
      | str x => exact absurd ⟨x, rfl⟩ hd
      | _ => rfl
    have ty : tyB d .str = false := by
      cases d with
      | str x => exact absurd ⟨x, rfl⟩ hd
      | _ => exact ty
    rw [nb]
    (unfold sem_is_name; refine Ev.go_fn rfl ?_; unfold pk_is_name; simp only [Ev.slots, List.map_cons, List.map_nil, List.length_cons, List.length_nil, List.cons_append, List.nil_append, List.replicate, Nat.reduceSub, Nat.reduceAdd])
    (repeat regstrif_gather)
    refine go_val (isa_t ka) ?_
    rw [ty]
    (repeat regstrif_gather)
    (first | exact ⟨rfl, rfl⟩ | exact go_pure ⟨rfl, rfl⟩)
theorem law_is_name_ok {d : D} (h : Th d) : sem__law_is_name [d] = M.pure (.bl (nameB d)) := by
  refine pure_wp fun S => ?_
  obtain ⟨⟨a, ka, ty⟩, ln⟩ := h
  by_cases hd : ∃ x, d = .str x
  · obtain ⟨x, rfl⟩ := hd
    have lx := ln x rfl
    have cl := chain_of (sd := [SV.val (.str x), .no]) (fa := fun _ => M.pure (.int 1)) (fb := fun sd => ((getv 0 sd).bind fun d => (M.pure []).bind fun ds => M.pure (d :: ds)).bind (on1 dLen)) (fc := fun _ => M.pure (.int 8)) (x := 1) (y := x.length) (z := 8) rfl (len_str lx) rfl
    (unfold sem__law_is_name; refine Ev.go_fn rfl ?_; unfold pk__law_is_name; simp only [Ev.slots, List.map_cons, List.map_nil, List.length_cons, List.length_nil, List.cons_append, List.nil_append, List.replicate, Nat.reduceSub, Nat.reduceAdd])
    (repeat regstrif_gather)
    refine go_val (isa_t rfl) ?_
    simp only [tyB]
    (repeat regstrif_gather)
    refine go_val cl ?_
    (repeat regstrif_gather)
    cases hb : (decide ((1 : Int) ≤ (x.length : Nat)) && decide (((x.length : Nat) : Int) ≤ 8)) with
    | false =>
      have e : nameB (.str x) = false := by
        show wdB x = false
        unfold wdB
        rw [hb]
        rfl
      rw [e]
      (repeat regstrif_gather)
      (first | exact ⟨rfl, rfl⟩ | exact go_pure ⟨rfl, rfl⟩)
    | true =>
      have e : nameB (.str x) = x.cps.toList.all letB := by
        show wdB x = _
        unfold wdB
        rw [hb, Bool.true_and]
      rw [e]
      (repeat regstrif_gather)
      refine go_val (r := x.cps.toList.map fun c => D.str ⟨#[c]⟩) rfl ?_
      (repeat regstrif_gather)
      refine go_map (f := fun d => .bl (letD d)) _ (fun d hd => ?_) (chars_name lx) ?_
      · obtain ⟨c, hc, rfl⟩ := List.mem_map.mp hd
        refine ⟨_, rfl, rfl, pure_wp fun S => ?_⟩
        (repeat regstrif_gather)
        exact go_val (in_let c) ⟨rfl, rfl⟩
      (repeat regstrif_gather)
      exact go_val (all_let x) ⟨rfl, rfl⟩
  · have nb : nameB d = false := by
      cases d with
      | str x => exact absurd ⟨x, rfl⟩ hd
      | _ => rfl
    have ty : tyB d .str = false := by
      cases d with
      | str x => exact absurd ⟨x, rfl⟩ hd
      | _ => exact ty
    rw [nb]
    (unfold sem__law_is_name; refine Ev.go_fn rfl ?_; unfold pk__law_is_name; simp only [Ev.slots, List.map_cons, List.map_nil, List.length_cons, List.length_nil, List.cons_append, List.nil_append, List.replicate, Nat.reduceSub, Nat.reduceAdd])
    (repeat regstrif_gather)
    refine go_val (isa_t ka) ?_
    rw [ty]
    (repeat regstrif_gather)
    (first | exact ⟨rfl, rfl⟩ | exact go_pure ⟨rfl, rfl⟩)
end K61
set_option maxRecDepth 100000
set_option maxHeartbeats 4000000
namespace K61
open PySem Ev
abbrev En := List (Str × List Pc)
def ksE (en : En) : List L2.Key := en.map fun e => .inr e.1
def find (x : Str) : En → Option (List Pc)
  | [] => none
  | e :: l => if e.1 = x then some e.2 else find x l
def has (x : Str) (en : En) : Bool := en.any fun e => decide (e.1 = x)
def put (x : Str) (r : List Pc) (en : En) : En := if has x en = true then en.map (fun e => (e.1, if e.1 = x then r else e.2)) else en ++ [(x, r)]
theorem val_find (f : List Pc → D) (x : Str) : ∀ en : En, valD (ksE en) (en.map fun e => f e.2) (.inr x) = (find x en).map f
  | [] => rfl
  | e :: l => by
    have ih := val_find f x l
    show (if (Sum.inr e.1 : L2.Key) = .inr x then some (f e.2) else valD (ksE l) (l.map fun e => f e.2) (.inr x)) = _
    unfold find
    by_cases c : e.1 = x
    · rw [if_pos c, if_pos (by rw [c])]
      rfl
    · rw [if_neg c, if_neg (fun z => c (by cases z; rfl)), ih]
theorem has_find (x : Str) : ∀ en : En, has x en = (find x en).isSome
  | [] => rfl
  | e :: l => by
    have ih := has_find x l
    unfold has at ih
    unfold has find
    rw [List.any_cons, ih]
    by_cases c : e.1 = x
    · rw [if_pos c, decide_eq_true c]
      rfl
    · rw [if_neg c, decide_eq_false c]
      rfl
theorem hask (x : Str) (en : En) : hasK (ksE en) (.inr x) = has x en := by
  unfold hasK has ksE
  rw [List.any_map]
  congr 1
  funext e
  show decide ((Sum.inr e.1 : L2.Key) = .inr x) = decide (e.1 = x)
  congr 1
  simp
theorem repl_put (f : List Pc → D) (x : Str) (r : List Pc) : ∀ en : En, replD (.inr x) (f r) (ksE en) (en.map fun e => f e.2) = (en.map fun e => (e.1, if e.1 = x then r else e.2)).map fun e => f e.2
  | [] => rfl
  | e :: l => by
    have ih := repl_put f x r l
    show (if (Sum.inr e.1 : L2.Key) = .inr x then f r else f e.2) :: replD (.inr x) (f r) (ksE l) (l.map fun e => f e.2) = _
    rw [ih, List.map_cons, List.map_cons]
    congr 1
    by_cases c : e.1 = x
    · rw [if_pos (by rw [c])]
      show f r = f (if e.1 = x then r else e.2)
      rw [if_pos c]
    · rw [if_neg (fun z => c (by cases z; rfl))]
      show f e.2 = f (if e.1 = x then r else e.2)
      rw [if_neg c]
theorem put_ks (x : Str) (r : List Pc) (en : En) : putKs (ksE en) (.inr x) = ksE (put x r en) := by
  unfold putKs put
  rw [hask]
  by_cases c : has x en = true
  · rw [if_pos c, if_pos c]
    unfold ksE
    rw [List.map_map]
    rfl
  · rw [if_neg c, if_neg c]
    unfold ksE
    rw [List.map_append]
    rfl
theorem put_ds (f : List Pc → D) (x : Str) (r : List Pc) (en : En) : putDs (ksE en) (en.map fun e => f e.2) (.inr x) (f r) = (put x r en).map fun e => f e.2 := by
  unfold putDs put
  rw [hask]
  by_cases c : has x en = true
  · rw [if_pos c, if_pos c]
    exact repl_put f x r en
  · rw [if_neg c, if_neg c, List.map_append]
    rfl
theorem put_len (x : Str) (r : List Pc) (en : En) : (put x r en).length ≤ en.length + 1 := by
  unfold put
  split
  · rw [List.length_map]
    omega
  · rw [List.length_append]
    exact Nat.le_refl _
def EnOk (en : En) : Prop := ∀ e ∈ en, wdB e.1 = true ∧ Row e.2 ∧ e.2 ≠ []
theorem EnOk.put {en : En} (h : EnOk en) {x : Str} {r : List Pc} (hx : wdB x = true) (hr : Row r) (hn : r ≠ []) : EnOk (put x r en) := by
  unfold K61.put
  intro e he
  split at he
  · obtain ⟨a, ha, rfl⟩ := List.mem_map.mp he
    refine ⟨(h a ha).1, ?_, ?_⟩
    · show Row (if a.1 = x then r else a.2)
      split
      · exact hr
      · exact (h a ha).2.1
    · show (if a.1 = x then r else a.2) ≠ []
      split
      · exact hn
      · exact (h a ha).2.2
  · rcases List.mem_append.mp he with z | z
    · exact h e z
    · rw [List.mem_singleton.mp z]
      exact ⟨hx, hr, hn⟩
theorem find_mem {x : Str} {r : List Pc} : ∀ {en : En}, find x en = some r → (x, r) ∈ en
  | [], h => by cases h
  | e :: l, h => by
    unfold find at h
    by_cases c : e.1 = x
    · rw [if_pos c] at h
      cases h
      subst c
      exact List.mem_cons_self
    · rw [if_neg c] at h
      exact List.mem_cons_of_mem _ (find_mem h)
theorem mem_find {x : Str} : ∀ {en : En}, x ∈ en.map (·.1) → ∃ r, find x en = some r
  | [], h => by cases h
  | e :: l, h => by
    unfold find
    by_cases c : e.1 = x
    · exact ⟨_, if_pos c⟩
    · rw [if_neg c]
      rw [List.map_cons] at h
      rcases List.mem_cons.mp h with z | z
      · exact absurd z.symm c
      · exact mem_find z
def dP (en : En) : D := .dct (ksE en) (en.map fun e => patD e.2)
abbrev Bo (en : En) (past : List D) : Ob := .ins 11 [dP en, .tup [], .tup past]
section
variable {S : List Ob} {b : Nat} {en : En} {past : List D} {P : D → List Ob → Prop}
theorem attr_at {tbl : Nat → Option At} {c i : Nat} {fs : List D} {x : D} (hS : S[b]? = some (.ins c fs)) (ht : tbl c = some (.fld i)) (hx : fs[i]? = some x) : attr tbl (.ref b) S = some (.ok x, S) := by
  unfold attr M.bind fldsOf
  simp only [hS, ht, hx]
  rfl
theorem prop_wp {tbl : Nat → Option At} {c : Nat} {fs : List D} {g : List D → M D} (hS : S[b]? = some (.ins c fs)) (ht : tbl c = some (.prop g)) (h : Wp (g [.ref b]) S P) : Wp (attr tbl (.ref b)) S P := by
  refine go_bind (go_at (a := (c, fs)) (S' := S) ?_ ?_)
  · unfold fldsOf
    simp only [hS]
  · simp only [ht]
    exact go_noErr h
theorem pick_at {tbl : Nat → Option (List D → M D)} {c : Nat} {fs : List D} {g : List D → M D} (hS : S[b]? = some (.ins c fs)) (ht : tbl c = some g) : pick tbl (.ref b) S = some (.ok g, S) := by
  have e : clsOf (.ref b) S = some (.ok c, S) := by
    unfold clsOf
    simp only [hS]
    rfl
  unfold pick M.bind
  rw [e]
  simp only [ht]
  rfl
theorem dct_at : dctOf (dP en) S = some (.ok (ksE en, en.map fun e => patD e.2), S) := rfl
def memB (en : En) : D → Bool
  | .str x => has x en
  | _ => false
theorem indct_ok {x : Str} {neg : Bool} : dInDct neg (.str x) (dP en) = M.pure (.bl (neg != has x en)) := by
  refine pure_wp fun S => go_bind (go_at dct_at ?_)
  show Wp (M.pure (D.bl (neg != (valD (ksE en) (en.map fun e => patD e.2) (.inr x)).isSome))) S _
  rw [val_find, has_find, Option.isSome_map]
  exact go_pure ⟨rfl, rfl⟩
theorem contains_wp {d : D} (hS : S[b]? = some (Bo en past)) (h : Th d) (q : P (.bl (memB en d)) S) : Wp (sem_BenchX_containsX [.ref b, d]) S P := by
  obtain ⟨⟨a, ka, ty⟩, ln⟩ := h
  have ap : attr (tab [(11, .fld 0)]) (.ref b) S = some (.ok (dP en), S) := attr_at hS rfl rfl
  by_cases hd : ∃ x, d = .str x
  · obtain ⟨x, rfl⟩ := hd
    (unfold sem_BenchX_containsX; refine Ev.go_fn rfl ?_; unfold pk_BenchX_containsX; simp only [Ev.slots, List.map_cons, List.map_nil, List.length_cons, List.length_nil, List.cons_append, List.nil_append, List.replicate, Nat.reduceSub, Nat.reduceAdd])
    (repeat regstrif_gather)
    refine go_val (isa_t rfl) ?_
    simp only [tyB]
    (repeat regstrif_gather)
    refine go_at ap ?_
    (repeat regstrif_gather)
    refine go_val indct_ok ?_
    have fb : (false != has x en) = memB en (.str x) := by
      show _ = has x en
      cases has x en <;> rfl
    rw [fb]
    (repeat regstrif_gather)
    exact q
  · have nb : memB en d = false := by
      cases d with
      | str x => exact absurd ⟨x, rfl⟩ hd
      | _ => rfl
    have ty : tyB d .str = false := by
      cases d with
      | str x => exact absurd ⟨x, rfl⟩ hd
      | _ => exact ty
    rw [nb] at q
    (unfold sem_BenchX_containsX; refine Ev.go_fn rfl ?_; unfold pk_BenchX_containsX; simp only [Ev.slots, List.map_cons, List.map_nil, List.length_cons, List.length_nil, List.cons_append, List.nil_append, List.replicate, Nat.reduceSub, Nat.reduceAdd])
    (repeat regstrif_gather)
    refine go_val (isa_t ka) ?_
    rw [ty]
    (repeat regstrif_gather)
    exact q
theorem ownin_wp {d : D} {neg : Bool} (hS : S[b]? = some (Bo en past)) (h : Th d) (q : P (.bl (neg != memB en d)) S) : Wp (ownIn neg (tab [(11, sem_BenchX_containsX)]) d (.ref b)) S P := by
  unfold ownIn
  refine go_bind (go_at (pick_at hS rfl) ?_)
  refine go_bind (go_noErr (contains_wp hS h ?_))
  refine go_bind (go_val (r := memB en d) rfl ?_)
  exact go_pure q
theorem check_known_bad {d : D} (hS : S[b]? = some (Bo en past)) (h : Th d) (e : memB en d = false) : sem_Bench_check_known [.ref b, d] S = some (.error ⟨13, some d⟩, S) := by
  refine Xp.err ?_
  refine xp_fn rfl ?_
  unfold pk_Bench_check_known
  simp only [slots, List.map_cons, List.map_nil, List.length_cons, List.length_nil, List.cons_append, List.nil_append, List.replicate, Nat.reduceSub, Nat.reduceAdd]
  (repeat regstrif_gather)
  refine ownin_wp hS h ?_
  rw [e]
  (repeat regstrif_gather)
  exact xs_seq (xs_raise (go_get rfl ⟨rfl, rfl⟩))
theorem check_known_ok {d : D} (hS : S[b]? = some (Bo en past)) (h : Th d) (e : memB en d = true) (q : P .non S) : Wp (sem_Bench_check_known [.ref b, d]) S P := by
  (unfold sem_Bench_check_known; refine Ev.go_fn rfl ?_; unfold pk_Bench_check_known; simp only [Ev.slots, List.map_cons, List.map_nil, List.length_cons, List.length_nil, List.cons_append, List.nil_append, List.replicate, Nat.reduceSub, Nat.reduceAdd])
  (repeat regstrif_gather)
  refine ownin_wp hS h ?_
  rw [e]
  refine go_val (r := false) rfl ?_
  (repeat regstrif_gather)
  exact q
theorem getitem_bad {d : D} (hS : S[b]? = some (Bo en past)) (h : Th d) (e : memB en d = false) : sem_BenchX_getitemX [.ref b, d] S = some (.error ⟨13, some d⟩, S) := by
  refine Xp.err ?_
  refine xp_fn rfl ?_
  unfold pk_BenchX_getitemX
  simp only [slots, List.map_cons, List.map_nil, List.length_cons, List.length_nil, List.cons_append, List.nil_append, List.replicate, Nat.reduceSub, Nat.reduceAdd]
  (repeat regstrif_gather)
  refine xp_wp (go_at (pick_at hS rfl) ?_)
  (repeat regstrif_gather)
  exact xp_at (check_known_bad hS h e) ⟨rfl, rfl⟩
theorem drop_bad {d : D} (hS : S[b]? = some (Bo en past)) (h : Th d) (e : memB en d = false) : sem_Bench_drop [.ref b, d] S = some (.error ⟨13, some d⟩, S) := by
  refine Xp.err ?_
  refine xp_fn rfl ?_
  unfold pk_Bench_drop
  simp only [slots, List.map_cons, List.map_nil, List.length_cons, List.length_nil, List.cons_append, List.nil_append, List.replicate, Nat.reduceSub, Nat.reduceAdd]
  (repeat regstrif_gather)
  refine xp_wp (go_at (pick_at hS rfl) ?_)
  (repeat regstrif_gather)
  exact xp_at (check_known_bad hS h e) ⟨rfl, rfl⟩
theorem find_has {x : Str} {r : List Pc} (h : find x en = some r) : has x en = true := by
  rw [has_find, h]
  rfl
theorem getitem_ok {x : Str} {r : List Pc} (hS : S[b]? = some (Bo en past)) (hx : x.length ≤ 1000) (e : find x en = some r) (q : P (patD r) S) : Wp (sem_BenchX_getitemX [.ref b, .str x]) S P := by
  have ap : attr (tab [(11, .fld 0)]) (.ref b) S = some (.ok (dP en), S) := attr_at hS rfl rfl
  have ix : dIxDct (dP en) (.str x) S = some (.ok (patD r), S) := by
    have v := val_find patD x en
    rw [e] at v
    unfold dIxDct M.bind
    rw [dct_at]
    show (match valD (ksE en) (en.map fun e : Str × List Pc => patD e.2) (.inr x) with
      | some y => M.pure y
      | none => M.stuck) S = _
    rw [v]
    rfl
  (unfold sem_BenchX_getitemX; refine Ev.go_fn rfl ?_; unfold pk_BenchX_getitemX; simp only [Ev.slots, List.map_cons, List.map_nil, List.length_cons, List.length_nil, List.cons_append, List.nil_append, List.replicate, Nat.reduceSub, Nat.reduceAdd])
  (repeat regstrif_gather)
  refine go_at (pick_at hS rfl) ?_
  (repeat regstrif_gather)
  refine check_known_ok hS (.str hx) (find_has e) ?_
  (repeat regstrif_gather)
  refine go_at ap ?_
  (repeat regstrif_gather)
  exact go_at ix q
theorem names_wp (hS : S[b]? = some (Bo en past)) (l : en.length < 60) (q : P (.tup ((sortT (en.map (·.1))).map .str)) S) : Wp (sem_Bench_names [.ref b]) S P := by
  have ap : attr (tab [(11, .fld 0)]) (.ref b) S = some (.ok (dP en), S) := attr_at hS rfl rfl
  have ld : dListD (dP en) S = some (.ok (.lst ((en.map (·.1)).map .str)), S) := by
    unfold dListD M.bind
    rw [dct_at]
    show some (Except.ok (D.lst (kDs (ksE en))), S) = _
    congr 4
    unfold kDs ksE
    rw [List.map_map, List.map_map]
    rfl
  have st : dSortT (.lst ((en.map (·.1)).map .str)) = M.pure (.lst ((sortT (en.map (·.1))).map .str)) := by
    unfold dSortT
    simp only [strsV_map]
    rw [if_pos (by rw [List.length_map]; omega)]
  (unfold sem_Bench_names; refine Ev.go_fn rfl ?_; unfold pk_Bench_names; simp only [Ev.slots, List.map_cons, List.map_nil, List.length_cons, List.length_nil, List.cons_append, List.nil_append, List.replicate, Nat.reduceSub, Nat.reduceAdd])
  (repeat regstrif_gather)
  refine go_at ap ?_
  (repeat regstrif_gather)
  refine go_at ld ?_
  (repeat regstrif_gather)
  refine go_val st ?_
  (repeat regstrif_gather)
  exact go_val rfl q
theorem len_wp (hS : S[b]? = some (Bo en past)) (q : P (.int en.length) S) : Wp (sem_BenchX_lenX [.ref b]) S P := by
  have ap : attr (tab [(11, .fld 0)]) (.ref b) S = some (.ok (dP en), S) := attr_at hS rfl rfl
  have ld : dLenD (dP en) S = some (.ok (.int en.length), S) := by
    unfold dLenD M.bind
    rw [dct_at]
    show some (Except.ok (D.int ((ksE en).length : Nat)), S) = _
    unfold ksE
    rw [List.length_map]
  (unfold sem_BenchX_lenX; refine Ev.go_fn rfl ?_; unfold pk_BenchX_lenX; simp only [Ev.slots, List.map_cons, List.map_nil, List.length_cons, List.length_nil, List.cons_append, List.nil_append, List.replicate, Nat.reduceSub, Nat.reduceAdd])
  (repeat regstrif_gather)
  refine go_at ap ?_
  (repeat regstrif_gather)
  exact go_at ld q
theorem claims_wp (hS : S[b]? = some (Bo en past)) (q : P (.tup []) S) : Wp (sem_Bench_claims [.ref b]) S P := by
  have ap : attr (tab [(11, .fld 1)]) (.ref b) S = some (.ok (.tup []), S) := attr_at hS rfl rfl
  (unfold sem_Bench_claims; refine Ev.go_fn rfl ?_; unfold pk_Bench_claims; simp only [Ev.slots, List.map_cons, List.map_nil, List.length_cons, List.length_nil, List.cons_append, List.nil_append, List.replicate, Nat.reduceSub, Nat.reduceAdd])
  (repeat regstrif_gather)
  exact go_at ap q
theorem changes_wp (hS : S[b]? = some (Bo en past)) (q : P (.int past.length) S) : Wp (sem_Bench_changes [.ref b]) S P := by
  have ap : attr (tab [(11, .fld 2)]) (.ref b) S = some (.ok (.tup past), S) := attr_at hS rfl rfl
  (unfold sem_Bench_changes; refine Ev.go_fn rfl ?_; unfold pk_Bench_changes; simp only [Ev.slots, List.map_cons, List.map_nil, List.length_cons, List.length_nil, List.cons_append, List.nil_append, List.replicate, Nat.reduceSub, Nat.reduceAdd])
  (repeat regstrif_gather)
  refine go_at ap ?_
  (repeat regstrif_gather)
  exact q
end
end K61
set_option maxRecDepth 100000
set_option maxHeartbeats 4000000
namespace K61
open PySem Ev
theorem fldR_at {fo : List SV → M D} {tbl : Nat → Option Nat} {sd : List SV} {S : List Ob} {n c j : Nat} {ds es : List D} {d : D} (ho : fo sd S = some (.ok (.ref n), S)) (hS : S[n]? = some (.ins c ds)) (ht : tbl c = some j) (hp : putL ds j d = some es) : fldR fo tbl d sd S = some (sd, S.set n (.ins c es)) := by
  unfold fldR
  simp only [ho, hS, ht, hp]
section
variable {S : List Ob} {b : Nat} {en : En} {past : List D} {P : D → List Ob → Prop}
theorem set_at {o : Ob} {o' : Ob} (hS : S[b]? = some o') : (S.set b o)[b]? = some o := by
  obtain ⟨l, _⟩ := List.getElem?_eq_some_iff.mp hS
  rw [List.getElem?_set_self l]
theorem become_wp {d : D} (hS : S[b]? = some (Bo en past)) (l : past.length ≤ 100) (q : P .non (S.set b (.ins 11 [d, .tup [], .tup (past ++ [.tup [dP en, .tup []]])]))) : Wp (sem_Bench_become [.ref b, d, .tup []]) S P := by
  have a0 : attr (tab [(11, .fld 0)]) (.ref b) S = some (.ok (dP en), S) := attr_at hS rfl rfl
  have a1 : attr (tab [(11, .fld 1)]) (.ref b) S = some (.ok (.tup []), S) := attr_at hS rfl rfl
  have a2 : attr (tab [(11, .fld 2)]) (.ref b) S = some (.ok (.tup past), S) := attr_at hS rfl rfl
  have ad : dAdd (.tup past) (.tup [.tup [dP en, .tup []]]) = M.pure (.tup (past ++ [.tup [dP en, .tup []]])) := by
    show (if past.length + 1 ≤ lim then M.pure (D.tup (past ++ [.tup [dP en, .tup []]])) else M.stuck) = _
    rw [if_pos (Nat.le_trans (show past.length + 1 ≤ 101 by omega) (by decide))]
  (unfold sem_Bench_become; refine Ev.go_fn rfl ?_; unfold pk_Bench_become; simp only [Ev.slots, List.map_cons, List.map_nil, List.length_cons, List.length_nil, List.cons_append, List.nil_append, List.replicate, Nat.reduceSub, Nat.reduceAdd])
  (repeat regstrif_gather)
  refine go_at a2 ?_
  (repeat regstrif_gather)
  refine go_at a0 ?_
  (repeat regstrif_gather)
  refine go_at a1 ?_
  (repeat regstrif_gather)
  have f0 : fldR (getv 0) (tab [(11, 2)]) (D.tup (past ++ [D.tup [dP en, D.tup []]])) [SV.val (D.ref b), SV.val d, SV.val (D.tup [])] S = some ([SV.val (D.ref b), SV.val d, SV.val (D.tup [])], S.set b (.ins 11 [dP en, .tup [], .tup (past ++ [.tup [dP en, .tup []]])])) := fldR_at rfl hS rfl rfl
  rw [f0]
  dsimp only
  have h1 := set_at (o := .ins 11 [dP en, .tup [], .tup (past ++ [.tup [dP en, .tup []]])]) hS
  (repeat regstrif_gather)
  have f1 : fldR (getv 0) (tab [(11, 0)]) (d) [SV.val (D.ref b), SV.val d, SV.val (D.tup [])] (S.set b (.ins 11 [dP en, .tup [], .tup (past ++ [.tup [dP en, .tup []]])])) = some ([SV.val (D.ref b), SV.val d, SV.val (D.tup [])], (S.set b (.ins 11 [dP en, .tup [], .tup (past ++ [.tup [dP en, .tup []]])])).set b (.ins 11 [d, .tup [], .tup (past ++ [.tup [dP en, .tup []]])])) := fldR_at rfl h1 rfl rfl
  rw [f1]
  dsimp only
  have h2 := set_at (o := .ins 11 [d, .tup [], .tup (past ++ [.tup [dP en, .tup []]])]) h1
  (repeat regstrif_gather)
  have f2 : fldR (getv 0) (tab [(11, 1)]) (D.tup []) [SV.val (D.ref b), SV.val d, SV.val (D.tup [])] ((S.set b (.ins 11 [dP en, .tup [], .tup (past ++ [.tup [dP en, .tup []]])])).set b (.ins 11 [d, .tup [], .tup (past ++ [.tup [dP en, .tup []]])])) = some ([SV.val (D.ref b), SV.val d, SV.val (D.tup [])], ((S.set b (.ins 11 [dP en, .tup [], .tup (past ++ [.tup [dP en, .tup []]])])).set b (.ins 11 [d, .tup [], .tup (past ++ [.tup [dP en, .tup []]])])).set b (.ins 11 [d, .tup [], .tup (past ++ [.tup [dP en, .tup []]])])) := fldR_at rfl h2 rfl rfl
  rw [f2]
  dsimp only
  rw [List.set_set, List.set_set]
  (repeat regstrif_gather)
  exact q
theorem gs_ownD {sd : List SV} {S1 S2 : List Ob} {N : List SV → List Ob → Prop} {R : D → List Ob → Prop} {B C : List SV → List Ob → Prop} {i : Nat} {f : List SV → M D} {d : D} {kd : List L2.Key × List D} (e : f sd S = some (.ok d, S1)) (k : dctOf d S1 = some (.ok kd, S2)) (h : N (sd.set i (.own (.dct kd.1 kd.2))) S2) : Ws (ownDS i f) sd S N R B C := by
  refine ws_run.mpr ?_
  have z : ownDS i f sd S = some (.next (sd.set i (.own (.dct kd.1 kd.2))), S2) := by
    unfold ownDS exS
    simp only [e, k]
  unfold RunS
  rw [z]
  exact h
theorem gs_setK {sd : List SV} {S1 S2 : List Ob} {N : List SV → List Ob → Prop} {R : D → List Ob → Prop} {B C : List SV → List Ob → Prop} {i : Nat} {fi f : List SV → M D} {d y : D} {ks : List L2.Key} {ds : List D} {kk : L2.Key} (e : f sd S = some (.ok d, S1)) (ho : sd[i]? = some (.own (.dct ks ds))) (ei : fi sd S1 = some (.ok y, S2)) (hk : keyD y = some kk) (l : ks.length < lim)
    (h : N (sd.set i (.own (.dct (putKs ks kk) (putDs ks ds kk d)))) S2) : Ws (setKS i fi f) sd S N R B C := by
  refine ws_run.mpr ?_
  have z : setKS i fi f sd S = some (.next (sd.set i (.own (.dct (putKs ks kk) (putDs ks ds kk d)))), S2) := by
    unfold setKS exS
    simp only [e, ho, ei, hk]
    rw [if_pos l]
  unfold RunS
  rw [z]
  exact h
theorem setitem_badn {x v : D} (h : Th x) (e : nameB x = false) : sem_BenchX_setitemX [.ref b, x, v] = M.err ⟨6, some x⟩ := by
  refine err_eq fun S => ?_
  refine xp_fn rfl ?_
  unfold pk_BenchX_setitemX
  simp only [slots, List.map_cons, List.map_nil, List.length_cons, List.length_nil, List.cons_append, List.nil_append, List.replicate, Nat.reduceSub, Nat.reduceAdd]
  (repeat regstrif_gather)
  refine go_val (is_name_ok h) ?_
  rw [e]
  (repeat regstrif_gather)
  exact ⟨rfl, rfl⟩
theorem pat_bad {d : D} (h : Pl d) : sem_check_pattern [d] = M.err ⟨0, some d⟩ := by
  refine err_eq fun S => ?_
  refine xp_fn rfl ?_
  unfold pk_check_pattern
  simp only [slots, List.map_cons, List.map_nil, List.length_cons, List.length_nil, List.cons_append, List.nil_append, List.replicate, Nat.reduceSub, Nat.reduceAdd]
  (repeat regstrif_gather)
  refine go_val (r := .bl false) ?_ ?_
  · cases h <;> rfl
  (repeat regstrif_gather)
  exact ⟨rfl, rfl⟩
theorem setitem_badp {x v : D} (h : Th x) (e : nameB x = true) (hv : Pl v) : sem_BenchX_setitemX [.ref b, x, v] = M.err ⟨0, some v⟩ := by
  refine err_eq fun S => ?_
  refine xp_fn rfl ?_
  unfold pk_BenchX_setitemX
  simp only [slots, List.map_cons, List.map_nil, List.length_cons, List.length_nil, List.cons_append, List.nil_append, List.replicate, Nat.reduceSub, Nat.reduceAdd]
  (repeat regstrif_gather)
  refine go_val (is_name_ok h) ?_
  rw [e]
  (repeat regstrif_gather)
  exact xp_bad (pat_bad hv) ⟨rfl, rfl⟩
theorem wdlen {x : Str} (h : wdB x = true) : x.length ≤ 8 := by
  unfold wdB at h
  simp only [Bool.and_eq_true, decide_eq_true_eq] at h
  omega
theorem setitem_ok {x : Str} {r : List Pc} (hS : S[b]? = some (Bo en past)) (hx : wdB x = true) (l : past.length ≤ 100) (le : en.length ≤ 100) (q : P .non (S.set b (Bo (put x r en) (past ++ [.tup [dP en, .tup []]])))) : Wp (sem_BenchX_setitemX [.ref b, .str x, patD r]) S P := by
  have a0 : attr (tab [(11, .fld 0)]) (.ref b) S = some (.ok (dP en), S) := attr_at hS rfl rfl
  have a1 : attr (tab [(11, .fld 1)]) (.ref b) S = some (.ok (.tup []), S) := attr_at hS rfl rfl
  (unfold sem_BenchX_setitemX; refine Ev.go_fn rfl ?_; unfold pk_BenchX_setitemX; simp only [Ev.slots, List.map_cons, List.map_nil, List.length_cons, List.length_nil, List.cons_append, List.nil_append, List.replicate, Nat.reduceSub, Nat.reduceAdd])
  (repeat regstrif_gather)
  refine go_val (is_name_ok (.str (Nat.le_trans (wdlen hx) (by decide)))) ?_
  rw [show nameB (.str x) = true from hx]
  (repeat regstrif_gather)
  refine go_val (check_pat_ok r) ?_
  (repeat regstrif_gather)
  refine gs_ownD (d := dP en) a0 dct_at ?_
  simp only [List.set_cons_zero, List.set_cons_succ]
  refine gs_seq (gs_setK (i := 3) (d := patD r) (y := .str x) (kk := .inr x) rfl rfl rfl rfl ?_ ?_)
  · show (ksE en).length < lim
    unfold ksE
    rw [List.length_map]
    exact Nat.lt_of_le_of_lt le (by decide)
  rw [put_ks x r, put_ds patD]
  simp only [List.set_cons_zero, List.set_cons_succ]
  (repeat regstrif_gather)
  refine go_at a1 ?_
  (repeat regstrif_gather)
  refine go_val (r := []) rfl ?_
  refine gs_noturn ?_
  refine gs_seq (gs_frzO (i := 3) rfl ?_)
  simp only [List.set_cons_zero, List.set_cons_succ]
  (repeat regstrif_gather)
  refine go_at (pick_at hS rfl) ?_
  (repeat regstrif_gather)
  refine go_at a1 ?_
  (repeat regstrif_gather)
  refine become_wp hS l ?_
  (repeat regstrif_gather)
  exact q
theorem gs_exM {α : Type} {sd : List SV} {N : List SV → List Ob → Prop} {R : D → List Ob → Prop} {B C : List SV → List Ob → Prop} {g : List SV → M α} {k : α → MS} (h : Wp (g sd) S fun a S' => Ws (k a) sd S' N R B C) : Ws (exS g k) sd S N R B C := by
  refine ws_run.mpr ?_
  rw [runS_ex]
  exact h.run.mono fun _ _ q => q.run
theorem put_badn {x v : D} (hS : S[b]? = some (Bo en past)) (h : Th x) (e : nameB x = false) : sem__law_put [.ref b, x, v] S = some (.error ⟨6, some x⟩, S) := by
  refine Xp.err ?_
  refine xp_fn rfl ?_
  unfold pk__law_put
  simp only [slots, List.map_cons, List.map_nil, List.length_cons, List.length_nil, List.cons_append, List.nil_append, List.replicate, Nat.reduceSub, Nat.reduceAdd]
  unfold setXS
  (repeat regstrif_gather)
  refine xs_ex (go_get rfl (xs_ex (go_get rfl (xs_ex (go_get rfl ?_)))))
  refine xs_exX (xp_bind (xp_wp (go_at (pick_at hS rfl) ?_)))
  exact xp_bad (setitem_badn h e) ⟨rfl, rfl⟩
theorem put_badp {x v : D} (hS : S[b]? = some (Bo en past)) (h : Th x) (e : nameB x = true) (hv : Pl v) : sem__law_put [.ref b, x, v] S = some (.error ⟨0, some v⟩, S) := by
  refine Xp.err ?_
  refine xp_fn rfl ?_
  unfold pk__law_put
  simp only [slots, List.map_cons, List.map_nil, List.length_cons, List.length_nil, List.cons_append, List.nil_append, List.replicate, Nat.reduceSub, Nat.reduceAdd]
  unfold setXS
  (repeat regstrif_gather)
  refine xs_ex (go_get rfl (xs_ex (go_get rfl (xs_ex (go_get rfl ?_)))))
  refine xs_exX (xp_bind (xp_wp (go_at (pick_at hS rfl) ?_)))
  exact xp_bad (setitem_badp h e hv) ⟨rfl, rfl⟩
theorem put_wp {x : Str} {r : List Pc} (hS : S[b]? = some (Bo en past)) (hx : wdB x = true) (l : past.length ≤ 100) (le : en.length ≤ 100) (q : P .non (S.set b (Bo (put x r en) (past ++ [.tup [dP en, .tup []]])))) : Wp (sem__law_put [.ref b, .str x, patD r]) S P := by
  (unfold sem__law_put; refine Ev.go_fn rfl ?_; unfold pk__law_put; simp only [Ev.slots, List.map_cons, List.map_nil, List.length_cons, List.length_nil, List.cons_append, List.nil_append, List.replicate, Nat.reduceSub, Nat.reduceAdd])
  unfold setXS
  (repeat regstrif_gather)
  refine gs_exM (go_get rfl (gs_exM (go_get rfl (gs_exM (go_get rfl ?_)))))
  refine gs_exM (go_bind (go_at (pick_at hS rfl) ?_))
  refine setitem_ok hS hx l le ?_
  (repeat regstrif_gather)
  exact q
end
end K61
set_option maxRecDepth 100000
set_option maxHeartbeats 4000000
namespace K61
open PySem Ev
theorem rep_let {q : Nat} (hq : q = 34 ∨ q = 39) {c : Nat} (h : letB c = true) : (Builtin.Str.reprChar q c).length ≤ 2 := by
  have all : ∀ i, i < 26 → (Builtin.Str.reprChar 34 (i + 97)).length ≤ 2 ∧ (Builtin.Str.reprChar 39 (i + 97)).length ≤ 2 := by decide +kernel
  unfold letB at h
  simp only [Bool.and_eq_true, decide_eq_true_eq] at h
  have a := all (c - 97) (by omega)
  rw [show c - 97 + 97 = c by omega] at a
  rcases hq with rfl | rfl
  · exact a.1
  · exact a.2
theorem fold_len {q : Nat} (hq : q = 34 ∨ q = 39) : ∀ (l : List Nat) (a : Array Nat), (∀ c ∈ l, letB c = true) → (l.foldl (fun out c => out ++ (Builtin.Str.reprChar q c).toArray) a).size ≤ a.size + 2 * l.length
  | [], a, _ => Nat.le_refl _
  | c :: l, a, h => by
    have ih := fold_len hq l (a ++ (Builtin.Str.reprChar q c).toArray) fun x hx => h x (List.mem_cons_of_mem _ hx)
    have h1 := rep_let hq (h c List.mem_cons_self)
    rw [List.foldl_cons]
    rw [Array.size_append] at ih
    have e : (Builtin.Str.reprChar q c).toArray.size = (Builtin.Str.reprChar q c).length := rfl
    rw [e] at ih
    rw [List.length_cons]
    omega
theorem wd_let {x : Str} (h : wdB x = true) : ∀ c ∈ x.cps.toList, letB c = true := by
  unfold wdB at h
  rw [Bool.and_eq_true] at h
  exact List.all_eq_true.mp h.2
theorem shw_word {x : Str} (h : wdB x = true) : Shw 0 20 (.str x) := by
  have l8 := wdlen h
  have lt := wd_let h
  unfold Shw
  refine ⟨.str x, rfl, rfl, ?_, Nat.le_refl _, ?_⟩
  · unfold PyData.canLay0
    show x.cps.all _ = true
    rw [← Array.all_toList, List.all_eq_true]
    intro c hc
    have := lt c hc
    unfold letB at this
    simp only [Bool.and_eq_true, decide_eq_true_eq] at this
    simp only [decide_eq_true_eq]
    omega
  · show ((x.cps.foldl (fun out c => out ++ (Builtin.Str.reprChar (PySem.reprQuote x) c).toArray) #[PySem.reprQuote x]).push (PySem.reprQuote x)).size ≤ 20
    have hq : PySem.reprQuote x = 34 ∨ PySem.reprQuote x = 39 := by
      unfold PySem.reprQuote
      split
      · exact .inl rfl
      · exact .inr rfl
    have f := fold_len hq x.cps.toList #[PySem.reprQuote x] lt
    rw [Array.foldl_toList] at f
    rw [Array.size_push]
    have e : x.cps.toList.length = x.length := by
      rw [Array.length_toList]
      rfl
    rw [e] at f
    have : (#[PySem.reprQuote x] : Array Nat).size = 1 := rfl
    omega
theorem all_true (n : Nat) : dAll (.lst (List.replicate n (.bl true))) = M.pure (.bl true) := by
  have z := all_map (fun _ => true) (List.replicate n D.non)
  rw [List.map_replicate] at z
  rw [z]
  simp
theorem shw_row {r : List Pc} (h : Row r) : Shw 2 400 (rowT r) := by
  have a : ShwL 1 ((r.map Pc.D).length * (20 + 2)) (r.map Pc.D) := shl_all fun d hd => by
    obtain ⟨p, hp, rfl⟩ := List.mem_map.mp hd
    exact shw_piece (h.1 p hp)
  exact (shw_tup a).mono (by decide) (by rw [List.length_map]; have := h.2; omega)
theorem pieces_attr (r : List Pc) : attr (tab [(1, .prop sem_Pattern_pieces)]) (patD r) = M.pure (rowT r) := by
  have e : sem_Pattern_pieces [patD r] = M.pure (rowT r) := by
    refine pure_wp fun S => ?_
    (unfold sem_Pattern_pieces; refine Ev.go_fn rfl ?_; unfold pk_Pattern_pieces; simp only [Ev.slots, List.map_cons, List.map_nil, List.length_cons, List.length_nil, List.cons_append, List.nil_append, List.replicate, Nat.reduceSub, Nat.reduceAdd])
    (repeat regstrif_gather)
    exact go_val (r := rowT r) rfl ⟨rfl, rfl⟩
  show noErr (sem_Pattern_pieces [patD r]) = _
  rw [e]
  rfl
abbrev Kd (en : En) (kd : D) (S : List Ob) : Prop := dctOf kd S = some (.ok (ksE en, en.map fun e => rowT e.2), S)
section
variable {S : List Ob} {b : Nat} {en : En} {past : List D} {P : D → List Ob → Prop} {kd : D}
theorem strsK_ok : ∀ en : En, strsK (ksE en) = some (en.map (·.1))
  | [] => rfl
  | e :: l => by
    have ih := strsK_ok l
    show strsK (.inr e.1 :: ksE l) = _
    unfold strsK
    rw [ih]
    rfl
theorem strkeys_at {sd : List SV} {i j : Nat} (e : sd[i]? = some (.val kd)) (hj : j < sd.length) (hK : Kd en kd S) (l : en.length ≤ 50) : strKeys i j sd S = some (.ok (.lst ((en.map (·.1)).map .str)), S) := by
  unfold strKeys
  simp only [e]
  rw [if_pos hj]
  unfold M.bind
  rw [hK]
  show keysD (ksE en, _) S = _
  unfold keysD
  simp only [strsK_ok]
  rw [if_pos (by rw [List.length_map]; exact Nat.lt_of_le_of_lt l (by decide))]
  rfl
theorem sort_ok (l : en.length ≤ 50) : dSortT (.lst ((en.map (·.1)).map .str)) = M.pure (.lst ((sortT (en.map (·.1))).map .str)) := by
  unfold dSortT
  simp only [strsV_map]
  rw [if_pos (by rw [List.length_map]; omega)]
theorem words_mem {x : Str} (h : x ∈ sortT (en.map (·.1))) : ∃ r, find x en = some r := mem_find ((sortT_perm _).mem_iff.mp h)
theorem words_len : (sortT (en.map (·.1))).length = en.length := by
  rw [(sortT_perm _).length_eq, List.length_map]
theorem ix_kept {x : Str} {r : List Pc} (hK : Kd en kd S) (e : find x en = some r) : dIxDct kd (.str x) S = some (.ok (rowT r), S) := by
  have v := val_find rowT x en
  rw [e] at v
  unfold dIxDct M.bind
  rw [hK]
  show (match valD (ksE en) (en.map fun e : Str × List Pc => rowT e.2) (.inr x) with
    | some y => M.pure y
    | none => M.stuck) S = _
  rw [v]
  rfl
def tellV (ws : List Str) (m : Int) : D := .lst [.tup (ws.map .str), .tup [], .int m]
theorem tell_shw {ws : List Str} {m : Int} (h : ∀ x ∈ ws, wdB x = true) (l : ws.length ≤ 50) (hm : 0 ≤ m ∧ m ≤ 50) : Shw 9 5000 (tellV ws m) := by
  have a : ShwL 0 ((ws.map D.str).length * (20 + 2)) (ws.map D.str) := shl_all fun d hd => by
    obtain ⟨x, hx, rfl⟩ := List.mem_map.mp hd
    exact shw_word (h x hx)
  have z : Bd 64 m := Bd.of64 (by omega) (by omega)
  refine (shw_lst (shl_cons (shw_tup a) (shl_cons (shw_tup shl_nil) (shl_cons (shw_int z (by decide)) shl_nil)))).mono (by decide) ?_
  rw [List.length_map]
  omega
theorem nat_ok {n : Nat} (h : n ≤ 50) : natM (.int n) = M.pure (.int n) := by
  unfold natM
  exact if_pos ⟨by omega, by omega⟩
theorem lenx_wp (hS : S[b]? = some (Bo en past)) (l : en.length ≤ 50) (q : P (.int en.length) S) : Wp (lenX (tab [(11, sem_BenchX_lenX)]) (.ref b)) S P := by
  show Wp (ownLenX _ (.ref b)) S P
  unfold ownLenX
  refine go_bind (go_at (pick_at hS rfl) ?_)
  refine go_bind (go_noErr (len_wp hS ?_))
  exact go_val (nat_ok l) q
theorem booll_wp {ws : List Str} (hS : S[b]? = some (Bo en past)) (l : en.length ≤ 50) (e : ws.length = en.length) (q : P (.bl (!ws.isEmpty)) S) : Wp (ownBoolL (tab [(11, sem_BenchX_lenX)]) (.ref b)) S P := by
  have f : ((en.length : Int) != 0) = !ws.isEmpty := by
    rw [← e]
    cases ws with
    | nil => rfl
    | cons x l =>
      have : ((List.length (x :: l) : Nat) : Int) ≠ 0 := by simp only [List.length_cons]; omega
      simpa using this
  unfold ownBoolL
  refine go_bind (go_at (pick_at hS rfl) ?_)
  refine go_bind (go_noErr (len_wp hS ?_))
  refine go_bind (go_val (nat_ok l) ?_)
  show Wp (M.pure (D.bl ((en.length : Int) != 0))) S P
  rw [f]
  exact go_pure q
theorem ne_nil {ws : List Str} (h : ∀ x ∈ ws, wdB x = true) (l : ws.length ≤ 50) : dEq true (.lst (ws.map .str)) (.lst []) = M.pure (.bl (!ws.isEmpty)) := by
  have a : ShwL 0 ((ws.map D.str).length * (20 + 2)) (ws.map D.str) := shl_all fun d hd => by
    obtain ⟨x, hx, rfl⟩ := List.mem_map.mp hd
    exact shw_word (h x hx)
  unfold ShwL at a
  obtain ⟨ps, e, _, c, dp, _⟩ := a
  have s1 := shaped_list c (by omega)
  have s0 : SeqAt.shaped (.list []) = true := by decide +kernel
  have e1 : toP (.lst (ws.map .str)) = some (.list ps) := by
    unfold toP
    rw [e]
    rfl
  show (match toP (.lst (ws.map .str)), toP (.lst []) with
    | some p, some q => if SeqAt.shaped p = true ∧ SeqAt.shaped q = true then M.pure (D.bl (if true then !PyData.eqv p q else PyData.eqv p q)) else M.stuck
    | _, _ => M.stuck) = _
  rw [e1, show toP (.lst []) = some (.list []) from rfl]
  simp only
  rw [if_pos ⟨s1, s0⟩]
  cases ws with
  | nil =>
    cases e
    rfl
  | cons x r =>
    rw [List.map_cons] at e
    unfold toPs at e
    rcases hr : toPs (r.map D.str) with _ | qs
    · rw [hr] at e
      cases e
    · rw [hr] at e
      cases e
      rfl
theorem eq_nilW {ws : List Str} (h : ∀ x ∈ ws, wdB x = true) (l : ws.length ≤ 50) : dEq false (.lst (ws.map .str)) (.lst []) = M.pure (.bl ws.isEmpty) := by
  have a : ShwL 0 ((ws.map D.str).length * (20 + 2)) (ws.map D.str) := shl_all fun d hd => by
    obtain ⟨x, hx, rfl⟩ := List.mem_map.mp hd
    exact shw_word (h x hx)
  unfold ShwL at a
  obtain ⟨ps, e, _, c, dp, _⟩ := a
  have s1 := shaped_list c (by omega)
  have s0 : SeqAt.shaped (.list []) = true := by decide +kernel
  have e1 : toP (.lst (ws.map .str)) = some (.list ps) := by
    unfold toP
    rw [e]
    rfl
  show (match toP (.lst (ws.map .str)), toP (.lst []) with
    | some p, some q => if SeqAt.shaped p = true ∧ SeqAt.shaped q = true then M.pure (D.bl (if false then !PyData.eqv p q else PyData.eqv p q)) else M.stuck
    | _, _ => M.stuck) = _
  rw [e1, show toP (.lst []) = some (.list []) from rfl]
  simp only
  rw [if_pos ⟨s1, s0⟩]
  cases ws with
  | nil =>
    cases e
    rfl
  | cons x r =>
    rw [List.map_cons] at e
    unfold toPs at e
    rcases hr : toPs (r.map D.str) with _ | qs
    · rw [hr] at e
      cases e
    · rw [hr] at e
      cases e
      rfl
theorem state_wp (hS : S[b]? = some (Bo en past)) (hK : Kd en kd S) (ok : EnOk en) (l : en.length ≤ 20) (lp : past.length ≤ 20) (q : P (.bl true) S) : Wp (sem__law_state_right [.ref b, kd, .int past.length]) S P := by
  have hw : ∀ x ∈ sortT (en.map (·.1)), wdB x = true := fun x hx => by
    obtain ⟨r, hr⟩ := words_mem hx
    exact (ok _ (find_mem hr)).1
  have lw : (sortT (en.map (·.1))).length = en.length := words_len
  have so := sort_ok (en := en) (by omega)
  generalize hws : sortT (en.map (·.1)) = ws at *
  have sh := tell_shw (m := past.length) hw (by omega) (by omega)
  (unfold sem__law_state_right; refine Ev.go_fn rfl ?_; unfold pk__law_state_right; simp only [Ev.slots, List.map_cons, List.map_nil, List.length_cons, List.length_nil, List.cons_append, List.nil_append, List.replicate, Nat.reduceSub, Nat.reduceAdd])
  (repeat regstrif_gather)
  refine go_at (strkeys_at rfl (show 4 < 5 by decide) hK (by omega)) ?_
  (repeat regstrif_gather)
  refine go_val so ?_
  (repeat regstrif_gather)
  refine prop_wp hS rfl (names_wp hS (by omega) ?_)
  rw [hws]
  (repeat regstrif_gather)
  refine prop_wp hS rfl (claims_wp hS ?_)
  (repeat regstrif_gather)
  refine prop_wp hS rfl (changes_wp hS ?_)
  (repeat regstrif_gather)
  refine go_val (r := .tup (ws.map .str)) rfl ?_
  (repeat regstrif_gather)
  refine lenx_wp hS (by omega) ?_
  (repeat regstrif_gather)
  refine booll_wp hS (by omega) lw ?_
  (repeat regstrif_gather)
  refine go_val (ne_nil hw (by omega)) ?_
  rw [List.length_map, lw]
  (repeat regstrif_gather)
  refine go_comp (J := fun ds acc S' => S' = S ∧ (∀ d ∈ ds, ∃ x r, d = .str x ∧ wdB x = true ∧ find x en = some r ∧ Row r) ∧ acc = List.replicate acc.length (.bl true) ∧ acc.length + ds.length ≤ 50) ?_ ?_ _ _ _ ⟨rfl, ?_, rfl, ?_⟩
  · rintro d ds acc S' ⟨rfl, hd, ha, hl⟩
    obtain ⟨x, r, rfl, hx, hr, rr⟩ := hd d List.mem_cons_self
    rw [List.length_cons] at hl
    refine ⟨_, rfl, by unfold lim; omega, ?_⟩
    have lx : x.length ≤ 1000 := Nat.le_trans (wdlen hx) (by decide)
    (repeat regstrif_gather)
    refine ownin_wp hS (.str lx) ?_
    rw [show memB en (.str x) = true from find_has hr]
    (repeat regstrif_gather)
    refine go_bind ?_
    (repeat regstrif_gather)
    refine go_at (pick_at hS rfl) ?_
    (repeat regstrif_gather)
    refine getitem_ok hS lx hr ?_
    have sr := shw_row rr
    refine go_val (pieces_attr r) ?_
    (repeat regstrif_gather)
    refine go_at (ix_kept hK hr) ?_
    (repeat regstrif_gather)
    refine ⟨rfl, fun d h => hd d (List.mem_cons_of_mem _ h), ?_, by rw [List.length_append]; simp; omega⟩
    rw [List.length_append, List.length_singleton, List.replicate_succ', ← ha]
  · rintro acc S' ⟨rfl, hd, ha, hl⟩
    rw [ha]
    (repeat regstrif_gather)
    exact go_val (all_true _) q
  · intro d hd
    obtain ⟨x, hx, rfl⟩ := List.mem_map.mp hd
    have hx2 := hx
    rw [← hws] at hx2
    obtain ⟨r, hr⟩ := words_mem hx2
    exact ⟨x, r, rfl, hw x hx, hr, (ok _ (find_mem hr)).2.1⟩
  · rw [List.length_map]
    simp only [List.length_nil]
    omega
end
end K61
set_option maxRecDepth 100000
set_option maxHeartbeats 4000000
namespace K61
open PySem Ev
structure TS (d : D) : Prop where
  th : Th d
  sh : ∃ t, dRepr d = M.pure (.str t) ∧ Sok t
def things : List D := [.non, .bl true, .bl false, .int 0, .int (-1), .int 1000000000000000000000000000000, .str "", .str "abcdefghi", .str "A", .str "a b", .str "a1", .str " a", .str "a\n", .str "zZ", .tup [.str "a"], .lst [],
  .dct [] [], .lst [.str "a"], .dct [.inr "a"] [.int 1], .tup [.str "a", .lst [.str "b"]], .str "a", .str "z", .str "abcdefgh", .str "rail", .str "zzzzzzzz", .str "aa"]
def lnB : D → Bool
  | .str x => decide (x.length ≤ 1000)
  | _ => true
theorem ts_ps {d : D} (h : psB d = true) (l : lnB d = true) : TS d := by
  have p := ps_b h
  refine ⟨⟨?_, ?_⟩, ⟨_, p.sh.1, p.sh.2⟩⟩
  · have := p.pl
    cases this <;> exact ⟨_, rfl, rfl⟩
  · rintro x rfl
    exact of_decide_eq_true l
theorem ts_one : TS (.dct [.inr "a"] [.int 1]) := ⟨⟨⟨_, rfl, rfl⟩, fun x e => by cases e⟩, ⟨(PyData.dict [(PyData.str "a", PyData.int 1)]).shown, by funext S; kernel_rfl, by decide +kernel⟩⟩
theorem ts_all {d : D} (h : d ∈ things) : TS d := by
  by_cases e : d = .dct [.inr "a"] [.int 1]
  · rw [e]
    exact ts_one
  · have m : d ∈ things.take 18 ++ things.drop 19 := by
      have z : things = things.take 18 ++ (.dct [.inr "a"] [.int 1] :: things.drop 19) := rfl
      rw [z] at h
      rcases List.mem_append.mp h with a | a
      · exact List.mem_append_left _ a
      · rcases List.mem_cons.mp a with b | b
        · exact absurd b e
        · exact List.mem_append_right _ b
    have q : (things.take 18 ++ things.drop 19).all (fun d => psB d && lnB d) = true := by decide +kernel
    have r := List.all_eq_true.mp q d m
    rw [Bool.and_eq_true] at r
    exact ts_ps r.1 r.2
def odd3 : List D := [.non, .str "rail 1", .tup [.tup [.str "rail", .int 1]], .tup [.str "rail", .int 1], .int 7, .bl true, .lst [], .dct [] []]
theorem odd3_ps : odd3.all psB = true := by decide +kernel
theorem anything_wp {S : List Ob} {n c : Nat} {P : D → List Ob → Prop} (h : Tape S n c) (hc : c ≤ 900000) (q : ∀ d S', TS d → Tape S' n (c + 1) → Kp n S S' → P d S') : Wp (sem__law_anything [.ref n]) S P := by
  (unfold sem__law_anything; refine Ev.go_fn rfl ?_; unfold pk__law_anything; simp only [Ev.slots, List.map_cons, List.map_nil, List.length_cons, List.length_nil, List.cons_append, List.nil_append, List.replicate, Nat.reduceSub, Nat.reduceAdd])
  refine gs_seq (gs_asg (go_val (r := .lst (things.take 16)) (by funext S; kernel_rfl) ?_))
  refine gs_seq (gs_asg (go_val (r := .lst things) (by funext S; kernel_rfl) ?_))
  (repeat regstrif_gather)
  refine pick_wp h (by omega) (by decide) (by decide) fun k S1 k0 k1 h1 g1 => ?_
  obtain ⟨x, mx, ex⟩ := ix_mem things (i := k) k0 (by show k < 26; omega)
  (repeat regstrif_gather)
  refine go_val ex ?_
  exact q x S1 (ts_all mx) h1 g1
theorem eq_pt {n t : Str} (hn : Sok n) (ht : Sok t) (neg : Bool) : dEq neg (.tup [.str n, .str t]) (.tup [.str n, .str t]) = M.pure (D.bl (!neg)) := by
  have c : (PyData.tuple [.str n, .str t]).canLay0 = true := by
    unfold PyData.canLay0
    show (PyData.strOk n && (PyData.strOk t && true)) = true
    rw [show PyData.strOk n = true from hn, show PyData.strOk t = true from ht]
    rfl
  have s : SeqAt.shaped (.tuple [.str n, .str t]) = true := by
    unfold SeqAt.shaped
    rw [c]
    simp [PyData.depth, PyData.depthAll]
  show (match toP (.tup [.str n, .str t]), toP (.tup [.str n, .str t]) with
    | some p, some q => if SeqAt.shaped p = true ∧ SeqAt.shaped q = true then M.pure (D.bl (if neg then !PyData.eqv p q else PyData.eqv p q)) else M.stuck
    | _, _ => M.stuck) = _
  have e : toP (.tup [.str n, .str t]) = some (.tuple [.str n, .str t]) := rfl
  rw [e]
  simp only
  rw [if_pos ⟨s, s⟩, SeqAt.eqv_refl _ c]
  cases neg <;> rfl
theorem pold_bad {j c : Nat} {n t giv : Str} {rp : D → M D} {tc : Nat → D → M D} {f : M D} {S : List Ob} {d : D} {P : D → List Ob → Prop} (ht : S.any (isTb j) = true) (hf : f S = some (.error ⟨c, some d⟩, S)) (hs : dRepr d = M.pure (.str t)) (ec : tc c d = tellE n d) (q : P (.tup [.str n, .str t]) S) : Wp (hasTbl j (toldM giv rp tc f)) S P := by
  refine pold_err (c := c) (d := d) (S1 := S) ht hf ?_
  rw [ec]
  exact telle_wp hs q
abbrev Ko (en : En) : Ob := .dct (ksE en) (en.map fun e => rowT e.2)
theorem kd_ref {S : List Ob} {k : Nat} {en : En} (h : S[k]? = some (Ko en)) : Kd en (.ref k) S := by
  unfold Kd dctOf
  simp only [h]
theorem indct_kd {S : List Ob} {kd : D} {en : En} {x : Str} {P : D → List Ob → Prop} (hK : Kd en kd S) (q : P (.bl (has x en)) S) : Wp (dInDct false (.str x) kd) S P := by
  unfold dInDct
  refine go_bind (go_at hK ?_)
  show Wp (M.pure (D.bl (false != (valD (ksE en) (en.map fun e => rowT e.2) (.inr x)).isSome))) S _
  rw [val_find, Option.isSome_map, ← has_find]
  rw [show (false != has x en) = has x en from by cases has x en <;> rfl]
  exact go_pure q
theorem lst_ne {S : List Ob} {n c b : Nat} {o : Ob} (h : Tape S n c) (hb : S[b]? = some o) (ho : ∀ l, o ≠ .lst l) : b ≠ n := by
  obtain ⟨⟨a, m, k, e, _⟩, _⟩ := h
  intro z
  rw [z, e] at hb
  cases hb
  exact ho _ rfl
theorem ownin_in {S : List Ob} {b : Nat} {en : En} {past : List D} {P : D → List Ob → Prop} {d : D} (hS : S[b]? = some (Bo en past)) (h : Th d) (q : P (.bl (memB en d)) S) : Wp (ownIn false (tab [(11, sem_BenchX_containsX)]) d (.ref b)) S P := by
  refine ownin_wp hS h ?_
  rw [show (false != memB en d) = memB en d from by cases memB en d <;> rfl]
  exact q
theorem getx_bad {S : List Ob} {b : Nat} {en : En} {past : List D} {d : D} (hS : S[b]? = some (Bo en past)) (h : Th d) (e : memB en d = false) : (M.bind (pick (tab [(11, sem_BenchX_getitemX)]) (.ref b)) fun g => g [.ref b, d]) S = some (.error ⟨13, some d⟩, S) := by
  unfold M.bind
  rw [pick_at (g := sem_BenchX_getitemX) hS rfl]
  exact getitem_bad hS h e
theorem dropx_bad {S : List Ob} {b : Nat} {en : En} {past : List D} {d : D} (hS : S[b]? = some (Bo en past)) (h : Th d) (e : memB en d = false) : (M.bind (pick (tab [(11, sem_Bench_drop)]) (.ref b)) fun g => g [.ref b, d]) S = some (.error ⟨13, some d⟩, S) := by
  unfold M.bind
  rw [pick_at (g := sem_Bench_drop) hS rfl]
  exact drop_bad hS h e
theorem refused_wp {S : List Ob} {b k n c : Nat} {en : En} {past : List D} {P : D → List Ob → Prop} (h : Tape S n c) (hc : c ≤ 700000) (hS : S[b]? = some (Bo en past)) (hK : S[k]? = some (Ko en)) (ok : EnOk en) (q : ∀ S', Tape S' n (c + 20) → Kp n S S' → P (.bl true) S') : Wp (sem__law_refused_right [.ref b, .ref k, .ref n]) S P := by
  have nb : b ≠ n := lst_ne h hS fun l z => by cases z
  have nk : k ≠ n := lst_ne h hK fun l z => by cases z
  (unfold sem__law_refused_right; refine Ev.go_fn rfl ?_; unfold pk__law_refused_right; simp only [Ev.slots, List.map_cons, List.map_nil, List.length_cons, List.length_nil, List.cons_append, List.nil_append, List.replicate, Nat.reduceSub, Nat.reduceAdd])
  (repeat regstrif_gather)
  refine anything_wp h (by omega) fun d S1 td h1 g1 => ?_
  (repeat regstrif_gather)
  refine anyrow_wp h1 (by omega) (by decide) (by decide) fun r S2 hr hn _ h2 g2 => ?_
  (repeat regstrif_gather)
  refine go_val (pat_ok r hr hn) ?_
  (repeat regstrif_gather)
  refine pick_wp h2 (by omega) (by decide) (by decide) fun j S3 j0 j1 h3 g3 => ?_
  obtain ⟨v, mv, evv⟩ := ix_mem odd3 (i := j) j0 (by show j < 8; omega)
  (repeat regstrif_gather)
  refine go_val evv ?_
  have pv := ps_all mv odd3_ps
  have g := (g1.trans g2).trans g3
  have hS3 : S3[b]? = some (Bo en past) := (g.2 b nb).trans hS
  have hK3 := kd_ref ((g.2 k nk).trans hK)
  have fin := q S3 (h3.mono (by omega)) g
  have tb : S3.any (isTb 0) = true := h3.2.any (by decide)
  obtain ⟨t, rt, st⟩ := td.sh
  obtain ⟨u, ru, su⟩ : ∃ u, dRepr v = M.pure (.str u) ∧ Sok u := ⟨_, pv.sh.1, pv.sh.2⟩
  (repeat regstrif_gather)
  refine go_val (law_is_name_ok td.th) ?_
  cases hb : nameB d with
  | false =>
    (repeat regstrif_gather)
    refine go_val rt ?_
    (repeat regstrif_gather)
    refine pold_bad (c := 6) (n := "InvalidName") tb (put_badn hS3 td.th hb) rt rfl ?_
    (repeat regstrif_gather)
    refine go_val (eq_pt (by decide +kernel) st true) ?_
    (repeat regstrif_gather)
    refine pold_bad (c := 6) (n := "InvalidName") tb (put_badn hS3 td.th hb) rt rfl ?_
    (repeat regstrif_gather)
    refine go_val (eq_pt (by decide +kernel) st true) ?_
    (repeat regstrif_gather)
    cases hm : memB en d with
    | true =>
      obtain ⟨x, rfl⟩ : ∃ x, d = .str x := by
        cases d with
        | str x => exact ⟨x, rfl⟩
        | _ => cases hm
      have hx : has x en = true := hm
      obtain ⟨r2, hr2⟩ : ∃ r, find x en = some r := by
        rw [has_find] at hx
        exact Option.isSome_iff_exists.mp hx
      have sr := shw_row (ok _ (find_mem hr2)).2.1
      (refine go_val (isa_t rfl) ?_; simp only [tyB]; (repeat regstrif_gather))
      refine indct_kd hK3 ?_
      rw [hx]
      (repeat regstrif_gather)
      refine ownin_in hS3 td.th ?_
      rw [hm]
      (repeat regstrif_gather)
      refine go_at (pick_at hS3 rfl) ?_
      (repeat regstrif_gather)
      refine getitem_ok hS3 (td.th.ln x rfl) hr2 ?_
      refine go_val (pieces_attr r2) ?_
      (repeat regstrif_gather)
      refine go_at (ix_kept hK3 hr2) ?_
      (repeat regstrif_gather)
      exact fin
    | false =>
      by_cases hd : ∃ x, d = .str x
      · obtain ⟨x, rfl⟩ := hd
        (refine go_val (isa_t rfl) ?_; simp only [tyB]; (repeat regstrif_gather))
        refine indct_kd hK3 ?_
        rw [show has x en = false from hm]
        (repeat regstrif_gather)
        refine ownin_in hS3 td.th ?_
        rw [hm]
        (repeat regstrif_gather)
        refine go_val rt ?_
        (repeat regstrif_gather)
        refine pold_bad (c := 13) (n := "UnknownName") tb (getx_bad hS3 td.th hm) rt rfl ?_
        (repeat regstrif_gather)
        refine go_val (eq_pt (by decide +kernel) st true) ?_
        (repeat regstrif_gather)
        refine pold_bad (c := 13) (n := "UnknownName") tb (dropx_bad hS3 td.th hm) rt rfl ?_
        (repeat regstrif_gather)
        exact go_val (r := .bl true) (eq_pt (by decide +kernel) st false) fin
      · obtain ⟨a, ka, ty⟩ := td.th.isa
        have ty : tyB d .str = false := by
          cases d with
          | str x => exact absurd ⟨x, rfl⟩ hd
          | _ => exact ty
        refine go_val (isa_t ka) ?_
        rw [ty]
        (repeat regstrif_gather)
        refine ownin_in hS3 td.th ?_
        rw [hm]
        (repeat regstrif_gather)
        refine go_val rt ?_
        (repeat regstrif_gather)
        refine pold_bad (c := 13) (n := "UnknownName") tb (getx_bad hS3 td.th hm) rt rfl ?_
        (repeat regstrif_gather)
        refine go_val (eq_pt (by decide +kernel) st true) ?_
        (repeat regstrif_gather)
        refine pold_bad (c := 13) (n := "UnknownName") tb (dropx_bad hS3 td.th hm) rt rfl ?_
        (repeat regstrif_gather)
        exact go_val (r := .bl true) (eq_pt (by decide +kernel) st false) fin
  | true =>
    (repeat regstrif_gather)
    refine pold_bad (c := 0) (n := "NotAPattern") tb (put_badp hS3 td.th hb pv.pl) ru rfl ?_
    (repeat regstrif_gather)
    refine go_val ru ?_
    (repeat regstrif_gather)
    refine go_val (eq_pt (by decide +kernel) su true) ?_
    (repeat regstrif_gather)
    cases hm : memB en d with
    | true =>
      obtain ⟨x, rfl⟩ : ∃ x, d = .str x := by
        cases d with
        | str x => exact ⟨x, rfl⟩
        | _ => cases hm
      have hx : has x en = true := hm
      obtain ⟨r2, hr2⟩ : ∃ r, find x en = some r := by
        rw [has_find] at hx
        exact Option.isSome_iff_exists.mp hx
      have sr := shw_row (ok _ (find_mem hr2)).2.1
      (refine go_val (isa_t rfl) ?_; simp only [tyB]; (repeat regstrif_gather))
      refine indct_kd hK3 ?_
      rw [hx]
      (repeat regstrif_gather)
      refine ownin_in hS3 td.th ?_
      rw [hm]
      (repeat regstrif_gather)
      refine go_at (pick_at hS3 rfl) ?_
      (repeat regstrif_gather)
      refine getitem_ok hS3 (td.th.ln x rfl) hr2 ?_
      refine go_val (pieces_attr r2) ?_
      (repeat regstrif_gather)
      refine go_at (ix_kept hK3 hr2) ?_
      (repeat regstrif_gather)
      exact fin
    | false =>
      by_cases hd : ∃ x, d = .str x
      · obtain ⟨x, rfl⟩ := hd
        (refine go_val (isa_t rfl) ?_; simp only [tyB]; (repeat regstrif_gather))
        refine indct_kd hK3 ?_
        rw [show has x en = false from hm]
        (repeat regstrif_gather)
        refine ownin_in hS3 td.th ?_
        rw [hm]
        (repeat regstrif_gather)
        refine go_val rt ?_
        (repeat regstrif_gather)
        refine pold_bad (c := 13) (n := "UnknownName") tb (getx_bad hS3 td.th hm) rt rfl ?_
        (repeat regstrif_gather)
        refine go_val (eq_pt (by decide +kernel) st true) ?_
        (repeat regstrif_gather)
        refine pold_bad (c := 13) (n := "UnknownName") tb (dropx_bad hS3 td.th hm) rt rfl ?_
        (repeat regstrif_gather)
        exact go_val (r := .bl true) (eq_pt (by decide +kernel) st false) fin
      · obtain ⟨a, ka, ty⟩ := td.th.isa
        have ty : tyB d .str = false := by
          cases d with
          | str x => exact absurd ⟨x, rfl⟩ hd
          | _ => exact ty
        refine go_val (isa_t ka) ?_
        rw [ty]
        (repeat regstrif_gather)
        refine ownin_in hS3 td.th ?_
        rw [hm]
        (repeat regstrif_gather)
        refine go_val rt ?_
        (repeat regstrif_gather)
        refine pold_bad (c := 13) (n := "UnknownName") tb (getx_bad hS3 td.th hm) rt rfl ?_
        (repeat regstrif_gather)
        refine go_val (eq_pt (by decide +kernel) st true) ?_
        (repeat regstrif_gather)
        refine pold_bad (c := 13) (n := "UnknownName") tb (dropx_bad hS3 td.th hm) rt rfl ?_
        (repeat regstrif_gather)
        exact go_val (r := .bl true) (eq_pt (by decide +kernel) st false) fin
end K61
set_option maxRecDepth 100000
set_option maxHeartbeats 4000000
namespace K61
open PySem Ev
def Lt (x : Str) : Prop := ∃ c, letB c = true ∧ x = ⟨#[c]⟩
theorem wd_of {x : Str} {l : List Nat} (e : x.cps.toList = l) (h1 : 1 ≤ l.length) (h8 : l.length ≤ 8) (h : ∀ c ∈ l, letB c = true) : wdB x = true := by
  have s : x.length = l.length := by
    rw [← e, Array.length_toList]
    rfl
  unfold wdB
  rw [s, e, decide_eq_true (show (1 : Int) ≤ (l.length : Nat) by omega), decide_eq_true (show ((l.length : Nat) : Int) ≤ 8 by omega)]
  exact List.all_eq_true.mpr h
theorem wd_tl {x : Str} (h : wdB x = true) : 1 ≤ x.cps.toList.length ∧ x.cps.toList.length ≤ 8 ∧ ∀ c ∈ x.cps.toList, letB c = true := by
  have s : x.length = x.cps.toList.length := by
    rw [Array.length_toList]
    rfl
  have z := wd_let h
  unfold wdB at h
  simp only [Bool.and_eq_true, decide_eq_true_eq] at h
  exact ⟨by omega, by omega, z⟩
theorem joinL_one : ∀ ps : List (List Nat), (∀ p ∈ ps, ∃ c, letB c = true ∧ p = [c]) → (TL.joinL [] ps).length = ps.length ∧ ∀ c ∈ TL.joinL [] ps, letB c = true
  | [], _ => ⟨rfl, fun c h => by cases h⟩
  | [p], h => by
    obtain ⟨c, hc, rfl⟩ := h p (by simp)
    exact ⟨rfl, fun d hd => by
      rw [show TL.joinL [] [[c]] = [c] from rfl] at hd
      rw [List.mem_singleton.mp hd]
      exact hc⟩
  | p :: q :: r, h => by
    obtain ⟨c, hc, rfl⟩ := h p (by simp)
    have ih := joinL_one (q :: r) fun x hx => h x (List.mem_cons_of_mem _ hx)
    have e : TL.joinL [] ([c] :: q :: r) = c :: TL.joinL [] (q :: r) := rfl
    rw [e]
    refine ⟨by rw [List.length_cons, ih.1]; rfl, fun d hd => ?_⟩
    rcases List.mem_cons.mp hd with z | z
    · rw [z]
      exact hc
    · exact ih.2 d z
theorem sum_one : ∀ ls : List Str, (∀ x ∈ ls, Lt x) → (ls.map (·.length)).sum = ls.length
  | [], _ => rfl
  | x :: l, h => by
    obtain ⟨c, _, rfl⟩ := h x (by simp)
    have ih := sum_one l fun y hy => h y (List.mem_cons_of_mem _ hy)
    rw [List.map_cons, List.sum_cons, ih, List.length_cons]
    show 1 + l.length = l.length + 1
    omega
theorem join_wd {ls : List Str} (h : ∀ x ∈ ls, Lt x) (h1 : 1 ≤ ls.length) (h8 : ls.length ≤ 8) : ∃ x, dJoin "" (.lst (ls.map .str)) = M.pure (.str x) ∧ wdB x = true := by
  refine ⟨Txt.join "" ls, ?_, ?_⟩
  · unfold dJoin
    simp only [txts_map]
    rw [if_pos]
    rw [sum_one ls h, show (("" : Str).length) = 0 by decide]
    omega
  · have e : (Txt.join "" ls).cps.toList = TL.joinL [] (ls.map TL.tl) := by
      rw [TL.join_eq]
      have := TL.tl_join "" ls
      rw [show TL.tl ("" : Str) = [] by decide +kernel] at this
      exact this
    have j := joinL_one (ls.map TL.tl) fun p hp => by
      obtain ⟨x, hx, rfl⟩ := List.mem_map.mp hp
      obtain ⟨c, hc, rfl⟩ := h x hx
      exact ⟨c, hc, rfl⟩
    rw [List.length_map] at j
    exact wd_of e (by omega) (by omega) j.2
theorem add_wd {x y : Str} (hx : wdB x = true) (hl : x.cps.toList.length ≠ 8) (hy : Lt y) : ∃ z, dAdd (.str x) (.str y) = M.pure (.str z) ∧ wdB z = true := by
  obtain ⟨h1, h8, ha⟩ := wd_tl hx
  obtain ⟨c, hc, rfl⟩ := hy
  refine ⟨x ++ ⟨#[c]⟩, ?_, ?_⟩
  · have s : x.length = x.cps.toList.length := by
      rw [Array.length_toList]
      rfl
    show (if x.length + (⟨#[c]⟩ : Str).length ≤ lim then M.pure (D.str (x ++ ⟨#[c]⟩)) else M.stuck) = _
    rw [if_pos]
    have e1 : (⟨#[c]⟩ : Str).length = 1 := rfl
    rw [e1, s]
    exact Nat.le_trans (show x.cps.toList.length + 1 ≤ 9 by omega) (by decide)
  · have e : (x ++ (⟨#[c]⟩ : Str)).cps.toList = x.cps.toList ++ [c] := TL.tl_append x ⟨#[c]⟩
    refine wd_of e (by rw [List.length_append, List.length_singleton]; omega) (by rw [List.length_append, List.length_singleton]; omega) fun d hd => ?_
    rcases List.mem_append.mp hd with z | z
    · exact ha d z
    · rw [List.mem_singleton.mp z]
      exact hc
theorem cut_wd {x : Str} (hx : wdB x = true) (hl : x.cps.toList.length ≠ 1) : ∃ z, dSl (.str x) none (some (-1)) = M.pure (.str z) ∧ wdB z = true := by
  obtain ⟨h1, h8, ha⟩ := wd_tl hx
  have s : x.length = x.cps.toList.length := by
    rw [Array.length_toList]
    rfl
  refine ⟨L2.cutS x none (some (-1)), ?_, ?_⟩
  · show (if x.length ≤ lim then M.pure (D.str (L2.cutS x none (some (-1)))) else M.stuck) = _
    rw [if_pos (Nat.le_trans (show x.length ≤ 8 by omega) (by decide))]
  · have e : (L2.cutS x none (some (-1))).cps.toList = x.cps.toList.take (x.cps.toList.length - 1) := by
      show ((x.cps.toList.drop (HT.sIx x.length 0 none)).take (HT.sIx x.length x.length (some (-1)) - HT.sIx x.length 0 none)) = _
      rw [HT.sIx_none, List.drop_zero, s, Nat.sub_zero]
      congr 1
      show (if (-1 : Int) < 0 then ((-1 : Int) + ((x.cps.toList.length : Nat) : Int)).toNat else min (-1 : Int).toNat x.cps.toList.length) = _
      rw [if_pos (by decide)]
      omega
    refine wd_of e (by rw [List.length_take]; omega) (by rw [List.length_take]; omega) fun d hd => ha d (List.mem_of_mem_take hd)
theorem ix_alpha {k : Int} (k0 : 0 ≤ k) (k1 : k < 26) : ∃ x, Lt x ∧ dIx (.str "abcdefghijklmnopqrstuvwxyz") (.int k) = M.pure (.str x) := by
  have a : L2.atI ("abcdefghijklmnopqrstuvwxyz" : Str).cps.toList k = some (k.toNat + 97) := by
    rw [letters]
    unfold L2.atI L2.ixN
    rw [if_pos k0, List.length_map, List.length_range, if_pos (by omega)]
    show ((List.range 26).map (· + 97))[k.toNat]? = _
    rw [List.getElem?_map, List.getElem?_range (by omega)]
    rfl
  refine ⟨⟨#[k.toNat + 97]⟩, ⟨_, ?_, rfl⟩, ?_⟩
  · unfold letB
    rw [decide_eq_true (show 97 ≤ k.toNat + 97 by omega), decide_eq_true (show k.toNat + 97 ≤ 122 by omega)]
    rfl
  · funext S
    show (if ("abcdefghijklmnopqrstuvwxyz" : Str).length ≤ lim then (match L2.atI ("abcdefghijklmnopqrstuvwxyz" : Str).cps.toList k with | some c => some (Except.ok (D.str ⟨#[c]⟩), S) | none => none) else none) = _
    rw [if_pos (by decide +kernel), a]
    rfl
theorem anyword_wp {S : List Ob} {n c : Nat} {ws : List Str} {P : D → List Ob → Prop} (h : Tape S n c) (hc : c ≤ 800000) (hw : ∀ x ∈ ws, wdB x = true) (l : ws.length ≤ 50) (q : ∀ x S', wdB x = true → Tape S' n (c + 30) → Kp n S S' → P (.str x) S') : Wp (sem__law_anyword [.ref n, .lst (ws.map .str)]) S P := by
  have la : Lt "a" := ⟨97, by decide, by decide +kernel⟩
  have lz : Lt "z" := ⟨122, by decide, by decide +kernel⟩
  (unfold sem__law_anyword; refine Ev.go_fn rfl ?_; unfold pk__law_anyword; simp only [Ev.slots, List.map_cons, List.map_nil, List.length_cons, List.length_nil, List.cons_append, List.nil_append, List.replicate, Nat.reduceSub, Nat.reduceAdd])
  (repeat regstrif_gather)
  refine pick_wp h (by omega) (by decide) (by decide) fun way S1 w0 w1 h1 g1 => ?_
  (repeat regstrif_gather)
  refine pick_wp h1 (by omega) (by decide) (by decide) fun m S2 m0 m1 h2 g2 => ?_
  (repeat regstrif_gather)
  refine go_comp (J := fun ds acc S' => ∃ c', Tape S' n c' ∧ Kp n S S' ∧ c' + 2 * ds.length ≤ c + 20 ∧ ∃ ls : List Str, acc = ls.map D.str ∧ (∀ x ∈ ls, Lt x) ∧ ls.length + ds.length = (1 + m).toNat) ?_ ?_ _ _ _ ⟨c + 2, h2, g1.trans g2, by simp only [rng_len]; omega, [], rfl, fun x hx => (by cases hx), by simp [rngD]⟩
  · rintro d ds acc S' ⟨c', h3, g, hc', ls, rfl, ho, hl⟩
    rw [List.length_cons] at hl hc'
    refine ⟨_, rfl, by rw [List.length_map]; unfold lim; omega, ?_⟩
    (repeat regstrif_gather)
    refine pick_wp h3 (by omega) (by decide) (by decide) fun i S4 i0 i1 h4 g4 => ?_
    obtain ⟨x, lx, ex⟩ := ix_alpha i0 i1
    (repeat regstrif_gather)
    refine go_val ex ?_
    (repeat regstrif_gather)
    refine pick_wp h4 (by omega) (by decide) (by decide) fun j S5 j0 j1 h5 g5 => ?_
    obtain ⟨y, ly, ey⟩ : ∃ y, Lt y ∧ dIx (.lst [.str "a", .str "z", .str x]) (.int (if j < 2 then j else 2)) = M.pure (.str y) := by
      rcases (show j = 0 ∨ j = 1 ∨ 2 ≤ j by omega) with rfl | rfl | z
      · exact ⟨_, la, rfl⟩
      · exact ⟨_, lz, rfl⟩
      · exact ⟨_, lx, by rw [if_neg (by omega)]; rfl⟩
    (repeat regstrif_gather)
    refine go_val ey ?_
    refine ⟨c' + 1 + 1, h5, (g.trans g4).trans g5, by omega, ls ++ [y], ?_, ?_, ?_⟩
    · rw [List.map_append]
      rfl
    · intro z hz
      rcases List.mem_append.mp hz with a | a
      · exact ho z a
      · rw [List.mem_singleton.mp a]
        exact ly
    · rw [List.length_append, List.length_singleton]
      omega
  · rintro acc S' ⟨c', h3, g, hc', ls, rfl, ho, hl⟩
    simp only [List.length_nil] at hl hc'
    obtain ⟨u, eu, wu⟩ := join_wd ho (by omega) (by omega)
    have fin : ∀ x, wdB x = true → P (.str x) S' := fun x hx => q x S' hx (h3.mono (by omega)) g
    (repeat regstrif_gather)
    cases ws with
    | nil =>
      refine go_val (r := .bl true) (eq_nilW hw l) ?_
      (repeat regstrif_gather)
      exact go_val (r := "") rfl (go_val eu (fin u wu))
    | cons w ws2 =>
      refine go_val (r := .bl false) (eq_nilW hw l) ?_
      (repeat regstrif_gather)
      refine ite_d (fun z => ?_) (fun z => ?_)
      · (repeat regstrif_gather)
        exact go_val (r := "") rfl (go_val eu (fin u wu))
      · have lw : ((w :: ws2).map D.str).length = ws2.length + 1 := by rw [List.length_map, List.length_cons]
        rw [List.length_cons] at l
        (repeat regstrif_gather)
        refine pick_wp h3 (by omega) (by rw [lw]; omega) (by rw [lw]; omega) fun i S4 i0 i1 h4 g4 => ?_
        obtain ⟨d, md, ed⟩ := ix_mem ((w :: ws2).map D.str) (i := i) i0 i1
        obtain ⟨x, mx, rfl⟩ := List.mem_map.mp md
        have wx := hw x mx
        obtain ⟨h1', h8', hl'⟩ := wd_tl wx
        have lx : x.length = x.cps.toList.length := by
          rw [Array.length_toList]
          rfl
        have ln := len_str (x := x) (by omega)
        have fin2 : ∀ x, wdB x = true → P (.str x) S4 := fun x hx => q x S4 hx (h4.mono (by omega)) (g.trans g4)
        obtain ⟨y, ly, ey⟩ : ∃ y, Lt y ∧ dIx (.lst (ls.map D.str)) (.int 0) = M.pure (.str y) := by
          obtain ⟨d, md, ed⟩ := ix_mem (ls.map D.str) (i := 0) (by decide) (by rw [List.length_map]; omega)
          obtain ⟨y, my, rfl⟩ := List.mem_map.mp md
          exact ⟨y, ho y my, ed⟩
        (repeat regstrif_gather)
        refine go_val ed ?_
        (repeat regstrif_gather)
        refine ite_d (fun z1 => ?_) (fun z1 => ?_)
        · (repeat regstrif_gather)
          exact fin2 x wx
        · (repeat regstrif_gather)
          refine go_val ln ?_
          (repeat regstrif_gather)
          refine ite_d (fun z2 => ?_) (fun z2 => ?_)
          · (repeat regstrif_gather)
            exact fin2 x wx
          · obtain ⟨v, evv, wv⟩ := add_wd wx (show x.cps.toList.length ≠ 8 by omega) ly
            (repeat regstrif_gather)
            refine ite_d (fun z3 => ?_) (fun z3 => ?_)
            · (repeat regstrif_gather)
              refine go_val ey ?_
              (repeat regstrif_gather)
              exact go_val evv (fin2 v wv)
            · (repeat regstrif_gather)
              refine go_val ln ?_
              (repeat regstrif_gather)
              refine ite_d (fun z4 => ?_) (fun z4 => ?_)
              · (repeat regstrif_gather)
                refine go_val ey ?_
                (repeat regstrif_gather)
                exact go_val evv (fin2 v wv)
              · obtain ⟨v, evv, wv⟩ := cut_wd wx (show x.cps.toList.length ≠ 1 by omega)
                (repeat regstrif_gather)
                exact go_val evv (fin2 v wv)
structure St (S : List Ob) (n c b k b2 : Nat) (en : En) (past : List D) : Prop where
  tp : Tape S n c
  bo : S[b]? = some (Bo en past)
  ko : S[k]? = some (Ko en)
  bt : S[b2]? = some (Bo [] [])
  ne : b ≠ b2
  ok : EnOk en
  le : en.length ≤ past.length
theorem St.kp {S S' : List Ob} {n c c' b k b2 : Nat} {en : En} {past : List D} (h : St S n c b k b2 en past) (t : Tape S' n c') (g : Kp n S S') : St S' n c' b k b2 en past :=
  ⟨t, (g.2 b (lst_ne h.tp h.bo fun l z => by cases z)).trans h.bo, (g.2 k (lst_ne h.tp h.ko fun l z => by cases z)).trans h.ko, (g.2 b2 (lst_ne h.tp h.bt fun l z => by cases z)).trans h.bt, h.ne, h.ok, h.le⟩
end K61
set_option maxRecDepth 100000
set_option maxHeartbeats 4000000
namespace K61
open PySem Ev
theorem init_at (S : List Ob) : sem_BenchX_initX [] S = some (.ok (.ref S.length), S ++ [Bo [] []]) := rfl
theorem rng_cons (lo : Int) (n : Nat) : rngD lo (n + 1) = .int lo :: rngD (lo + 1) n := by
  unfold rngD
  rw [List.range_succ_eq_map, List.map_cons, List.map_map]
  congr 1
  · simp
  · refine List.map_congr_left fun i _ => ?_
    show D.int (lo + ((i + 1 : Nat) : Int)) = D.int (lo + 1 + (i : Nat))
    congr 1
    omega
theorem Tape.setO {S : List Ob} {n c i : Nat} {o o' : Ob} (h : Tape S n c) (hi : S[i]? = some o') (ho : ∀ l, o' ≠ .lst l) (ht : ∀ j, o' ≠ .tbl j) : Tape (S.set i o) n c := by
  have ne := lst_ne h hi ho
  obtain ⟨⟨a, m, kk, e, h1, h2, h3, h4, h5⟩, tb⟩ := h
  refine ⟨⟨a, m, kk, (List.getElem?_set_ne ne).trans e, h1, h2, h3, h4, h5⟩, fun j hj => ?_⟩
  have tj := tb j hj
  refine (List.getElem?_set_ne fun z => ?_).trans tj
  rw [z, tj] at hi
  cases hi
  exact ht j rfl
theorem pold_okW {j : Nat} {giv : Str} {rp : D → M D} {tc : Nat → D → M D} {f : M D} {S : List Ob} {P : D → List Ob → Prop} (ht : S.any (isTb j) = true) (hf : Wp f S fun a S1 => Wp (rp a) S1 fun u S2 => P (.tup [.str giv, u]) S2) : Wp (hasTbl j (toldM giv rp tc f)) S P := by
  obtain ⟨a, S1, e, q⟩ := hf.ex
  exact pold_ok ht e q
theorem itemD_at {fo fi : List SV → M D} {sd : List SV} {S : List Ob} {n : Nat} {ks : List L2.Key} {ds : List D} {d y : D} {kk : L2.Key} (ho : fo sd S = some (.ok (.ref n), S)) (hi : fi sd S = some (.ok y, S)) (hk : keyD y = some kk) (hS : S[n]? = some (.dct ks ds)) (l : ks.length < lim) : itemD fo fi d sd S = some (sd, S.set n (.dct (putKs ks kk) (putDs ks ds kk d))) := by
  unfold itemD
  simp only [ho, hi, hk, hS]
  rw [if_pos l]
theorem St.bench {S : List Ob} {n c b k b2 : Nat} {en en' : En} {past past' : List D} (h : St S n c b k b2 en past) : Tape (S.set b (Bo en' past')) n c ∧ (S.set b (Bo en' past'))[b]? = some (Bo en' past') ∧ (S.set b (Bo en' past'))[k]? = some (Ko en) ∧ (S.set b (Bo en' past'))[b2]? = some (Bo [] []) := by
  refine ⟨h.tp.setO h.bo (fun l z => by cases z) (fun j z => by cases z), set_at h.bo, ?_, (List.getElem?_set_ne h.ne).trans h.bt⟩
  refine (List.getElem?_set_ne fun z => ?_).trans h.ko
  have := h.bo
  rw [z, h.ko] at this
  cases this
theorem kept_set {S : List Ob} {n c b k b2 : Nat} {en : En} {past : List D} {en' : En} (tp : Tape S n c) (bo : S[b]? = some (Bo en' past)) (ko : S[k]? = some (Ko en)) (bt : S[b2]? = some (Bo [] [])) : Tape (S.set k (Ko en')) n c ∧ (S.set k (Ko en'))[b]? = some (Bo en' past) ∧ (S.set k (Ko en'))[k]? = some (Ko en') ∧ (S.set k (Ko en'))[b2]? = some (Bo [] []) := by
  refine ⟨tp.setO ko (fun l z => by cases z) (fun j z => by cases z), ?_, set_at ko, ?_⟩
  · refine (List.getElem?_set_ne fun z => ?_).trans bo
    rw [z, bo] at ko
    cases ko
  · refine (List.getElem?_set_ne fun z => ?_).trans bt
    rw [z, bt] at ko
    cases ko
theorem right_ok (S : List Ob) (n : Nat) (h : Tape S n 0) : Wp (sem__law_right [.ref n]) S fun d S' => d = .bl true ∧ TB S' := by
  have hn : n < S.length := h.lt
  (unfold sem__law_right; refine Ev.go_fn rfl ?_; unfold pk__law_right; simp only [Ev.slots, List.map_cons, List.map_nil, List.length_cons, List.length_nil, List.cons_append, List.nil_append, List.replicate, Nat.reduceSub, Nat.reduceAdd])
  (repeat regstrif_gather)
  refine go_at (init_at S) ?_
  (repeat regstrif_gather)
  refine go_at (init_at _) ?_
  (repeat regstrif_gather)
  have s0 : St (S ++ [Bo [] []] ++ [Ob.dct [] []] ++ [Bo [] []]) n 0 S.length (S ++ [Bo [] []]).length (S ++ [Bo [] []] ++ [Ob.dct [] []]).length [] [] := by
    refine ⟨((h.push _).push _).push _, ?_, ?_, ?_, ?_, fun e he => (by cases he), Nat.le_refl _⟩
    · rw [List.append_assoc, List.append_assoc, List.getElem?_append_right (Nat.le_refl _), Nat.sub_self]
      rfl
    · rw [List.append_assoc, List.getElem?_append_right (Nat.le_refl _), Nat.sub_self]
      rfl
    · rw [List.getElem?_append_right (Nat.le_refl _), Nat.sub_self]
      rfl
    · rw [List.length_append, List.length_append]
      simp only [List.length_cons, List.length_nil]
      omega
  generalize (S ++ [Bo [] []] ++ [Ob.dct [] []] ++ [Bo [] []]) = S0 at *
  generalize (S ++ [Bo [] []] ++ [Ob.dct [] []]).length = b2 at *
  generalize (S ++ [Bo [] []]).length = k at *
  generalize S.length = b at *
  refine pick_wp s0.tp (by decide) (by decide) (by decide) fun m S1 m0 m1 h1 g1 => ?_
  have s1 := s0.kp h1 g1
  (repeat regstrif_gather)
  refine gs_loop (J := fun ds sd S' => ∃ (c cnt : Nat) (en : En) (past : List D) (u4 u5 u6 : SV), ds = rngD (past.length : Nat) cnt ∧ past.length + cnt ≤ 7 ∧ c + 100 * cnt ≤ 800 ∧ St S' n c b k b2 en past ∧ sd = [.val (.ref n), .val (.ref b), .val (.ref k), .val (.ref b2), u4, u5, u6, .no]) ?_ ?_ _ _ _ ⟨1, (1 + m).toNat, [], [], .no, .no, .no, rfl, by simp only [List.length_nil]; omega, by omega, s1, rfl⟩
  · rintro d ds sd S2 ⟨c, cnt, en, past, u4, u5, u6, e, hl, hc, s2, rfl⟩
    rcases cnt with _ | cnt
    · cases e
    rw [rng_cons] at e
    cases e
    have le := s2.le
    refine ⟨_, _, rfl, ?_⟩
    (repeat regstrif_gather)
    refine go_at (strkeys_at (kd := .ref k) rfl (show 7 < 8 by decide) (kd_ref s2.ko) (by omega)) ?_
    (repeat regstrif_gather)
    refine anyword_wp s2.tp (by omega) (fun x hx => ?_) (by rw [List.length_map]; omega) fun x S3 wx h3 g3 => ?_
    · obtain ⟨e, he, rfl⟩ := List.mem_map.mp hx
      exact (s2.ok e he).1
    have s3 := s2.kp h3 g3
    (repeat regstrif_gather)
    refine anyrow_wp s3.tp (by omega) (by decide) (by decide) fun r S4 rr rn _ h4 g4 => ?_
    have s4 := s3.kp h4 g4
    (repeat regstrif_gather)
    refine refused_wp s4.tp (by omega) s4.bo s4.ko s4.ok fun S5 h5 g5 => ?_
    have s5 := s4.kp h5 g5
    (repeat regstrif_gather)
    refine state_wp s5.bo (kd_ref s5.ko) s5.ok (by omega) (by omega) ?_
    (repeat regstrif_gather)
    refine pold_okW (s5.tp.2.any (by decide)) ?_
    (repeat regstrif_gather)
    refine go_val (pat_ok r rr rn) ?_
    (repeat regstrif_gather)
    refine put_wp s5.bo wx (by omega) (by omega) ?_
    refine go_val (r := .str "None") (by funext S; kernel_rfl) ?_
    (repeat regstrif_gather)
    refine go_val (r := .bl false) (eq_pt (by decide +kernel) (by decide +kernel) true) ?_
    (repeat regstrif_gather)
    obtain ⟨t6, b6, k6, bt6⟩ := s5.bench (en' := put x r en) (past' := past ++ [D.tup [dP en, .tup []]])
    have pl : (past ++ [D.tup [dP en, .tup []]]).length = past.length + 1 := by rw [List.length_append]; rfl
    have pe := put_len x r en
    have ok6 := s5.ok.put (r := r) wx rr rn
    generalize (past ++ [D.tup [dP en, .tup []]]) = past6 at *
    generalize S5.set b (Bo (put x r en) past6) = S6 at *
    have i6 : itemD (getv 2) (getv 5) (rowT r) [SV.val (D.ref n), SV.val (D.ref b), SV.val (D.ref k), SV.val (D.ref b2), SV.val (D.int past.length), SV.val (D.str x), SV.val (rowT r), SV.no] S6 = some ([SV.val (D.ref n), SV.val (D.ref b), SV.val (D.ref k), SV.val (D.ref b2), SV.val (D.int past.length), SV.val (D.str x), SV.val (rowT r), SV.no], S6.set k (Ko (put x r en))) := by
      have z := itemD_at (fo := getv 2) (fi := getv 5) (sd := [SV.val (D.ref n), SV.val (D.ref b), SV.val (D.ref k), SV.val (D.ref b2), SV.val (D.int past.length), SV.val (D.str x), SV.val (rowT r), SV.no]) (S := S6) (n := k) (d := rowT r) (y := .str x) (kk := .inr x) rfl rfl rfl k6 (by
        unfold ksE
        rw [List.length_map]
        exact Nat.lt_of_le_of_lt (show en.length ≤ 100 by omega) (by decide))
      rw [put_ks x r, put_ds rowT] at z
      exact z
    rw [i6]
    dsimp only
    obtain ⟨t7, b7, k7, bt7⟩ := kept_set (en' := put x r en) t6 b6 k6 bt6
    generalize S6.set k (Ko (put x r en)) = S7 at *
    (repeat regstrif_gather)
    have pc : ((past.length : Int) + 1) = ((past6.length : Nat) : Int) := by rw [pl]; rfl
    rw [pc]
    refine state_wp b7 (kd_ref k7) ok6 (by omega) (by omega) ?_
    (repeat regstrif_gather)
    refine ⟨_, cnt, put x r en, past6, _, _, _, by rw [← pc], by omega, ?_, ⟨t7, b7, k7, bt7, s5.ne, ok6, by omega⟩, rfl⟩
    omega
  · rintro sd S2 ⟨c, cnt, en, past, u4, u5, u6, e, hl, hc, s2, rfl⟩
    have le := s2.le
    (repeat regstrif_gather)
    refine refused_wp s2.tp (by omega) s2.bo s2.ko s2.ok fun S3 h3 g3 => ?_
    have s3 := s2.kp h3 g3
    (repeat regstrif_gather)
    exact state_wp (en := []) (past := []) (kd := .dct [] []) s3.bt rfl (fun e he => by cases he) (by decide) (by decide) ⟨rfl, s3.tp.2⟩
end K61
set_option maxRecDepth 100000
set_option maxHeartbeats 4000000
namespace K61
open PySem Ev
theorem slice4 (ns : List Int) : dSl (.scr (ns.map D.int)) none (some 4) = M.pure (.lst ((ns.take 4).map D.int)) := by
  show M.pure (D.lst (cutD (ns.map D.int) none (some 4))) = _
  rw [cut_take (by decide), List.map_take]
  rfl
theorem cell_ok (ns : List Int) (i : Int) (h0 : 0 ≤ i) (h1 : i < 100) (hb : ∀ z ∈ ns, Builtin.Int.intBits z ≤ 1048576) : ∃ z : Int, sem__law_cell [.scr (ns.map D.int), .int i] = M.pure (.int z) := by
  have hB : ∀ z ∈ ns, Bd 1048576 z := fun z hz => bd_bits (hb z hz)
  suffices h : ∃ z : Int, ∀ S, Wp (sem__law_cell [.scr (ns.map D.int), .int i]) S fun d S' => d = .int z ∧ S' = S by
    obtain ⟨z, h⟩ := h
    exact ⟨z, pure_wp h⟩
  by_cases c : i < (ns.length : Int)
  · obtain ⟨m, rfl⟩ : ∃ m : Nat, i = m := ⟨i.toNat, by omega⟩
    have hm : m < ns.length := by omega
    refine ⟨ns[m], fun S => ?_⟩
    (unfold sem__law_cell; refine Ev.go_fn rfl ?_; unfold pk__law_cell; simp only [Ev.slots, List.map_cons, List.map_nil, List.length_cons, List.length_nil, List.cons_append, List.nil_append, List.replicate, Nat.reduceSub, Nat.reduceAdd])
    (repeat regstrif_gather)
    simp only [List.length_map]
    refine ite_dt c ?_
    (repeat regstrif_gather)
    refine go_val (r := .int ns[m]) (ix_scr (L2.atI_nat (by rw [List.getElem?_map, List.getElem?_eq_getElem hm]; rfl))) ?_
    (repeat regstrif_gather)
    exact ⟨rfl, rfl⟩
  · refine ⟨(ns.take 4).foldl (fun f z => (f * 30011 + z) % 2147483629) (40009 * i * i + 30013 * i + 71), fun S => ?_⟩
    (unfold sem__law_cell; refine Ev.go_fn rfl ?_; unfold pk__law_cell; simp only [Ev.slots, List.map_cons, List.map_nil, List.length_cons, List.length_nil, List.cons_append, List.nil_append, List.replicate, Nat.reduceSub, Nat.reduceAdd])
    (repeat regstrif_gather)
    simp only [List.length_map]
    refine ite_df c ?_
    (repeat regstrif_gather)
    refine go_val (slice4 ns) ?_
    (repeat regstrif_gather)
    generalize ht : (ns.take 4).foldl (fun f z => (f * 30011 + z) % 2147483629) (40009 * i * i + 30013 * i + 71) = t
    refine gs_loop (J := fun ds sd S' => S' = S ∧ ∃ (ys : List Int) (f : Int) (u : SV), ds = ys.map D.int ∧ ys.foldl (fun f z => (f * 30011 + z) % 2147483629) f = t ∧ -18446744073709551616 < f ∧ f < 18446744073709551616 ∧ sd = [.val (.scr (ns.map D.int)), .val (.int i), .val (.int f), u]) ?_ ?_ _ _ _ ⟨rfl, ns.take 4, _, .no, rfl, ht, ?_, ?_, rfl⟩
    · rintro d ds sd S3 ⟨rfl, ys, f, u, e, hf, f0, f1, rfl⟩
      rcases ys with _ | ⟨y, ys⟩
      · cases e
      cases e
      refine ⟨_, _, rfl, ?_⟩
      have bf : Bd 64 f := Bd.of64 f0 f1
      (repeat regstrif_gather)
      have a := Int.emod_nonneg (f * 30011 + y) (show (2147483629 : Int) ≠ 0 by decide)
      have b := Int.emod_lt_of_pos (f * 30011 + y) (show (0 : Int) < 2147483629 by decide)
      exact ⟨rfl, ys, (f * 30011 + y) % 2147483629, _, rfl, hf, by omega, by omega, rfl⟩
    · rintro sd S3 ⟨rfl, ys, f, u, e, hf, f0, f1, rfl⟩
      rcases ys with _ | ⟨y, ys⟩
      · (repeat regstrif_gather)
        exact ⟨by rw [← hf]; rfl, rfl⟩
      · cases e
    all_goals
      have m1 : 0 ≤ i * i := Int.mul_nonneg h0 h0
      have m2 : i * i ≤ 100 * 100 := Int.mul_le_mul (by omega) (by omega) h0 (by decide)
      have m3 : 40009 * i * i = 40009 * (i * i) := Int.mul_assoc _ _ _
      omega
end K61
set_option maxRecDepth 100000
set_option maxHeartbeats 4000000
namespace K61
open PySem Ev
theorem src_ok (z : Int) (S : List Ob) (hT : TB S) : Wp (sem__law_src [.int z]) S fun d S' => d = .ref S.length ∧ Tape S' S.length 0 := by
  have p18 : dPow (.int 10) (.int 18) = M.pure (.int 1000000000000000000) := by funext S; kernel_rfl
  have a := Int.emod_nonneg z (show (2147483629 : Int) ≠ 0 by decide)
  have b := Int.emod_lt_of_pos z (show (0 : Int) < 2147483629 by decide)
  have fin : ∀ w : Int, 0 ≤ w → D.ref S.length = D.ref S.length ∧ Tape (S ++ [.lst [.int w, .int (z % 2147483629), .int 0]]) S.length 0 := fun w hw => ⟨rfl, ⟨_, _, _, List.getElem?_concat_length, hw, a, b, by decide, by decide⟩, hT.push _⟩
  (unfold sem__law_src; refine Ev.go_fn rfl ?_; unfold pk__law_src; simp only [Ev.slots, List.map_cons, List.map_nil, List.length_cons, List.length_nil, List.cons_append, List.nil_append, List.replicate, Nat.reduceSub, Nat.reduceAdd])
  (repeat regstrif_gather)
  refine ite_d (fun c => ?_) (fun c => ?_)
  · (repeat regstrif_gather)
    exact fin _ (by omega)
  · (repeat regstrif_gather)
    refine go_val p18 ?_
    (repeat regstrif_gather)
    refine ite_d (fun c => ?_) (fun c => ?_)
    · (repeat regstrif_gather)
      exact fin _ (by omega)
    · (repeat regstrif_gather)
      exact fin _ (by decide)
theorem law_ok (S : List Ob) (ns : List Int) (l : ns.length ≤ 63) (hT : TB S) (hb : ∀ z ∈ ns, Builtin.Int.intBits z ≤ 1048576) : Wp (sem_law [.scr (ns.map D.int)]) S fun d _ => d = .bl true := by
  (unfold sem_law; refine Ev.go_fn rfl ?_; unfold pk_law; simp only [Ev.slots, List.map_cons, List.map_nil, List.length_cons, List.length_nil, List.cons_append, List.nil_append, List.replicate, Nat.reduceSub, Nat.reduceAdd])
  (repeat regstrif_gather)
  simp only [List.length_map]
  (repeat regstrif_gather)
  refine Wp.mono (spots_keep TB (by split <;> split <;> omega) S hT fun i h0 h1 S hT => ⟨_, rfl, ?_⟩) ?_
  · obtain ⟨z, e⟩ := cell_ok ns i h0 h1 hb
    (repeat regstrif_gather)
    refine go_val e ?_
    (repeat regstrif_gather)
    refine go_use (src_ok z S hT) ?_
    rintro d S' ⟨rfl, hc⟩
    (repeat regstrif_gather)
    exact right_ok S' _ hc
  · intro acc S' h
    (repeat regstrif_gather)
    rw [h]
    exact go_pure rfl
theorem law_true (ns : List Int) (l : ns.length ≤ 63) (hb : ∀ z ∈ ns, Builtin.Int.intBits z ≤ 1048576) : ∃ S, sem_law [.scr (ns.map D.int)] (tbls NT) = some (.ok (.bl true), S) := by
  obtain ⟨a, S, e, rfl⟩ := (law_ok (tbls NT) ns l (fun i hi => by
    unfold tbls
    rw [List.getElem?_map, List.getElem?_range hi]
    rfl) hb).ex
  exact ⟨S, e⟩
end K61
set_option maxRecDepth 100000
set_option maxHeartbeats 4000000
namespace K61
open PySem PySem.Spec PyProof.Rows L2 Ev
def adOf (l : List (Nat × Addr)) (i : Nat) : Addr := match tab l i with | some a => a | none => 0
abbrev st_UnknownNameX_initX : Stmt := inClass (top 15) 0
theorem sc_UnknownNameX_initX : FnScope ["self", "given"] ["self", "given"] (defScope st_UnknownNameX_initX) := ⟨rfl, rfl, rfl, by decide +kernel, rfl, by decide +kernel, by decide +kernel⟩
abbrev st_InvalidPiecesX_initX : Stmt := inClass (top 12) 0
theorem sc_InvalidPiecesX_initX : FnScope ["self", "index"] ["self", "index"] (defScope st_InvalidPiecesX_initX) := ⟨rfl, rfl, rfl, by decide +kernel, rfl, by decide +kernel, by decide +kernel⟩
abbrev st_InvalidTextX_initX : Stmt := inClass (top 8) 0
theorem sc_InvalidTextX_initX : FnScope ["self", "given"] ["self", "given"] (defScope st_InvalidTextX_initX) := ⟨rfl, rfl, rfl, by decide +kernel, rfl, by decide +kernel, by decide +kernel⟩
abbrev st_InvalidNameX_initX : Stmt := inClass (top 9) 0
theorem sc_InvalidNameX_initX : FnScope ["self", "given"] ["self", "given"] (defScope st_InvalidNameX_initX) := ⟨rfl, rfl, rfl, by decide +kernel, rfl, by decide +kernel, by decide +kernel⟩
abbrev st_NotAPatternX_initX : Stmt := inClass (top 3) 0
theorem sc_NotAPatternX_initX : FnScope ["self", "given"] ["self", "given"] (defScope st_NotAPatternX_initX) := ⟨rfl, rfl, rfl, by decide +kernel, rfl, by decide +kernel, by decide +kernel⟩
theorem isS_of {l : List Nat} {c : Nat} {b : Bool} (h : isS l c = some b) : ∃ k, k < 23 ∧ c = 100 + k ∧ b = decide (100 + k ∈ l) := by
  unfold isS at h
  split at h
  · next q =>
    cases h
    refine ⟨c - 100, by omega, by omega, ?_⟩
    rw [show 100 + (c - 100) = c by omega]
  · cases h
theorem all_mk {l : PySem.W.OpenLaw} {w : World} {K : PySem.W.Frag} {h : Heap} {mg : Str → Option Value} {fa : Addr} (X : K.In h) (G : h.Ns mainGlobals mg) (hfa : mg "law" = some (.ref fa))
    {C0 : Addr} {C1 : Addr} {C11 : Addr} {f0 : Addr} {f1 : Addr} {f2 : Addr} {f3 : Addr} {f4 : Addr} {f5 : Addr} {f6 : Addr} {f7 : Addr} {f8 : Addr} {f9 : Addr} {f10 : Addr} {f11 : Addr} {f12 : Addr} {f13 : Addr} {f14 : Addr} {f15 : Addr} {f16 : Addr} {f17 : Addr} {f18 : Addr} {f19 : Addr} {f20 : Addr} {f21 : Addr} {f22 : Addr} {f23 : Addr} {f24 : Addr} {f25 : Addr} {f26 : Addr} {f27 : Addr} {f28 : Addr} {f29 : Addr} {f30 : Addr} {f31 : Addr} {f32 : Addr} {f33 : Addr} {f34 : Addr} {f35 : Addr} {f42 : Addr} {f43 : Addr} {f36 : Addr} {f37 : Addr} {f38 : Addr} {f39 : Addr} {f40 : Addr} {f41 : Addr} {q4_11 : Addr} {rs4_11 : List Value} {q5_11 : Addr} {rs5_11 : List Value} {q6_11 : Addr} {rs6_11 : List Value} {q8_1 : Addr} {rs8_1 : List Value} {q24 : Addr} {mc24 : Value} {rs24 : List Value} {od0 an0 : Option Addr} {sl0 : Array (Option Value)} {oc0 kV0 dc0 pm0 cd0 ct0 : Value} {od1 an1 : Option Addr} {sl1 : Array (Option Value)} {oc1 kV1 dc1 pm1 cd1 ct1 : Value} {od2 an2 : Option Addr} {sl2 : Array (Option Value)} {oc2 kV2 dc2 pm2 cd2 ct2 : Value} {od3 an3 : Option Addr} {sl3 : Array (Option Value)} {oc3 kV3 dc3 pm3 cd3 ct3 : Value} {od4 an4 : Option Addr} {sl4 : Array (Option Value)} {oc4 kV4 dc4 pm4 cd4 ct4 : Value} {od5 an5 : Option Addr} {sl5 : Array (Option Value)} {oc5 kV5 dc5 pm5 cd5 ct5 : Value} {od6 an6 : Option Addr} {sl6 : Array (Option Value)} {oc6 kV6 dc6 pm6 cd6 ct6 : Value} {od7 an7 : Option Addr} {sl7 : Array (Option Value)} {oc7 kV7 dc7 pm7 cd7 ct7 : Value} {od8 an8 : Option Addr} {sl8 : Array (Option Value)} {oc8 kV8 dc8 pm8 cd8 ct8 : Value} {od9 an9 : Option Addr} {sl9 : Array (Option Value)} {oc9 kV9 dc9 pm9 cd9 ct9 : Value} {od10 an10 : Option Addr} {sl10 : Array (Option Value)} {oc10 kV10 dc10 pm10 cd10 ct10 : Value} {od11 an11 : Option Addr} {sl11 : Array (Option Value)} {oc11 kV11 dc11 pm11 cd11 ct11 : Value} {od12 an12 : Option Addr} {sl12 : Array (Option Value)} {oc12 kV12 dc12 pm12 cd12 ct12 : Value} {od13 an13 : Option Addr} {sl13 : Array (Option Value)} {oc13 kV13 dc13 pm13 cd13 ct13 : Value} {od14 an14 : Option Addr} {sl14 : Array (Option Value)} {oc14 kV14 dc14 pm14 cd14 ct14 : Value} {od15 an15 : Option Addr} {sl15 : Array (Option Value)} {oc15 kV15 dc15 pm15 cd15 ct15 : Value} {od16 an16 : Option Addr} {sl16 : Array (Option Value)} {oc16 kV16 dc16 pm16 cd16 ct16 : Value} {od17 an17 : Option Addr} {sl17 : Array (Option Value)} {oc17 kV17 dc17 pm17 cd17 ct17 : Value} {od18 an18 : Option Addr} {sl18 : Array (Option Value)} {oc18 kV18 dc18 pm18 cd18 ct18 : Value} {od19 an19 : Option Addr} {sl19 : Array (Option Value)} {oc19 kV19 dc19 pm19 cd19 ct19 : Value} {od20 an20 : Option Addr} {sl20 : Array (Option Value)} {oc20 kV20 dc20 pm20 cd20 ct20 : Value} {od21 an21 : Option Addr} {sl21 : Array (Option Value)} {oc21 kV21 dc21 pm21 cd21 ct21 : Value} {od22 an22 : Option Addr} {sl22 : Array (Option Value)} {oc22 kV22 dc22 pm22 cd22 ct22 : Value} {od23 an23 : Option Addr} {sl23 : Array (Option Value)} {oc23 kV23 dc23 pm23 cd23 ct23 : Value} {od24 an24 : Option Addr} {sl24 : Array (Option Value)} {oc24 kV24 dc24 pm24 cd24 ct24 : Value} {od25 an25 : Option Addr} {sl25 : Array (Option Value)} {oc25 kV25 dc25 pm25 cd25 ct25 : Value} {od26 an26 : Option Addr} {sl26 : Array (Option Value)} {oc26 kV26 dc26 pm26 cd26 ct26 : Value} {od27 an27 : Option Addr} {sl27 : Array (Option Value)} {oc27 kV27 dc27 pm27 cd27 ct27 : Value} {od28 an28 : Option Addr} {sl28 : Array (Option Value)} {oc28 kV28 dc28 pm28 cd28 ct28 : Value} {od29 an29 : Option Addr} {sl29 : Array (Option Value)} {oc29 kV29 dc29 pm29 cd29 ct29 : Value} {od30 an30 : Option Addr} {sl30 : Array (Option Value)} {oc30 kV30 dc30 pm30 cd30 ct30 : Value} {od31 an31 : Option Addr} {sl31 : Array (Option Value)} {oc31 kV31 dc31 pm31 cd31 ct31 : Value} {od32 an32 : Option Addr} {sl32 : Array (Option Value)} {oc32 kV32 dc32 pm32 cd32 ct32 : Value} {od33 an33 : Option Addr} {sl33 : Array (Option Value)} {oc33 kV33 dc33 pm33 cd33 ct33 : Value} {od34 an34 : Option Addr} {sl34 : Array (Option Value)} {oc34 kV34 dc34 pm34 cd34 ct34 : Value} {od35 an35 : Option Addr} {sl35 : Array (Option Value)} {oc35 kV35 dc35 pm35 cd35 ct35 : Value} {od42 an42 : Option Addr} {sl42 : Array (Option Value)} {oc42 kV42 dc42 pm42 cd42 ct42 : Value} {od43 an43 : Option Addr} {sl43 : Array (Option Value)} {oc43 kV43 dc43 pm43 cd43 ct43 : Value} {od36 an36 : Option Addr} {sl36 : Array (Option Value)} {oc36 kV36 dc36 pm36 cd36 ct36 : Value} {cc37 P37 : Addr} {od37 an37 gd37 : Option Addr} {sl37 gs37 : Array (Option Value)} {oc37 kV37 dc37 pm37 ct37 gc37 : Value} {gv37 : Array Value} {cc38 P38 : Addr} {od38 an38 gd38 : Option Addr} {sl38 gs38 : Array (Option Value)} {oc38 kV38 dc38 pm38 ct38 gc38 : Value} {gv38 : Array Value} {od39 an39 : Option Addr} {sl39 : Array (Option Value)} {oc39 kV39 dc39 pm39 cd39 ct39 : Value} {od40 an40 : Option Addr} {sl40 : Array (Option Value)} {oc40 kV40 dc40 pm40 cd40 ct40 : Value} {od41 an41 : Option Addr} {sl41 : Array (Option Value)} {oc41 kV41 dc41 pm41 cd41 ct41 : Value} {X0 : Addr} {X1 : Addr} {X2 : Addr} {X3 : Addr} {X4 : Addr} {X5 : Addr} {X6 : Addr} {X7 : Addr} {X8 : Addr} {X9 : Addr} {X12 : Addr} {X13 : Addr} {X14 : Addr} {X15 : Addr} {X16 : Addr} {X17 : Addr} {X18 : Addr} {X20 : Addr} {X21 : Addr} {X22 : Addr} {xi13 : Addr} {xN13 xq13 : Str} {xA13 : Addr} {xb13 xm13 xs13 : List Value} {xt13 : List Str} {xa13 : Bool} {xc13 : Option Bool} {xd13 : Option Addr} {xv0_13 xv1_13 xv2_13 xv3_13 xv5_13 : Option Value} {eod13 ean13 : Option Addr} {esl13 : Array (Option Value)} {eoc13 ekV13 edc13 epm13 ecd13 ect13 : Value} {xi9 : Addr} {xN9 xq9 : Str} {xA9 : Addr} {xb9 xm9 xs9 : List Value} {xt9 : List Str} {xa9 : Bool} {xc9 : Option Bool} {xd9 : Option Addr} {xv0_9 xv1_9 xv2_9 xv3_9 xv5_9 : Option Value} {eod9 ean9 : Option Addr} {esl9 : Array (Option Value)} {eoc9 ekV9 edc9 epm9 ecd9 ect9 : Value} {xi5 : Addr} {xN5 xq5 : Str} {xA5 : Addr} {xb5 xm5 xs5 : List Value} {xt5 : List Str} {xa5 : Bool} {xc5 : Option Bool} {xd5 : Option Addr} {xv0_5 xv1_5 xv2_5 xv3_5 xv5_5 : Option Value} {eod5 ean5 : Option Addr} {esl5 : Array (Option Value)} {eoc5 ekV5 edc5 epm5 ecd5 ect5 : Value} {xi6 : Addr} {xN6 xq6 : Str} {xA6 : Addr} {xb6 xm6 xs6 : List Value} {xt6 : List Str} {xa6 : Bool} {xc6 : Option Bool} {xd6 : Option Addr} {xv0_6 xv1_6 xv2_6 xv3_6 xv5_6 : Option Value} {eod6 ean6 : Option Addr} {esl6 : Array (Option Value)} {eoc6 ekV6 edc6 epm6 ecd6 ect6 : Value} {xi0 : Addr} {xN0 xq0 : Str} {xA0 : Addr} {xb0 xm0 xs0 : List Value} {xt0 : List Str} {xa0 : Bool} {xc0 : Option Bool} {xd0 : Option Addr} {xv0_0 xv1_0 xv2_0 xv3_0 xv5_0 : Option Value} {eod0 ean0 : Option Addr} {esl0 : Array (Option Value)} {eoc0 ekV0 edc0 epm0 ecd0 ect0 : Value} {T_WORDS : Addr} {o_WORDS : Option Addr} {its_WORDS : Array Value} {u_WORDS : Nat} {sl_WORDS : Array (Option Value)} {t_DIGITS : Tok} {t_MOST_DIGITS : Tok} {t_MOST_OHMS : Tok} {t_MOST_JOINED : Tok} {t_MOST_PIECES : Tok} {T_NOTHING : Addr} {o_NOTHING : Option Addr} {its_NOTHING : Array Value} {u_NOTHING : Nat} {sl_NOTHING : Array (Option Value)} {t_MOST_LETTERS : Tok} {t_LETTERS : Tok}
    (nC0 : PySem.W.nsIn K mainGlobals "Row" = some (some (.ref C0))) (pgC0 : PySem.W.plainGet K C0 Str.empty = true) (hdC0 : PySem.W.hasDictIn K C0 = true) (poC0 : PySem.W.plainOver K C0 = true)
    (saC0 : PySem.W.findIn K (.ref C0) "__setattr__" = some (some (.builtin "object.__setattr__"))) (ccC0 : PySem.W.findIn K (.ref C0) "__class__" = some (some (.builtin "object.__class__"))) (moC0 : PySem.W.mroIn K C0 (.type "object") = some true) (naC0_told : PySem.W.findIn K (.ref C0) "told" = some none)
    (nC1 : PySem.W.nsIn K mainGlobals "Pattern" = some (some (.ref C1))) (pgC1 : PySem.W.plainGet K C1 Str.empty = true) (hdC1 : PySem.W.hasDictIn K C1 = true) (poC1 : PySem.W.plainOver K C1 = true)
    (saC1 : PySem.W.findIn K (.ref C1) "__setattr__" = some (some (.builtin "object.__setattr__"))) (ccC1 : PySem.W.findIn K (.ref C1) "__class__" = some (some (.builtin "object.__class__"))) (moC1 : PySem.W.mroIn K C1 (.type "object") = some true) (naC1_row : PySem.W.findIn K (.ref C1) "row" = some none)
    (naC1_chain : PySem.W.findIn K (.ref C1) "chain" = some none) (naC1_scale : PySem.W.findIn K (.ref C1) "scale" = some none) (nC11 : PySem.W.nsIn K mainGlobals "Bench" = some (some (.ref C11))) (pgC11 : PySem.W.plainGet K C11 Str.empty = true)
    (hdC11 : PySem.W.hasDictIn K C11 = true) (poC11 : PySem.W.plainOver K C11 = true) (saC11 : PySem.W.findIn K (.ref C11) "__setattr__" = some (some (.builtin "object.__setattr__"))) (ccC11 : PySem.W.findIn K (.ref C11) "__class__" = some (some (.builtin "object.__class__")))
    (moC11 : PySem.W.mroIn K C11 (.type "object") = some true) (naC11_patterns : PySem.W.findIn K (.ref C11) "patterns" = some none) (naC11_made : PySem.W.findIn K (.ref C11) "made" = some none) (naC11_past : PySem.W.findIn K (.ref C11) "past" = some none)
    (a1 : PySem.W.nsIn K mainGlobals "_law_pick" = some (some (.ref f1))) (a2 : PySem.W.nsIn K mainGlobals "_law_anyrow" = some (some (.ref f2))) (a3 : PySem.W.nsIn K mainGlobals "_law_anyword" = some (some (.ref f3))) (a12 : PySem.W.nsIn K mainGlobals "_law_state_right" = some (some (.ref f12)))
    (a13 : PySem.W.nsIn K mainGlobals "integer_in" = some (some (.ref f13))) (a14 : PySem.W.nsIn K mainGlobals "is_integer" = some (some (.ref f14))) (a15 : PySem.W.nsIn K mainGlobals "is_between" = some (some (.ref f15))) (a16 : PySem.W.nsIn K mainGlobals "piece_in" = some (some (.ref f16)))
    (a17 : PySem.W.nsIn K mainGlobals "is_piece" = some (some (.ref f17))) (a18 : PySem.W.nsIn K mainGlobals "check_pieces" = some (some (.ref f18))) (a19 : PySem.W.nsIn K mainGlobals "joined" = some (some (.ref f19))) (a20 : PySem.W.nsIn K mainGlobals "chain_of" = some (some (.ref f20)))
    (a23 : PySem.W.nsIn K mainGlobals "pattern_in" = some (some (.ref f23))) (a25 : PySem.W.nsIn K mainGlobals "_law_text" = some (some (.ref f25))) (a26 : PySem.W.nsIn K mainGlobals "_law_pat" = some (some (.ref f26))) (a27 : PySem.W.nsIn K mainGlobals "_law_anything" = some (some (.ref f27)))
    (a28 : PySem.W.nsIn K mainGlobals "_law_is_name" = some (some (.ref f28))) (a29 : PySem.W.nsIn K mainGlobals "is_name" = some (some (.ref f29))) (a30 : PySem.W.nsIn K mainGlobals "check_pattern" = some (some (.ref f30))) (a33 : PySem.W.nsIn K mainGlobals "_law_put" = some (some (.ref f33)))
    (a42 : PySem.W.nsIn K mainGlobals "_law_error" = some (some (.ref f42))) (a43 : PySem.W.nsIn K mainGlobals "_law_told" = some (some (.ref f43))) (a37 : PySem.W.nsIn K mainGlobals "_law_refused_right" = some (some (.ref f37))) (a38 : PySem.W.nsIn K mainGlobals "_law_right" = some (some (.ref f38)))
    (a39 : PySem.W.nsIn K mainGlobals "_law_src" = some (some (.ref f39))) (a40 : PySem.W.nsIn K mainGlobals "_law_cell" = some (some (.ref f40))) (a41 : PySem.W.nsIn K mainGlobals "law" = some (some (.ref f41))) (a0_11 : PySem.W.findIn K (.ref C11) "__init__" = some (some (.ref f0)))
    (mkC11 : PySem.W.makesIn K C11 = true) (kpC11 : PySem.W.keepIn K (.ref C11) = true) (i0 : PySem.W.isFn K (.ref f0) = true) (a21_1 : PySem.W.findIn K (.ref C1) "__init__" = some (some (.ref f21)))
    (mkC1 : PySem.W.makesIn K C1 = true) (kpC1 : PySem.W.keepIn K (.ref C1) = true) (i21 : PySem.W.isFn K (.ref f21) = true) (a22_0 : PySem.W.findIn K (.ref C0) "__init__" = some (some (.ref f22)))
    (mkC0 : PySem.W.makesIn K C0 = true) (kpC0 : PySem.W.keepIn K (.ref C0) = true) (i22 : PySem.W.isFn K (.ref f22) = true) (a4_11 : PySem.W.findIn K (.ref C11) "changes" = some (some (.ref q4_11)))
    (b4_11 : PySem.W.specialIn K (.ref q4_11) "__get__" = some (some (.builtin "property.__get__"))) (d4_11 : PySem.W.takesIn K (.ref q4_11) = some true) (e4_11 : PySem.W.recIn K q4_11 "property" = some (.ref f4 :: rs4_11)) (a5_11 : PySem.W.findIn K (.ref C11) "claims" = some (some (.ref q5_11)))
    (b5_11 : PySem.W.specialIn K (.ref q5_11) "__get__" = some (some (.builtin "property.__get__"))) (d5_11 : PySem.W.takesIn K (.ref q5_11) = some true) (e5_11 : PySem.W.recIn K q5_11 "property" = some (.ref f5 :: rs5_11)) (a6_11 : PySem.W.findIn K (.ref C11) "names" = some (some (.ref q6_11)))
    (b6_11 : PySem.W.specialIn K (.ref q6_11) "__get__" = some (some (.builtin "property.__get__"))) (d6_11 : PySem.W.takesIn K (.ref q6_11) = some true) (e6_11 : PySem.W.recIn K q6_11 "property" = some (.ref f6 :: rs6_11)) (a7_11 : PySem.W.findIn K (.ref C11) "__len__" = some (some (.ref f7)))
    (i7 : PySem.W.isFn K (.ref f7) = true) (nbC11 : PySem.W.findIn K (.ref C11) "__bool__" = some none) (a8_1 : PySem.W.findIn K (.ref C1) "pieces" = some (some (.ref q8_1))) (b8_1 : PySem.W.specialIn K (.ref q8_1) "__get__" = some (some (.builtin "property.__get__")))
    (d8_1 : PySem.W.takesIn K (.ref q8_1) = some true) (e8_1 : PySem.W.recIn K q8_1 "property" = some (.ref f8 :: rs8_1)) (a9_11 : PySem.W.findIn K (.ref C11) "__contains__" = some (some (.ref f9))) (i9 : PySem.W.isFn K (.ref f9) = true)
    (a10_11 : PySem.W.findIn K (.ref C11) "check_known" = some (some (.ref f10))) (i10 : PySem.W.isFn K (.ref f10) = true) (k10 : PySem.W.keepIn K (.ref f10) = true) (a11_11 : PySem.W.findIn K (.ref C11) "__getitem__" = some (some (.ref f11)))
    (i11 : PySem.W.isFn K (.ref f11) = true) (x11 : PySem.W.fnIn K f11 = true) (a31_11 : PySem.W.findIn K (.ref C11) "become" = some (some (.ref f31))) (i31 : PySem.W.isFn K (.ref f31) = true)
    (k31 : PySem.W.keepIn K (.ref f31) = true) (a32_11 : PySem.W.findIn K (.ref C11) "__setitem__" = some (some (.ref f32))) (i32 : PySem.W.isFn K (.ref f32) = true) (nqC11 : PySem.W.noSeq K C11 = true)
    (a34_1 : PySem.W.findIn K (.ref C1) "__str__" = some (some (.ref f34))) (i34 : PySem.W.isFn K (.ref f34) = true) (foC1 : PySem.W.findIn K (.ref C1) "__format__" = some (some (.builtin "object.__format__"))) (a35_1 : PySem.W.findIn K (.ref C1) "__repr__" = some (some (.ref f35)))
    (i35 : PySem.W.isFn K (.ref f35) = true) (a36_11 : PySem.W.findIn K (.ref C11) "drop" = some (some (.ref f36))) (i36 : PySem.W.isFn K (.ref f36) = true) (k36 : PySem.W.keepIn K (.ref f36) = true)
    (t24 : PySem.W.typeIn K (.ref C1) = some mc24) (b24 : PySem.W.readsIn K C1 mc24 = true) (d24 : PySem.W.specialIn K (.ref C1) "__getattribute__" = some (some (.builtin "type.__getattribute__"))) (a24 : PySem.W.findCls K (.ref C1) mc24 "read" = some (.get (.builtin "staticmethod.__get__") (.ref q24) .none (.ref C1)))
    (e24 : PySem.W.recIn K q24 "staticmethod" = some (.ref f24 :: rs24)) (l0 : K.lookup f0 = some ⟨oc0, od0, .func (PySem.W.fnOf "__init__" "Bench.__init__" (defArgs st_BenchX_initX) (defBody st_BenchX_initX) (defScope st_BenchX_initX) .none kV0 dc0 pm0 an0 cd0 ct0), sl0⟩) (c0 : PySem.W.codeIn K cd0 "Bench.__init__" = true) (k0 : PySem.W.keepIn K (.ref f0) = true)
    (l1 : K.lookup f1 = some ⟨oc1, od1, .func (PySem.W.fnOf "_law_pick" "_law_pick" (defArgs st__law_pick) (defBody st__law_pick) (defScope st__law_pick) .none kV1 dc1 pm1 an1 cd1 ct1), sl1⟩) (c1 : PySem.W.codeIn K cd1 "_law_pick" = true) (k1 : PySem.W.keepIn K (.ref f1) = true) (l2 : K.lookup f2 = some ⟨oc2, od2, .func (PySem.W.fnOf "_law_anyrow" "_law_anyrow" (defArgs st__law_anyrow) (defBody st__law_anyrow) (defScope st__law_anyrow) .none kV2 dc2 pm2 an2 cd2 ct2), sl2⟩)
    (c2 : PySem.W.codeIn K cd2 "_law_anyrow" = true) (k2 : PySem.W.keepIn K (.ref f2) = true) (l3 : K.lookup f3 = some ⟨oc3, od3, .func (PySem.W.fnOf "_law_anyword" "_law_anyword" (defArgs st__law_anyword) (defBody st__law_anyword) (defScope st__law_anyword) .none kV3 dc3 pm3 an3 cd3 ct3), sl3⟩) (c3 : PySem.W.codeIn K cd3 "_law_anyword" = true)
    (k3 : PySem.W.keepIn K (.ref f3) = true) (l4 : K.lookup f4 = some ⟨oc4, od4, .func (PySem.W.fnOf "changes" "Bench.changes" (defArgs st_Bench_changes) (defBody st_Bench_changes) (defScope st_Bench_changes) .none kV4 dc4 pm4 an4 cd4 ct4), sl4⟩) (c4 : PySem.W.codeIn K cd4 "Bench.changes" = true) (k4 : PySem.W.keepIn K (.ref f4) = true)
    (l5 : K.lookup f5 = some ⟨oc5, od5, .func (PySem.W.fnOf "claims" "Bench.claims" (defArgs st_Bench_claims) (defBody st_Bench_claims) (defScope st_Bench_claims) .none kV5 dc5 pm5 an5 cd5 ct5), sl5⟩) (c5 : PySem.W.codeIn K cd5 "Bench.claims" = true) (k5 : PySem.W.keepIn K (.ref f5) = true) (l6 : K.lookup f6 = some ⟨oc6, od6, .func (PySem.W.fnOf "names" "Bench.names" (defArgs st_Bench_names) (defBody st_Bench_names) (defScope st_Bench_names) .none kV6 dc6 pm6 an6 cd6 ct6), sl6⟩)
    (c6 : PySem.W.codeIn K cd6 "Bench.names" = true) (k6 : PySem.W.keepIn K (.ref f6) = true) (l7 : K.lookup f7 = some ⟨oc7, od7, .func (PySem.W.fnOf "__len__" "Bench.__len__" (defArgs st_BenchX_lenX) (defBody st_BenchX_lenX) (defScope st_BenchX_lenX) .none kV7 dc7 pm7 an7 cd7 ct7), sl7⟩) (c7 : PySem.W.codeIn K cd7 "Bench.__len__" = true)
    (k7 : PySem.W.keepIn K (.ref f7) = true) (l8 : K.lookup f8 = some ⟨oc8, od8, .func (PySem.W.fnOf "pieces" "Pattern.pieces" (defArgs st_Pattern_pieces) (defBody st_Pattern_pieces) (defScope st_Pattern_pieces) .none kV8 dc8 pm8 an8 cd8 ct8), sl8⟩) (c8 : PySem.W.codeIn K cd8 "Pattern.pieces" = true) (k8 : PySem.W.keepIn K (.ref f8) = true)
    (l9 : K.lookup f9 = some ⟨oc9, od9, .func (PySem.W.fnOf "__contains__" "Bench.__contains__" (defArgs st_BenchX_containsX) (defBody st_BenchX_containsX) (defScope st_BenchX_containsX) .none kV9 dc9 pm9 an9 cd9 ct9), sl9⟩) (c9 : PySem.W.codeIn K cd9 "Bench.__contains__" = true) (k9 : PySem.W.keepIn K (.ref f9) = true) (l10 : K.lookup f10 = some ⟨oc10, od10, .func (PySem.W.fnOf "check_known" "Bench.check_known" (defArgs st_Bench_check_known) (defBody st_Bench_check_known) (defScope st_Bench_check_known) .none kV10 dc10 pm10 an10 cd10 ct10), sl10⟩)
    (c10 : PySem.W.codeIn K cd10 "Bench.check_known" = true) (l11 : K.lookup f11 = some ⟨oc11, od11, .func (PySem.W.fnOf "__getitem__" "Bench.__getitem__" (defArgs st_BenchX_getitemX) (defBody st_BenchX_getitemX) (defScope st_BenchX_getitemX) .none kV11 dc11 pm11 an11 cd11 ct11), sl11⟩) (c11 : PySem.W.codeIn K cd11 "Bench.__getitem__" = true) (k11 : PySem.W.keepIn K (.ref f11) = true)
    (l12 : K.lookup f12 = some ⟨oc12, od12, .func (PySem.W.fnOf "_law_state_right" "_law_state_right" (defArgs st__law_state_right) (defBody st__law_state_right) (defScope st__law_state_right) .none kV12 dc12 pm12 an12 cd12 ct12), sl12⟩) (c12 : PySem.W.codeIn K cd12 "_law_state_right" = true) (k12 : PySem.W.keepIn K (.ref f12) = true) (l13 : K.lookup f13 = some ⟨oc13, od13, .func (PySem.W.fnOf "integer_in" "integer_in" (defArgs st_integer_in) (defBody st_integer_in) (defScope st_integer_in) .none kV13 dc13 pm13 an13 cd13 ct13), sl13⟩)
    (c13 : PySem.W.codeIn K cd13 "integer_in" = true) (k13 : PySem.W.keepIn K (.ref f13) = true) (l14 : K.lookup f14 = some ⟨oc14, od14, .func (PySem.W.fnOf "is_integer" "is_integer" (defArgs st_is_integer) (defBody st_is_integer) (defScope st_is_integer) .none kV14 dc14 pm14 an14 cd14 ct14), sl14⟩) (c14 : PySem.W.codeIn K cd14 "is_integer" = true)
    (k14 : PySem.W.keepIn K (.ref f14) = true) (l15 : K.lookup f15 = some ⟨oc15, od15, .func (PySem.W.fnOf "is_between" "is_between" (defArgs st_is_between) (defBody st_is_between) (defScope st_is_between) .none kV15 dc15 pm15 an15 cd15 ct15), sl15⟩) (c15 : PySem.W.codeIn K cd15 "is_between" = true) (k15 : PySem.W.keepIn K (.ref f15) = true)
    (l16 : K.lookup f16 = some ⟨oc16, od16, .func (PySem.W.fnOf "piece_in" "piece_in" (defArgs st_piece_in) (defBody st_piece_in) (defScope st_piece_in) .none kV16 dc16 pm16 an16 cd16 ct16), sl16⟩) (c16 : PySem.W.codeIn K cd16 "piece_in" = true) (k16 : PySem.W.keepIn K (.ref f16) = true) (l17 : K.lookup f17 = some ⟨oc17, od17, .func (PySem.W.fnOf "is_piece" "is_piece" (defArgs st_is_piece) (defBody st_is_piece) (defScope st_is_piece) .none kV17 dc17 pm17 an17 cd17 ct17), sl17⟩)
    (c17 : PySem.W.codeIn K cd17 "is_piece" = true) (k17 : PySem.W.keepIn K (.ref f17) = true) (l18 : K.lookup f18 = some ⟨oc18, od18, .func (PySem.W.fnOf "check_pieces" "check_pieces" (defArgs st_check_pieces) (defBody st_check_pieces) (defScope st_check_pieces) .none kV18 dc18 pm18 an18 cd18 ct18), sl18⟩) (c18 : PySem.W.codeIn K cd18 "check_pieces" = true)
    (k18 : PySem.W.keepIn K (.ref f18) = true) (l19 : K.lookup f19 = some ⟨oc19, od19, .func (PySem.W.fnOf "joined" "joined" (defArgs st_joined) (defBody st_joined) (defScope st_joined) .none kV19 dc19 pm19 an19 cd19 ct19), sl19⟩) (c19 : PySem.W.codeIn K cd19 "joined" = true) (k19 : PySem.W.keepIn K (.ref f19) = true)
    (l20 : K.lookup f20 = some ⟨oc20, od20, .func (PySem.W.fnOf "chain_of" "chain_of" (defArgs st_chain_of) (defBody st_chain_of) (defScope st_chain_of) .none kV20 dc20 pm20 an20 cd20 ct20), sl20⟩) (c20 : PySem.W.codeIn K cd20 "chain_of" = true) (k20 : PySem.W.keepIn K (.ref f20) = true) (l21 : K.lookup f21 = some ⟨oc21, od21, .func (PySem.W.fnOf "__init__" "Pattern.__init__" (defArgs st_PatternX_initX) (defBody st_PatternX_initX) (defScope st_PatternX_initX) .none kV21 dc21 pm21 an21 cd21 ct21), sl21⟩)
    (c21 : PySem.W.codeIn K cd21 "Pattern.__init__" = true) (k21 : PySem.W.keepIn K (.ref f21) = true) (l22 : K.lookup f22 = some ⟨oc22, od22, .func (PySem.W.fnOf "__init__" "Row.__init__" (defArgs st_RowX_initX) (defBody st_RowX_initX) (defScope st_RowX_initX) .none kV22 dc22 pm22 an22 cd22 ct22), sl22⟩) (c22 : PySem.W.codeIn K cd22 "Row.__init__" = true)
    (k22 : PySem.W.keepIn K (.ref f22) = true) (l23 : K.lookup f23 = some ⟨oc23, od23, .func (PySem.W.fnOf "pattern_in" "pattern_in" (defArgs st_pattern_in) (defBody st_pattern_in) (defScope st_pattern_in) .none kV23 dc23 pm23 an23 cd23 ct23), sl23⟩) (c23 : PySem.W.codeIn K cd23 "pattern_in" = true) (k23 : PySem.W.keepIn K (.ref f23) = true)
    (l24 : K.lookup f24 = some ⟨oc24, od24, .func (PySem.W.fnOf "read" "Pattern.read" (defArgs st_Pattern_read) (defBody st_Pattern_read) (defScope st_Pattern_read) .none kV24 dc24 pm24 an24 cd24 ct24), sl24⟩) (c24 : PySem.W.codeIn K cd24 "Pattern.read" = true) (k24 : PySem.W.keepIn K (.ref f24) = true) (l25 : K.lookup f25 = some ⟨oc25, od25, .func (PySem.W.fnOf "_law_text" "_law_text" (defArgs st__law_text) (defBody st__law_text) (defScope st__law_text) .none kV25 dc25 pm25 an25 cd25 ct25), sl25⟩)
    (c25 : PySem.W.codeIn K cd25 "_law_text" = true) (k25 : PySem.W.keepIn K (.ref f25) = true) (l26 : K.lookup f26 = some ⟨oc26, od26, .func (PySem.W.fnOf "_law_pat" "_law_pat" (defArgs st__law_pat) (defBody st__law_pat) (defScope st__law_pat) .none kV26 dc26 pm26 an26 cd26 ct26), sl26⟩) (c26 : PySem.W.codeIn K cd26 "_law_pat" = true)
    (k26 : PySem.W.keepIn K (.ref f26) = true) (l27 : K.lookup f27 = some ⟨oc27, od27, .func (PySem.W.fnOf "_law_anything" "_law_anything" (defArgs st__law_anything) (defBody st__law_anything) (defScope st__law_anything) .none kV27 dc27 pm27 an27 cd27 ct27), sl27⟩) (c27 : PySem.W.codeIn K cd27 "_law_anything" = true) (k27 : PySem.W.keepIn K (.ref f27) = true)
    (l28 : K.lookup f28 = some ⟨oc28, od28, .func (PySem.W.fnOf "_law_is_name" "_law_is_name" (defArgs st__law_is_name) (defBody st__law_is_name) (defScope st__law_is_name) .none kV28 dc28 pm28 an28 cd28 ct28), sl28⟩) (c28 : PySem.W.codeIn K cd28 "_law_is_name" = true) (k28 : PySem.W.keepIn K (.ref f28) = true) (l29 : K.lookup f29 = some ⟨oc29, od29, .func (PySem.W.fnOf "is_name" "is_name" (defArgs st_is_name) (defBody st_is_name) (defScope st_is_name) .none kV29 dc29 pm29 an29 cd29 ct29), sl29⟩)
    (c29 : PySem.W.codeIn K cd29 "is_name" = true) (k29 : PySem.W.keepIn K (.ref f29) = true) (l30 : K.lookup f30 = some ⟨oc30, od30, .func (PySem.W.fnOf "check_pattern" "check_pattern" (defArgs st_check_pattern) (defBody st_check_pattern) (defScope st_check_pattern) .none kV30 dc30 pm30 an30 cd30 ct30), sl30⟩) (c30 : PySem.W.codeIn K cd30 "check_pattern" = true)
    (k30 : PySem.W.keepIn K (.ref f30) = true) (l31 : K.lookup f31 = some ⟨oc31, od31, .func (PySem.W.fnOf "become" "Bench.become" (defArgs st_Bench_become) (defBody st_Bench_become) (defScope st_Bench_become) .none kV31 dc31 pm31 an31 cd31 ct31), sl31⟩) (c31 : PySem.W.codeIn K cd31 "Bench.become" = true) (l32 : K.lookup f32 = some ⟨oc32, od32, .func (PySem.W.fnOf "__setitem__" "Bench.__setitem__" (defArgs st_BenchX_setitemX) (defBody st_BenchX_setitemX) (defScope st_BenchX_setitemX) .none kV32 dc32 pm32 an32 cd32 ct32), sl32⟩)
    (c32 : PySem.W.codeIn K cd32 "Bench.__setitem__" = true) (k32 : PySem.W.keepIn K (.ref f32) = true) (l33 : K.lookup f33 = some ⟨oc33, od33, .func (PySem.W.fnOf "_law_put" "_law_put" (defArgs st__law_put) (defBody st__law_put) (defScope st__law_put) .none kV33 dc33 pm33 an33 cd33 ct33), sl33⟩) (c33 : PySem.W.codeIn K cd33 "_law_put" = true)
    (k33 : PySem.W.keepIn K (.ref f33) = true) (l34 : K.lookup f34 = some ⟨oc34, od34, .func (PySem.W.fnOf "__str__" "Pattern.__str__" (defArgs st_PatternX_strX) (defBody st_PatternX_strX) (defScope st_PatternX_strX) .none kV34 dc34 pm34 an34 cd34 ct34), sl34⟩) (c34 : PySem.W.codeIn K cd34 "Pattern.__str__" = true) (k34 : PySem.W.keepIn K (.ref f34) = true)
    (l35 : K.lookup f35 = some ⟨oc35, od35, .func (PySem.W.fnOf "__repr__" "Pattern.__repr__" (defArgs st_PatternX_reprX) (defBody st_PatternX_reprX) (defScope st_PatternX_reprX) .none kV35 dc35 pm35 an35 cd35 ct35), sl35⟩) (c35 : PySem.W.codeIn K cd35 "Pattern.__repr__" = true) (k35 : PySem.W.keepIn K (.ref f35) = true) (l42 : K.lookup f42 = some ⟨oc42, od42, .func (PySem.W.fnOf "_law_error" "_law_error" (defArgs st__law_error) (defBody st__law_error) (defScope st__law_error) .none kV42 dc42 pm42 an42 cd42 ct42), sl42⟩)
    (c42 : PySem.W.codeIn K cd42 "_law_error" = true) (k42 : PySem.W.keepIn K (.ref f42) = true) (l43 : K.lookup f43 = some ⟨oc43, od43, .func (PySem.W.fnOf "_law_told" "_law_told" (defArgs st__law_told) (defBody st__law_told) (defScope st__law_told) .none kV43 dc43 pm43 an43 cd43 ct43), sl43⟩) (c43 : PySem.W.codeIn K cd43 "_law_told" = true)
    (k43 : PySem.W.keepIn K (.ref f43) = true) (l36 : K.lookup f36 = some ⟨oc36, od36, .func (PySem.W.fnOf "drop" "Bench.drop" (defArgs st_Bench_drop) (defBody st_Bench_drop) (defScope st_Bench_drop) .none kV36 dc36 pm36 an36 cd36 ct36), sl36⟩) (c36 : PySem.W.codeIn K cd36 "Bench.drop" = true) (l37 : K.lookup f37 = some ⟨oc37, od37, .func (PySem.W.fnOf "_law_refused_right" "_law_refused_right" (defArgs st__law_refused_right) (defBody st__law_refused_right) (defScope st__law_refused_right) .none kV37 dc37 pm37 an37 (.ref cc37) ct37), sl37⟩)
    (c37 : PySem.W.codeIn K (.ref cc37) "_law_refused_right" = true) (k37 : PySem.W.keepIn K (.ref f37) = true) (lb37 : K.lookup cc37 = some ⟨gc37, gd37, .fields gv37, gs37⟩) (lp37 : gv37[11]? = some (.ref P37))
    (hc37 : PySem.W.codeHdIn K cc37 P37 = true) (ht37 : h.get? P37 = some { cls := .none, data := .fields #[] }) (hn37 : K.lookup P37 = none) (l38 : K.lookup f38 = some ⟨oc38, od38, .func (PySem.W.fnOf "_law_right" "_law_right" (defArgs st__law_right) (defBody st__law_right) (defScope st__law_right) .none kV38 dc38 pm38 an38 (.ref cc38) ct38), sl38⟩)
    (c38 : PySem.W.codeIn K (.ref cc38) "_law_right" = true) (k38 : PySem.W.keepIn K (.ref f38) = true) (lb38 : K.lookup cc38 = some ⟨gc38, gd38, .fields gv38, gs38⟩) (lp38 : gv38[11]? = some (.ref P38))
    (hc38 : PySem.W.codeHdIn K cc38 P38 = true) (ht38 : h.get? P38 = some { cls := .none, data := .fields #[] }) (hn38 : K.lookup P38 = none) (l39 : K.lookup f39 = some ⟨oc39, od39, .func (PySem.W.fnOf "_law_src" "_law_src" (defArgs st__law_src) (defBody st__law_src) (defScope st__law_src) .none kV39 dc39 pm39 an39 cd39 ct39), sl39⟩)
    (c39 : PySem.W.codeIn K cd39 "_law_src" = true) (k39 : PySem.W.keepIn K (.ref f39) = true) (l40 : K.lookup f40 = some ⟨oc40, od40, .func (PySem.W.fnOf "_law_cell" "_law_cell" (defArgs st__law_cell) (defBody st__law_cell) (defScope st__law_cell) .none kV40 dc40 pm40 an40 cd40 ct40), sl40⟩) (c40 : PySem.W.codeIn K cd40 "_law_cell" = true)
    (k40 : PySem.W.keepIn K (.ref f40) = true) (l41 : K.lookup f41 = some ⟨oc41, od41, .func (PySem.W.fnOf "law" "law" (defArgs st_law) (defBody st_law) (defScope st_law) .none kV41 dc41 pm41 an41 cd41 ct41), sl41⟩) (c41 : PySem.W.codeIn K cd41 "law" = true) (k41 : PySem.W.keepIn K (.ref f41) = true)
    (z_abs : PySem.W.nsIn K mainGlobals "abs" = some none) (z_all : PySem.W.nsIn K mainGlobals "all" = some none) (z_any : PySem.W.nsIn K mainGlobals "any" = some none) (z_bool : PySem.W.nsIn K mainGlobals "bool" = some none)
    (z_dict : PySem.W.nsIn K mainGlobals "dict" = some none) (z_divmod : PySem.W.nsIn K mainGlobals "divmod" = some none) (z_enumerate : PySem.W.nsIn K mainGlobals "enumerate" = some none) (z_int : PySem.W.nsIn K mainGlobals "int" = some none)
    (z_isinstance : PySem.W.nsIn K mainGlobals "isinstance" = some none) (z_len : PySem.W.nsIn K mainGlobals "len" = some none) (z_list : PySem.W.nsIn K mainGlobals "list" = some none) (z_max : PySem.W.nsIn K mainGlobals "max" = some none)
    (z_min : PySem.W.nsIn K mainGlobals "min" = some none) (z_range : PySem.W.nsIn K mainGlobals "range" = some none) (z_repr : PySem.W.nsIn K mainGlobals "repr" = some none) (z_sorted : PySem.W.nsIn K mainGlobals "sorted" = some none)
    (z_str : PySem.W.nsIn K mainGlobals "str" = some none) (z_tuple : PySem.W.nsIn K mainGlobals "tuple" = some none) (nX0 : PySem.W.nsIn K mainGlobals "NotAPattern" = some (some (.ref X0))) (nX1 : PySem.W.nsIn K mainGlobals "NotARun" = some (some (.ref X1)))
    (nX2 : PySem.W.nsIn K mainGlobals "InvalidResistance" = some (some (.ref X2))) (nX3 : PySem.W.nsIn K mainGlobals "InvalidCount" = some (some (.ref X3))) (nX4 : PySem.W.nsIn K mainGlobals "InvalidNumber" = some (some (.ref X4))) (nX5 : PySem.W.nsIn K mainGlobals "InvalidText" = some (some (.ref X5)))
    (nX6 : PySem.W.nsIn K mainGlobals "InvalidName" = some (some (.ref X6))) (nX7 : PySem.W.nsIn K mainGlobals "InvalidClaim" = some (some (.ref X7))) (nX8 : PySem.W.nsIn K mainGlobals "InvalidIndex" = some (some (.ref X8))) (nX9 : PySem.W.nsIn K mainGlobals "InvalidPieces" = some (some (.ref X9)))
    (nX12 : PySem.W.nsIn K mainGlobals "InvalidDeeds" = some (some (.ref X12))) (nX13 : PySem.W.nsIn K mainGlobals "UnknownName" = some (some (.ref X13))) (nX14 : PySem.W.nsIn K mainGlobals "InUse" = some (some (.ref X14))) (nX15 : PySem.W.nsIn K mainGlobals "TooMany" = some (some (.ref X15)))
    (nX16 : PySem.W.nsIn K mainGlobals "Broken" = some (some (.ref X16))) (nX17 : PySem.W.nsIn K mainGlobals "NoLimit" = some (some (.ref X17))) (nX18 : PySem.W.nsIn K mainGlobals "NothingToUndo" = some (some (.ref X18))) (nX20 : PySem.W.nsIn K mainGlobals "WrongValue" = some (some (.ref X20)))
    (nX21 : PySem.W.nsIn K mainGlobals "WrongName" = some (some (.ref X21))) (nX22 : PySem.W.nsIn K mainGlobals "NoAnswer" = some (some (.ref X22))) (zx_ValueError : PySem.W.nsIn K mainGlobals "ValueError" = some none) (zx_LookupError : PySem.W.nsIn K mainGlobals "LookupError" = some none)
    (zx_ArithmeticError : PySem.W.nsIn K mainGlobals "ArithmeticError" = some none) (oe13 : K.lookup X13 = some (excClassObj xN13 xq13 X13 xA13 xb13 xm13 true xt13 xs13 xa13 xc13 xd13 xv0_13 xv1_13 xv2_13 xv3_13 xv5_13 "LookupError.__new__")) (rv13 : refsT (tlE "LookupError") xm13 = true) (se13 : PySem.W.findIn K (.ref X13) "__setattr__" = some (some (.builtin "object.__setattr__")))
    (eb13 : PySem.W.subIn K (.ref X13) (.type "BaseException") = some true) (et13 : PySem.W.typeIn K (.ref X13) = some (.type "type")) (ek13 : PySem.W.keepIn K (.ref X13) = true) (ei13 : PySem.W.findIn K (.ref X13) "__init__" = some (some (.ref xi13)))
    (ej13 : PySem.W.typeIn K (.ref xi13) = some (.type "function")) (xn13_given : PySem.W.findIn K (.ref X13) "given" = some none) (xn13_most : PySem.W.findIn K (.ref X13) "most" = some none) (xn13_index : PySem.W.findIn K (.ref X13) "index" = some none)
    (el13 : K.lookup xi13 = some ⟨eoc13, eod13, .func (PySem.W.fnOf "__init__" "UnknownName.__init__" (defArgs st_UnknownNameX_initX) (defBody st_UnknownNameX_initX) (defScope st_UnknownNameX_initX) .none ekV13 edc13 epm13 ean13 ecd13 ect13), esl13⟩) (ec13 : PySem.W.codeIn K ecd13 "UnknownName.__init__" = true) (ef13 : PySem.W.keepIn K (.ref xi13) = true) (eg13 : PySem.W.findIn K (.ref X13) "__getattribute__" = some (some (.builtin "BaseException.__getattribute__")))
    (eh13 : PySem.W.findIn K (.ref X13) "__getattr__" = some none) (ed13 : PySem.W.hasDictIn K X13 = true) (ea13 : PySem.W.findIn K (.ref X13) "__class__" = some (some (.builtin "object.__class__"))) (em13 : PySem.W.mroIn K X13 (.type "object") = some true)
    (ks13 : ((List.range 23).all fun k => PySem.W.kitOne K (.ref X13) (.ref ([X0, X1, X2, X3, X4, X5, X6, X7, X8, X9, X18, X18, X12, X13, X14, X15, X16, X17, X18, X18, X20, X21, X22].getD k 0)) == some (decide (100 + k ∈ ([113, 121] : List Nat)))) = true) (kb13_23 : PySem.W.kitOne K (.ref X13) (.type "ValueError") = some false) (kb13_24 : PySem.W.kitOne K (.ref X13) (.type "LookupError") = some true) (kb13_25 : PySem.W.kitOne K (.ref X13) (.type "ArithmeticError") = some false)
    (xa13_ : PySem.W.exmAny K (.ref X13) [.ref X20, .ref X21, .ref X22] = some true) (oe9 : K.lookup X9 = some (excClassObj xN9 xq9 X9 xA9 xb9 xm9 true xt9 xs9 xa9 xc9 xd9 xv0_9 xv1_9 xv2_9 xv3_9 xv5_9 "ValueError.__new__")) (rv9 : refsT (tlE "ValueError") xm9 = true) (se9 : PySem.W.findIn K (.ref X9) "__setattr__" = some (some (.builtin "object.__setattr__")))
    (eb9 : PySem.W.subIn K (.ref X9) (.type "BaseException") = some true) (et9 : PySem.W.typeIn K (.ref X9) = some (.type "type")) (ek9 : PySem.W.keepIn K (.ref X9) = true) (ei9 : PySem.W.findIn K (.ref X9) "__init__" = some (some (.ref xi9)))
    (ej9 : PySem.W.typeIn K (.ref xi9) = some (.type "function")) (xn9_given : PySem.W.findIn K (.ref X9) "given" = some none) (xn9_most : PySem.W.findIn K (.ref X9) "most" = some none) (xn9_index : PySem.W.findIn K (.ref X9) "index" = some none)
    (el9 : K.lookup xi9 = some ⟨eoc9, eod9, .func (PySem.W.fnOf "__init__" "InvalidPieces.__init__" (defArgs st_InvalidPiecesX_initX) (defBody st_InvalidPiecesX_initX) (defScope st_InvalidPiecesX_initX) .none ekV9 edc9 epm9 ean9 ecd9 ect9), esl9⟩) (ec9 : PySem.W.codeIn K ecd9 "InvalidPieces.__init__" = true) (ef9 : PySem.W.keepIn K (.ref xi9) = true) (eg9 : PySem.W.findIn K (.ref X9) "__getattribute__" = some (some (.builtin "BaseException.__getattribute__")))
    (eh9 : PySem.W.findIn K (.ref X9) "__getattr__" = some none) (ed9 : PySem.W.hasDictIn K X9 = true) (ea9 : PySem.W.findIn K (.ref X9) "__class__" = some (some (.builtin "object.__class__"))) (em9 : PySem.W.mroIn K X9 (.type "object") = some true)
    (ks9 : ((List.range 23).all fun k => PySem.W.kitOne K (.ref X9) (.ref ([X0, X1, X2, X3, X4, X5, X6, X7, X8, X9, X18, X18, X12, X13, X14, X15, X16, X17, X18, X18, X20, X21, X22].getD k 0)) == some (decide (100 + k ∈ ([109, 120] : List Nat)))) = true) (kb9_23 : PySem.W.kitOne K (.ref X9) (.type "ValueError") = some true) (kb9_24 : PySem.W.kitOne K (.ref X9) (.type "LookupError") = some false) (kb9_25 : PySem.W.kitOne K (.ref X9) (.type "ArithmeticError") = some false)
    (xa9_ : PySem.W.exmAny K (.ref X9) [.ref X20, .ref X21, .ref X22] = some true) (oe5 : K.lookup X5 = some (excClassObj xN5 xq5 X5 xA5 xb5 xm5 true xt5 xs5 xa5 xc5 xd5 xv0_5 xv1_5 xv2_5 xv3_5 xv5_5 "ValueError.__new__")) (rv5 : refsT (tlE "ValueError") xm5 = true) (se5 : PySem.W.findIn K (.ref X5) "__setattr__" = some (some (.builtin "object.__setattr__")))
    (eb5 : PySem.W.subIn K (.ref X5) (.type "BaseException") = some true) (et5 : PySem.W.typeIn K (.ref X5) = some (.type "type")) (ek5 : PySem.W.keepIn K (.ref X5) = true) (ei5 : PySem.W.findIn K (.ref X5) "__init__" = some (some (.ref xi5)))
    (ej5 : PySem.W.typeIn K (.ref xi5) = some (.type "function")) (xn5_given : PySem.W.findIn K (.ref X5) "given" = some none) (xn5_most : PySem.W.findIn K (.ref X5) "most" = some none) (xn5_index : PySem.W.findIn K (.ref X5) "index" = some none)
    (el5 : K.lookup xi5 = some ⟨eoc5, eod5, .func (PySem.W.fnOf "__init__" "InvalidText.__init__" (defArgs st_InvalidTextX_initX) (defBody st_InvalidTextX_initX) (defScope st_InvalidTextX_initX) .none ekV5 edc5 epm5 ean5 ecd5 ect5), esl5⟩) (ec5 : PySem.W.codeIn K ecd5 "InvalidText.__init__" = true) (ef5 : PySem.W.keepIn K (.ref xi5) = true) (eg5 : PySem.W.findIn K (.ref X5) "__getattribute__" = some (some (.builtin "BaseException.__getattribute__")))
    (eh5 : PySem.W.findIn K (.ref X5) "__getattr__" = some none) (ed5 : PySem.W.hasDictIn K X5 = true) (ea5 : PySem.W.findIn K (.ref X5) "__class__" = some (some (.builtin "object.__class__"))) (em5 : PySem.W.mroIn K X5 (.type "object") = some true)
    (ks5 : ((List.range 23).all fun k => PySem.W.kitOne K (.ref X5) (.ref ([X0, X1, X2, X3, X4, X5, X6, X7, X8, X9, X18, X18, X12, X13, X14, X15, X16, X17, X18, X18, X20, X21, X22].getD k 0)) == some (decide (100 + k ∈ ([105, 120] : List Nat)))) = true) (kb5_23 : PySem.W.kitOne K (.ref X5) (.type "ValueError") = some true) (kb5_24 : PySem.W.kitOne K (.ref X5) (.type "LookupError") = some false) (kb5_25 : PySem.W.kitOne K (.ref X5) (.type "ArithmeticError") = some false)
    (xa5_ : PySem.W.exmAny K (.ref X5) [.ref X20, .ref X21, .ref X22] = some true) (oe6 : K.lookup X6 = some (excClassObj xN6 xq6 X6 xA6 xb6 xm6 true xt6 xs6 xa6 xc6 xd6 xv0_6 xv1_6 xv2_6 xv3_6 xv5_6 "ValueError.__new__")) (rv6 : refsT (tlE "ValueError") xm6 = true) (se6 : PySem.W.findIn K (.ref X6) "__setattr__" = some (some (.builtin "object.__setattr__")))
    (eb6 : PySem.W.subIn K (.ref X6) (.type "BaseException") = some true) (et6 : PySem.W.typeIn K (.ref X6) = some (.type "type")) (ek6 : PySem.W.keepIn K (.ref X6) = true) (ei6 : PySem.W.findIn K (.ref X6) "__init__" = some (some (.ref xi6)))
    (ej6 : PySem.W.typeIn K (.ref xi6) = some (.type "function")) (xn6_given : PySem.W.findIn K (.ref X6) "given" = some none) (xn6_most : PySem.W.findIn K (.ref X6) "most" = some none) (xn6_index : PySem.W.findIn K (.ref X6) "index" = some none)
    (el6 : K.lookup xi6 = some ⟨eoc6, eod6, .func (PySem.W.fnOf "__init__" "InvalidName.__init__" (defArgs st_InvalidNameX_initX) (defBody st_InvalidNameX_initX) (defScope st_InvalidNameX_initX) .none ekV6 edc6 epm6 ean6 ecd6 ect6), esl6⟩) (ec6 : PySem.W.codeIn K ecd6 "InvalidName.__init__" = true) (ef6 : PySem.W.keepIn K (.ref xi6) = true) (eg6 : PySem.W.findIn K (.ref X6) "__getattribute__" = some (some (.builtin "BaseException.__getattribute__")))
    (eh6 : PySem.W.findIn K (.ref X6) "__getattr__" = some none) (ed6 : PySem.W.hasDictIn K X6 = true) (ea6 : PySem.W.findIn K (.ref X6) "__class__" = some (some (.builtin "object.__class__"))) (em6 : PySem.W.mroIn K X6 (.type "object") = some true)
    (ks6 : ((List.range 23).all fun k => PySem.W.kitOne K (.ref X6) (.ref ([X0, X1, X2, X3, X4, X5, X6, X7, X8, X9, X18, X18, X12, X13, X14, X15, X16, X17, X18, X18, X20, X21, X22].getD k 0)) == some (decide (100 + k ∈ ([106, 120] : List Nat)))) = true) (kb6_23 : PySem.W.kitOne K (.ref X6) (.type "ValueError") = some true) (kb6_24 : PySem.W.kitOne K (.ref X6) (.type "LookupError") = some false) (kb6_25 : PySem.W.kitOne K (.ref X6) (.type "ArithmeticError") = some false)
    (xa6_ : PySem.W.exmAny K (.ref X6) [.ref X20, .ref X21, .ref X22] = some true) (oe0 : K.lookup X0 = some (excClassObj xN0 xq0 X0 xA0 xb0 xm0 true xt0 xs0 xa0 xc0 xd0 xv0_0 xv1_0 xv2_0 xv3_0 xv5_0 "ValueError.__new__")) (rv0 : refsT (tlE "ValueError") xm0 = true) (se0 : PySem.W.findIn K (.ref X0) "__setattr__" = some (some (.builtin "object.__setattr__")))
    (eb0 : PySem.W.subIn K (.ref X0) (.type "BaseException") = some true) (et0 : PySem.W.typeIn K (.ref X0) = some (.type "type")) (ek0 : PySem.W.keepIn K (.ref X0) = true) (ei0 : PySem.W.findIn K (.ref X0) "__init__" = some (some (.ref xi0)))
    (ej0 : PySem.W.typeIn K (.ref xi0) = some (.type "function")) (xn0_given : PySem.W.findIn K (.ref X0) "given" = some none) (xn0_most : PySem.W.findIn K (.ref X0) "most" = some none) (xn0_index : PySem.W.findIn K (.ref X0) "index" = some none)
    (el0 : K.lookup xi0 = some ⟨eoc0, eod0, .func (PySem.W.fnOf "__init__" "NotAPattern.__init__" (defArgs st_NotAPatternX_initX) (defBody st_NotAPatternX_initX) (defScope st_NotAPatternX_initX) .none ekV0 edc0 epm0 ean0 ecd0 ect0), esl0⟩) (ec0 : PySem.W.codeIn K ecd0 "NotAPattern.__init__" = true) (ef0 : PySem.W.keepIn K (.ref xi0) = true) (eg0 : PySem.W.findIn K (.ref X0) "__getattribute__" = some (some (.builtin "BaseException.__getattribute__")))
    (eh0 : PySem.W.findIn K (.ref X0) "__getattr__" = some none) (ed0 : PySem.W.hasDictIn K X0 = true) (ea0 : PySem.W.findIn K (.ref X0) "__class__" = some (some (.builtin "object.__class__"))) (em0 : PySem.W.mroIn K X0 (.type "object") = some true)
    (ks0 : ((List.range 23).all fun k => PySem.W.kitOne K (.ref X0) (.ref ([X0, X1, X2, X3, X4, X5, X6, X7, X8, X9, X18, X18, X12, X13, X14, X15, X16, X17, X18, X18, X20, X21, X22].getD k 0)) == some (decide (100 + k ∈ ([100, 120] : List Nat)))) = true) (kb0_23 : PySem.W.kitOne K (.ref X0) (.type "ValueError") = some true) (kb0_24 : PySem.W.kitOne K (.ref X0) (.type "LookupError") = some false) (kb0_25 : PySem.W.kitOne K (.ref X0) (.type "ArithmeticError") = some false)
    (xa0_ : PySem.W.exmAny K (.ref X0) [.ref X20, .ref X21, .ref X22] = some true) (v_WORDS : PySem.W.nsIn K mainGlobals "WORDS" = some (some (.ref T_WORDS))) (w_WORDS : K.lookup T_WORDS = some ⟨.type "tuple", o_WORDS, .seq its_WORDS u_WORDS, sl_WORDS⟩) (r_WORDS : Vals [V.str "rail", V.str "rung"] its_WORDS.toList)
    (v_DIGITS : PySem.W.nsIn K mainGlobals "DIGITS" = some (some (.str  "0123456789" t_DIGITS))) (v_MOST_DIGITS : PySem.W.nsIn K mainGlobals "MOST_DIGITS" = some (some (.int  13 t_MOST_DIGITS))) (v_MOST_OHMS : PySem.W.nsIn K mainGlobals "MOST_OHMS" = some (some (.int  12 t_MOST_OHMS))) (v_MOST_JOINED : PySem.W.nsIn K mainGlobals "MOST_JOINED" = some (some (.int  8 t_MOST_JOINED)))
    (v_MOST_PIECES : PySem.W.nsIn K mainGlobals "MOST_PIECES" = some (some (.int  4 t_MOST_PIECES))) (v_NOTHING : PySem.W.nsIn K mainGlobals "NOTHING" = some (some (.ref T_NOTHING))) (w_NOTHING : K.lookup T_NOTHING = some ⟨.type "tuple", o_NOTHING, .seq its_NOTHING u_NOTHING, sl_NOTHING⟩) (r_NOTHING : Vals [V.int 1, V.int 0, V.int 0, V.int 1] its_NOTHING.toList)
    (v_MOST_LETTERS : PySem.W.nsIn K mainGlobals "MOST_LETTERS" = some (some (.int  8 t_MOST_LETTERS))) (v_LETTERS : PySem.W.nsIn K mainGlobals "LETTERS" = some (some (.str  "abcdefghijklmnopqrstuvwxyz" t_LETTERS))) (ihn : PySem.W.specialIn K (.builtin "object.__class__") "__get__" = some (some (.builtin "getset_descriptor.__get__"))) (iht : PySem.W.takesIn K (.builtin "object.__class__") = some true)
    (ic0 : PySem.W.isClsIn K C0 = true) (ty0 : PySem.W.typeIn K (.ref C0) = some (.type "type")) (kk0_0 : PySem.W.subIn K (.ref C0) (.ref C0) = some true) (kk0_1 : PySem.W.subIn K (.ref C0) (.ref C1) = some false)
    (ct0_none_ : PySem.W.subIn K (.ref C0) (.type "NoneType") = some false) (tc0_none_ : PySem.W.subIn K (.type "NoneType") (.ref C0) = some false) (ct0_bool : PySem.W.subIn K (.ref C0) (.type "bool") = some false) (tc0_bool : PySem.W.subIn K (.type "bool") (.ref C0) = some false)
    (ct0_int : PySem.W.subIn K (.ref C0) (.type "int") = some false) (tc0_int : PySem.W.subIn K (.type "int") (.ref C0) = some false) (ct0_str : PySem.W.subIn K (.ref C0) (.type "str") = some false) (tc0_str : PySem.W.subIn K (.type "str") (.ref C0) = some false)
    (ct0_tuple : PySem.W.subIn K (.ref C0) (.type "tuple") = some false) (tc0_tuple : PySem.W.subIn K (.type "tuple") (.ref C0) = some false) (ct0_list : PySem.W.subIn K (.ref C0) (.type "list") = some false) (tc0_list : PySem.W.subIn K (.type "list") (.ref C0) = some false)
    (ct0_dict : PySem.W.subIn K (.ref C0) (.type "dict") = some false) (tc0_dict : PySem.W.subIn K (.type "dict") (.ref C0) = some false) (ic1 : PySem.W.isClsIn K C1 = true) (ty1 : PySem.W.typeIn K (.ref C1) = some (.type "type"))
    (kk1_1 : PySem.W.subIn K (.ref C1) (.ref C1) = some true) (kk1_0 : PySem.W.subIn K (.ref C1) (.ref C0) = some false) (ct1_none_ : PySem.W.subIn K (.ref C1) (.type "NoneType") = some false) (tc1_none_ : PySem.W.subIn K (.type "NoneType") (.ref C1) = some false)
    (ct1_bool : PySem.W.subIn K (.ref C1) (.type "bool") = some false) (tc1_bool : PySem.W.subIn K (.type "bool") (.ref C1) = some false) (ct1_int : PySem.W.subIn K (.ref C1) (.type "int") = some false) (tc1_int : PySem.W.subIn K (.type "int") (.ref C1) = some false)
    (ct1_str : PySem.W.subIn K (.ref C1) (.type "str") = some false) (tc1_str : PySem.W.subIn K (.type "str") (.ref C1) = some false) (ct1_tuple : PySem.W.subIn K (.ref C1) (.type "tuple") = some false) (tc1_tuple : PySem.W.subIn K (.type "tuple") (.ref C1) = some false)
    (ct1_list : PySem.W.subIn K (.ref C1) (.type "list") = some false) (tc1_list : PySem.W.subIn K (.type "list") (.ref C1) = some false) (ct1_dict : PySem.W.subIn K (.ref C1) (.type "dict") = some false) (tc1_dict : PySem.W.subIn K (.type "dict") (.ref C1) = some false)
    (ic11 : PySem.W.isClsIn K C11 = true) (ty11 : PySem.W.typeIn K (.ref C11) = some (.type "type")) (kk11_11 : PySem.W.subIn K (.ref C11) (.ref C11) = some true) (kk11_0 : PySem.W.subIn K (.ref C11) (.ref C0) = some false)
    (kk11_1 : PySem.W.subIn K (.ref C11) (.ref C1) = some false) (ct11_none_ : PySem.W.subIn K (.ref C11) (.type "NoneType") = some false) (tc11_none_ : PySem.W.subIn K (.type "NoneType") (.ref C11) = some false) (ct11_bool : PySem.W.subIn K (.ref C11) (.type "bool") = some false)
    (tc11_bool : PySem.W.subIn K (.type "bool") (.ref C11) = some false) (ct11_int : PySem.W.subIn K (.ref C11) (.type "int") = some false) (tc11_int : PySem.W.subIn K (.type "int") (.ref C11) = some false) (ct11_str : PySem.W.subIn K (.ref C11) (.type "str") = some false)
    (tc11_str : PySem.W.subIn K (.type "str") (.ref C11) = some false) (ct11_tuple : PySem.W.subIn K (.ref C11) (.type "tuple") = some false) (tc11_tuple : PySem.W.subIn K (.type "tuple") (.ref C11) = some false) (ct11_list : PySem.W.subIn K (.ref C11) (.type "list") = some false)
    (tc11_list : PySem.W.subIn K (.type "list") (.ref C11) = some false) (ct11_dict : PySem.W.subIn K (.ref C11) (.type "dict") = some false) (tc11_dict : PySem.W.subIn K (.type "dict") (.ref C11) = some false)
    (nd : [P37, P38].Nodup)
    : ∃ (K : PySem.W.Frag) (G : Sg) (cs : List (Addr × Addr)), K.In h ∧ G.K = K ∧ cs.length = 2 ∧ (∀ p ∈ cs, h.get? p.2 = some { cls := .none, data := .fields #[] }) ∧ (∀ p ∈ cs, K.lookup p.2 = none) ∧ (∀ p ∈ cs, PySem.W.CodeHd h p.1 p.2) ∧ (cs.map (·.2)).Nodup ∧ (∀ n (p : Addr × Addr), cs[n]? = some p → G.ta n = p.2) ∧ ∀ base : Heap, K.In base → base.Ns mainGlobals mg → (∀ p ∈ cs, LamX.TabB base mg p.1 p.2) → FnA l.prog w K mg base G 22 fa sem_law := by
  have e := hfa.symm.trans (PySem.W.mg_of X G a41)
  cases e
  let AD : Nat → Addr := adOf [(1000, C0), (1001, C1), (1011, C11), (0, f0), (1, f1), (2, f2), (3, f3), (4, f4), (5, f5), (6, f6), (7, f7), (8, f8), (9, f9), (10, f10), (11, f11), (12, f12), (13, f13), (14, f14), (15, f15), (16, f16), (17, f17), (18, f18), (19, f19), (20, f20), (21, f21), (22, f22), (23, f23), (24, f24), (25, f25), (26, f26), (27, f27), (28, f28), (29, f29), (30, f30), (31, f31), (32, f32), (33, f33), (34, f34), (35, f35), (42, f42), (43, f43), (36, f36), (37, f37), (38, f38), (39, f39), (40, f40), (41, fa), (8000, cc37), (8100, P37), (8001, cc38), (8101, P38), (1100, X0), (1101, X1), (1102, X2), (1103, X3), (1104, X4), (1105, X5), (1106, X6), (1107, X7), (1108, X8), (1109, X9), (1112, X12), (1113, X13), (1114, X14), (1115, X15), (1116, X16), (1117, X17), (1118, X18), (1120, X20), (1121, X21), (1122, X22), (1110, X18), (1111, X18), (1119, X18)]
  have keyX : ∀ k, k < 23 → AD (1000 + (100 + k)) = [X0, X1, X2, X3, X4, X5, X6, X7, X8, X9, X18, X18, X12, X13, X14, X15, X16, X17, X18, X18, X20, X21, X22].getD k 0 := by
    intro k hk
    iterate 23 (rcases k with _ | k; · rfl)
    omega
  have keyT : ∀ n (p : Addr × Addr), ([(cc37, P37), (cc38, P38)] : List (Addr × Addr))[n]? = some p → (GG true K AD).ta n = p.2 := by
    intro n p hp
    iterate 2 (rcases n with _ | n; · cases hp; rfl)
    cases hp
  refine ⟨K, GG true K AD, [(cc37, P37), (cc38, P38)], X, rfl, rfl, (fun p hp => by
      simp only [List.mem_cons, List.mem_nil_iff, or_false] at hp
      rcases hp with rfl | rfl
      · exact ht37
      · exact ht38), (fun p hp => by
      simp only [List.mem_cons, List.mem_nil_iff, or_false] at hp
      rcases hp with rfl | rfl
      · exact hn37
      · exact hn38), (fun p hp => by
      simp only [List.mem_cons, List.mem_nil_iff, or_false] at hp
      rcases hp with rfl | rfl
      · exact PySem.W.codeHd_of_K X hc37
      · exact PySem.W.codeHd_of_K X hc38), nd, keyT, fun base _ _ hTB => ?_⟩
  have T : Facts l.prog w K mg base AD :=
    { k_Row := PySem.W.mg_of X G nC0
      cl_Row := ⟨pgC0, hdC0, poC0, saC0⟩
      na_Row_told := naC0_told
      k_Pattern := PySem.W.mg_of X G nC1
      cl_Pattern := ⟨pgC1, hdC1, poC1, saC1⟩
      na_Pattern_row := naC1_row
      na_Pattern_chain := naC1_chain
      na_Pattern_scale := naC1_scale
      k_Bench := PySem.W.mg_of X G nC11
      cl_Bench := ⟨pgC11, hdC11, poC11, saC11⟩
      na_Bench_patterns := naC11_patterns
      na_Bench_made := naC11_made
      na_Bench_past := naC11_past
      g__law_pick := PySem.W.mg_of X G a1
      g__law_anyrow := PySem.W.mg_of X G a2
      g__law_anyword := PySem.W.mg_of X G a3
      g__law_state_right := PySem.W.mg_of X G a12
      g_integer_in := PySem.W.mg_of X G a13
      g_is_integer := PySem.W.mg_of X G a14
      g_is_between := PySem.W.mg_of X G a15
      g_piece_in := PySem.W.mg_of X G a16
      g_is_piece := PySem.W.mg_of X G a17
      g_check_pieces := PySem.W.mg_of X G a18
      g_joined := PySem.W.mg_of X G a19
      g_chain_of := PySem.W.mg_of X G a20
      g_pattern_in := PySem.W.mg_of X G a23
      g__law_text := PySem.W.mg_of X G a25
      g__law_pat := PySem.W.mg_of X G a26
      g__law_anything := PySem.W.mg_of X G a27
      g__law_is_name := PySem.W.mg_of X G a28
      g_is_name := PySem.W.mg_of X G a29
      g_check_pattern := PySem.W.mg_of X G a30
      g__law_put := PySem.W.mg_of X G a33
      g__law_error := PySem.W.mg_of X G a42
      g__law_told := PySem.W.mg_of X G a43
      g__law_refused_right := PySem.W.mg_of X G a37
      g__law_right := PySem.W.mg_of X G a38
      g__law_src := PySem.W.mg_of X G a39
      g__law_cell := PySem.W.mg_of X G a40
      g_law := PySem.W.mg_of X G a41
      m_Bench := ⟨mkC11, a0_11, i0, kpC11⟩
      m_Pattern := ⟨mkC1, a21_1, i21, kpC1⟩
      m_Row := ⟨mkC0, a22_0, i22, kpC0⟩
      p_Bench_Bench_changes := ⟨_, ⟨a4_11, b4_11, d4_11, ⟨_, e4_11⟩⟩⟩
      p_Bench_Bench_claims := ⟨_, ⟨a5_11, b5_11, d5_11, ⟨_, e5_11⟩⟩⟩
      p_Bench_Bench_names := ⟨_, ⟨a6_11, b6_11, d6_11, ⟨_, e6_11⟩⟩⟩
      fl_Bench_BenchX_lenX := ⟨a7_11, i7, nbC11⟩
      q_Bench_BenchX_lenX := ⟨a7_11, i7⟩
      p_Pattern_Pattern_pieces := ⟨_, ⟨a8_1, b8_1, d8_1, ⟨_, e8_1⟩⟩⟩
      q_Bench_BenchX_containsX := ⟨a9_11, i9⟩
      t_Bench_Bench_check_known := ⟨a10_11, i10, k10⟩
      fg_Bench_BenchX_getitemX := ⟨a11_11, i11, x11⟩
      t_Bench_Bench_become := ⟨a31_11, i31, k31⟩
      fs_Bench_BenchX_setitemX := ⟨a32_11, i32, nqC11⟩
      x_Pattern_PatternX_strX := ⟨a34_1, i34, foC1, moC1⟩
      x_Pattern_PatternX_reprX := ⟨a35_1, i35, foC1, moC1⟩
      t_Bench_Bench_drop := ⟨a36_11, i36, k36⟩
      s_Pattern_read := ⟨_, _, _, ⟨b24, d24⟩, a24, e24⟩
      f_BenchX_initX := ⟨_, fun_mk (st := st_BenchX_initX) l0 c0 k0⟩
      f__law_pick := ⟨_, fun_mk (st := st__law_pick) l1 c1 k1⟩
      f__law_anyrow := ⟨_, fun_mk (st := st__law_anyrow) l2 c2 k2⟩
      f__law_anyword := ⟨_, fun_mk (st := st__law_anyword) l3 c3 k3⟩
      f_Bench_changes := ⟨_, fun_mk (st := st_Bench_changes) l4 c4 k4⟩
      f_Bench_claims := ⟨_, fun_mk (st := st_Bench_claims) l5 c5 k5⟩
      f_Bench_names := ⟨_, fun_mk (st := st_Bench_names) l6 c6 k6⟩
      f_BenchX_lenX := ⟨_, fun_mk (st := st_BenchX_lenX) l7 c7 k7⟩
      f_Pattern_pieces := ⟨_, fun_mk (st := st_Pattern_pieces) l8 c8 k8⟩
      f_BenchX_containsX := ⟨_, fun_mk (st := st_BenchX_containsX) l9 c9 k9⟩
      f_Bench_check_known := ⟨_, fun_mk (st := st_Bench_check_known) l10 c10 k10⟩
      f_BenchX_getitemX := ⟨_, fun_mk (st := st_BenchX_getitemX) l11 c11 k11⟩
      f__law_state_right := ⟨_, fun_mk (st := st__law_state_right) l12 c12 k12⟩
      f_integer_in := ⟨_, fun_mk (st := st_integer_in) l13 c13 k13⟩
      f_is_integer := ⟨_, fun_mk (st := st_is_integer) l14 c14 k14⟩
      f_is_between := ⟨_, fun_mk (st := st_is_between) l15 c15 k15⟩
      f_piece_in := ⟨_, fun_mk (st := st_piece_in) l16 c16 k16⟩
      f_is_piece := ⟨_, fun_mk (st := st_is_piece) l17 c17 k17⟩
      f_check_pieces := ⟨_, fun_mk (st := st_check_pieces) l18 c18 k18⟩
      f_joined := ⟨_, fun_mk (st := st_joined) l19 c19 k19⟩
      f_chain_of := ⟨_, fun_mk (st := st_chain_of) l20 c20 k20⟩
      f_PatternX_initX := ⟨_, fun_mk (st := st_PatternX_initX) l21 c21 k21⟩
      f_RowX_initX := ⟨_, fun_mk (st := st_RowX_initX) l22 c22 k22⟩
      f_pattern_in := ⟨_, fun_mk (st := st_pattern_in) l23 c23 k23⟩
      f_Pattern_read := ⟨_, fun_mk (st := st_Pattern_read) l24 c24 k24⟩
      f__law_text := ⟨_, fun_mk (st := st__law_text) l25 c25 k25⟩
      f__law_pat := ⟨_, fun_mk (st := st__law_pat) l26 c26 k26⟩
      f__law_anything := ⟨_, fun_mk (st := st__law_anything) l27 c27 k27⟩
      f__law_is_name := ⟨_, fun_mk (st := st__law_is_name) l28 c28 k28⟩
      f_is_name := ⟨_, fun_mk (st := st_is_name) l29 c29 k29⟩
      f_check_pattern := ⟨_, fun_mk (st := st_check_pattern) l30 c30 k30⟩
      f_Bench_become := ⟨_, fun_mk (st := st_Bench_become) l31 c31 k31⟩
      f_BenchX_setitemX := ⟨_, fun_mk (st := st_BenchX_setitemX) l32 c32 k32⟩
      f__law_put := ⟨_, fun_mk (st := st__law_put) l33 c33 k33⟩
      f_PatternX_strX := ⟨_, fun_mk (st := st_PatternX_strX) l34 c34 k34⟩
      f_PatternX_reprX := ⟨_, fun_mk (st := st_PatternX_reprX) l35 c35 k35⟩
      f__law_error := ⟨_, fun_mk (st := st__law_error) l42 c42 k42⟩
      f__law_told := ⟨_, fun_mk (st := st__law_told) l43 c43 k43⟩
      f_Bench_drop := ⟨_, fun_mk (st := st_Bench_drop) l36 c36 k36⟩
      f__law_refused_right := ⟨_, ⟨fun_mk (st := st__law_refused_right) l37 c37 k37, ⟨_, _, _, _, _, _, _, _, rfl, l37, c37⟩⟩⟩
      tb_0 := hTB (cc37, P37) (by simp)
      f__law_right := ⟨_, ⟨fun_mk (st := st__law_right) l38 c38 k38, ⟨_, _, _, _, _, _, _, _, rfl, l38, c38⟩⟩⟩
      tb_1 := hTB (cc38, P38) (by simp)
      f__law_src := ⟨_, fun_mk (st := st__law_src) l39 c39 k39⟩
      f__law_cell := ⟨_, fun_mk (st := st__law_cell) l40 c40 k40⟩
      f_law := ⟨_, fun_mk (st := st_law) l41 c41 k41⟩
      z_abs := PySem.W.mg_none_of X G z_abs
      z_all := PySem.W.mg_none_of X G z_all
      z_any := PySem.W.mg_none_of X G z_any
      z_bool := PySem.W.mg_none_of X G z_bool
      z_dict := PySem.W.mg_none_of X G z_dict
      z_divmod := PySem.W.mg_none_of X G z_divmod
      z_enumerate := PySem.W.mg_none_of X G z_enumerate
      z_int := PySem.W.mg_none_of X G z_int
      z_isinstance := PySem.W.mg_none_of X G z_isinstance
      z_len := PySem.W.mg_none_of X G z_len
      z_list := PySem.W.mg_none_of X G z_list
      z_max := PySem.W.mg_none_of X G z_max
      z_min := PySem.W.mg_none_of X G z_min
      z_range := PySem.W.mg_none_of X G z_range
      z_repr := PySem.W.mg_none_of X G z_repr
      z_sorted := PySem.W.mg_none_of X G z_sorted
      z_str := PySem.W.mg_none_of X G z_str
      z_tuple := PySem.W.mg_none_of X G z_tuple
      kx_NotAPattern := PySem.W.mg_of X G nX0
      kx_NotARun := PySem.W.mg_of X G nX1
      kx_InvalidResistance := PySem.W.mg_of X G nX2
      kx_InvalidCount := PySem.W.mg_of X G nX3
      kx_InvalidNumber := PySem.W.mg_of X G nX4
      kx_InvalidText := PySem.W.mg_of X G nX5
      kx_InvalidName := PySem.W.mg_of X G nX6
      kx_InvalidClaim := PySem.W.mg_of X G nX7
      kx_InvalidIndex := PySem.W.mg_of X G nX8
      kx_InvalidPieces := PySem.W.mg_of X G nX9
      kx_InvalidDeeds := PySem.W.mg_of X G nX12
      kx_UnknownName := PySem.W.mg_of X G nX13
      kx_InUse := PySem.W.mg_of X G nX14
      kx_TooMany := PySem.W.mg_of X G nX15
      kx_Broken := PySem.W.mg_of X G nX16
      kx_NoLimit := PySem.W.mg_of X G nX17
      kx_NothingToUndo := PySem.W.mg_of X G nX18
      kx_WrongValue := PySem.W.mg_of X G nX20
      kx_WrongName := PySem.W.mg_of X G nX21
      kx_NoAnswer := PySem.W.mg_of X G nX22
      zx_ValueError := PySem.W.mg_none_of X G zx_ValueError
      zx_LookupError := PySem.W.mg_none_of X G zx_LookupError
      zx_ArithmeticError := PySem.W.mg_none_of X G zx_ArithmeticError
      xn_UnknownName_given := xn13_given
      xn_UnknownName_most := xn13_most
      xn_UnknownName_index := xn13_index
      er_UnknownName := fun b => errT_of (slf := "self") (par := "given") (f := "given") rfl (PySem.W.mg_of X G nX13) rfl ⟨⟨_, _, _, _, _, _, _, _, _, _, _, _, _, _, _, _, _, _, _, PySem.F.excBase_LookupError, rfl, by decide +kernel, pas_L, oe13, rv13⟩, se13, eb13, et13, ek13⟩ ei13 ej13 xn13_given (fun_mk (st := st_UnknownNameX_initX) el13 ec13 ef13) ((fun_mk (st := st_UnknownNameX_initX) el13 ec13 ef13).binds fun _ _ _ _ _ _ us hl => match us, hl with | [_, _], _ => rfl) sc_UnknownNameX_initX ⟨_, _, _, _, rfl⟩ rfl rfl rfl rfl
      xf_UnknownName := ⟨eg13, eh13, eb13, ed13⟩
      xh_UnknownName := fun b => ⟨⟨eg13, eh13, eb13, ed13, ea13, ihn, iht, em13⟩, fun c b h => by
        obtain ⟨k, hk, rfl, rfl⟩ := isS_of h
        show PySem.W.kitOne K (.ref X13) (.ref (AD (1000 + (100 + k)))) = _
        rw [keyX k hk]
        exact eq_of_beq (List.all_eq_true.mp ks13 k (List.mem_range.mpr hk)), fun n b h => by
        unfold isB at h
        split at h
        · next q => cases h; rw [q]; exact kb13_23
        · split at h
          · next q => cases h; rw [q]; exact kb13_24
          · split at h
            · next q => cases h; rw [q]; exact kb13_25
            · cases h⟩
      xm_UnknownName := xa13_
      xn_InvalidPieces_given := xn9_given
      xn_InvalidPieces_most := xn9_most
      xn_InvalidPieces_index := xn9_index
      er_InvalidPieces := fun b => errT_of (slf := "self") (par := "index") (f := "index") rfl (PySem.W.mg_of X G nX9) rfl ⟨⟨_, _, _, _, _, _, _, _, _, _, _, _, _, _, _, _, _, _, _, PySem.F.excBase_ValueError, rfl, by decide +kernel, pas_V, oe9, rv9⟩, se9, eb9, et9, ek9⟩ ei9 ej9 xn9_index (fun_mk (st := st_InvalidPiecesX_initX) el9 ec9 ef9) ((fun_mk (st := st_InvalidPiecesX_initX) el9 ec9 ef9).binds fun _ _ _ _ _ _ us hl => match us, hl with | [_, _], _ => rfl) sc_InvalidPiecesX_initX ⟨_, _, _, _, rfl⟩ rfl rfl rfl rfl
      xf_InvalidPieces := ⟨eg9, eh9, eb9, ed9⟩
      xh_InvalidPieces := fun b => ⟨⟨eg9, eh9, eb9, ed9, ea9, ihn, iht, em9⟩, fun c b h => by
        obtain ⟨k, hk, rfl, rfl⟩ := isS_of h
        show PySem.W.kitOne K (.ref X9) (.ref (AD (1000 + (100 + k)))) = _
        rw [keyX k hk]
        exact eq_of_beq (List.all_eq_true.mp ks9 k (List.mem_range.mpr hk)), fun n b h => by
        unfold isB at h
        split at h
        · next q => cases h; rw [q]; exact kb9_23
        · split at h
          · next q => cases h; rw [q]; exact kb9_24
          · split at h
            · next q => cases h; rw [q]; exact kb9_25
            · cases h⟩
      xm_InvalidPieces := xa9_
      xn_InvalidText_given := xn5_given
      xn_InvalidText_most := xn5_most
      xn_InvalidText_index := xn5_index
      er_InvalidText := fun b => errT_of (slf := "self") (par := "given") (f := "given") rfl (PySem.W.mg_of X G nX5) rfl ⟨⟨_, _, _, _, _, _, _, _, _, _, _, _, _, _, _, _, _, _, _, PySem.F.excBase_ValueError, rfl, by decide +kernel, pas_V, oe5, rv5⟩, se5, eb5, et5, ek5⟩ ei5 ej5 xn5_given (fun_mk (st := st_InvalidTextX_initX) el5 ec5 ef5) ((fun_mk (st := st_InvalidTextX_initX) el5 ec5 ef5).binds fun _ _ _ _ _ _ us hl => match us, hl with | [_, _], _ => rfl) sc_InvalidTextX_initX ⟨_, _, _, _, rfl⟩ rfl rfl rfl rfl
      xf_InvalidText := ⟨eg5, eh5, eb5, ed5⟩
      xh_InvalidText := fun b => ⟨⟨eg5, eh5, eb5, ed5, ea5, ihn, iht, em5⟩, fun c b h => by
        obtain ⟨k, hk, rfl, rfl⟩ := isS_of h
        show PySem.W.kitOne K (.ref X5) (.ref (AD (1000 + (100 + k)))) = _
        rw [keyX k hk]
        exact eq_of_beq (List.all_eq_true.mp ks5 k (List.mem_range.mpr hk)), fun n b h => by
        unfold isB at h
        split at h
        · next q => cases h; rw [q]; exact kb5_23
        · split at h
          · next q => cases h; rw [q]; exact kb5_24
          · split at h
            · next q => cases h; rw [q]; exact kb5_25
            · cases h⟩
      xm_InvalidText := xa5_
      xn_InvalidName_given := xn6_given
      xn_InvalidName_most := xn6_most
      xn_InvalidName_index := xn6_index
      er_InvalidName := fun b => errT_of (slf := "self") (par := "given") (f := "given") rfl (PySem.W.mg_of X G nX6) rfl ⟨⟨_, _, _, _, _, _, _, _, _, _, _, _, _, _, _, _, _, _, _, PySem.F.excBase_ValueError, rfl, by decide +kernel, pas_V, oe6, rv6⟩, se6, eb6, et6, ek6⟩ ei6 ej6 xn6_given (fun_mk (st := st_InvalidNameX_initX) el6 ec6 ef6) ((fun_mk (st := st_InvalidNameX_initX) el6 ec6 ef6).binds fun _ _ _ _ _ _ us hl => match us, hl with | [_, _], _ => rfl) sc_InvalidNameX_initX ⟨_, _, _, _, rfl⟩ rfl rfl rfl rfl
      xf_InvalidName := ⟨eg6, eh6, eb6, ed6⟩
      xh_InvalidName := fun b => ⟨⟨eg6, eh6, eb6, ed6, ea6, ihn, iht, em6⟩, fun c b h => by
        obtain ⟨k, hk, rfl, rfl⟩ := isS_of h
        show PySem.W.kitOne K (.ref X6) (.ref (AD (1000 + (100 + k)))) = _
        rw [keyX k hk]
        exact eq_of_beq (List.all_eq_true.mp ks6 k (List.mem_range.mpr hk)), fun n b h => by
        unfold isB at h
        split at h
        · next q => cases h; rw [q]; exact kb6_23
        · split at h
          · next q => cases h; rw [q]; exact kb6_24
          · split at h
            · next q => cases h; rw [q]; exact kb6_25
            · cases h⟩
      xm_InvalidName := xa6_
      xn_NotAPattern_given := xn0_given
      xn_NotAPattern_most := xn0_most
      xn_NotAPattern_index := xn0_index
      er_NotAPattern := fun b => errT_of (slf := "self") (par := "given") (f := "given") rfl (PySem.W.mg_of X G nX0) rfl ⟨⟨_, _, _, _, _, _, _, _, _, _, _, _, _, _, _, _, _, _, _, PySem.F.excBase_ValueError, rfl, by decide +kernel, pas_V, oe0, rv0⟩, se0, eb0, et0, ek0⟩ ei0 ej0 xn0_given (fun_mk (st := st_NotAPatternX_initX) el0 ec0 ef0) ((fun_mk (st := st_NotAPatternX_initX) el0 ec0 ef0).binds fun _ _ _ _ _ _ us hl => match us, hl with | [_, _], _ => rfl) sc_NotAPatternX_initX ⟨_, _, _, _, rfl⟩ rfl rfl rfl rfl
      xf_NotAPattern := ⟨eg0, eh0, eb0, ed0⟩
      xh_NotAPattern := fun b => ⟨⟨eg0, eh0, eb0, ed0, ea0, ihn, iht, em0⟩, fun c b h => by
        obtain ⟨k, hk, rfl, rfl⟩ := isS_of h
        show PySem.W.kitOne K (.ref X0) (.ref (AD (1000 + (100 + k)))) = _
        rw [keyX k hk]
        exact eq_of_beq (List.all_eq_true.mp ks0 k (List.mem_range.mpr hk)), fun n b h => by
        unfold isB at h
        split at h
        · next q => cases h; rw [q]; exact kb0_23
        · split at h
          · next q => cases h; rw [q]; exact kb0_24
          · split at h
            · next q => cases h; rw [q]; exact kb0_25
            · cases h⟩
      xm_NotAPattern := xa0_
      c_WORDS := fun _ => glob_tup (PySem.W.mg_of X G v_WORDS) ⟨_, _, _, w_WORDS, rfl, rfl, (by have := r_WORDS.length; rw [← Array.length_toList, ← this]; decide), r_WORDS⟩ (fun _ => ⟨_, _, rfl, rfl, ⟨_, _, rfl, rfl, rfl⟩⟩)
      c_DIGITS := fun _ => glob_str (PySem.W.mg_of X G v_DIGITS)
      c_MOST_DIGITS := fun _ => glob_int (PySem.W.mg_of X G v_MOST_DIGITS)
      c_MOST_OHMS := fun _ => glob_int (PySem.W.mg_of X G v_MOST_OHMS)
      c_MOST_JOINED := fun _ => glob_int (PySem.W.mg_of X G v_MOST_JOINED)
      c_MOST_PIECES := fun _ => glob_int (PySem.W.mg_of X G v_MOST_PIECES)
      c_NOTHING := fun _ => glob_tup (PySem.W.mg_of X G v_NOTHING) ⟨_, _, _, w_NOTHING, rfl, rfl, (by have := r_NOTHING.length; rw [← Array.length_toList, ← this]; decide), r_NOTHING⟩ (fun _ => ⟨_, _, rfl, rfl, ⟨_, _, rfl, rfl, ⟨_, _, rfl, rfl, ⟨_, _, rfl, rfl, rfl⟩⟩⟩⟩)
      c_MOST_LETTERS := fun _ => glob_int (PySem.W.mg_of X G v_MOST_LETTERS)
      c_LETTERS := fun _ => glob_str (PySem.W.mg_of X G v_LETTERS)
      isa := fun _ Y hY => by
        subst hY
        refine ⟨fun c hc => ?_, ihn, iht, fun c c' b hb => ?_, fun c t hc => ?_, fun t c hc => ?_⟩
        · have hc := of_decide_eq_true hc
          simp only [List.mem_cons, List.mem_nil_iff, or_false] at hc
          rcases hc with rfl | rfl | rfl
          · exact ⟨⟨pgC0, hdC0, poC0, saC0⟩, ccC0, moC0⟩
          · exact ⟨⟨pgC1, hdC1, poC1, saC1⟩, ccC1, moC1⟩
          · exact ⟨⟨pgC11, hdC11, poC11, saC11⟩, ccC11, moC11⟩
        · split at hb
          · next hh =>
            obtain ⟨h1, h2⟩ := hh
            simp only [List.mem_cons, List.mem_nil_iff, or_false] at h1 h2
            rcases h1 with rfl | rfl | rfl <;> rcases h2 with rfl | rfl <;> cases hb
            · exact Ev.kit_cc ic0 ty0 kk0_0 kk0_0
            · exact Ev.kit_cc ic1 ty1 kk0_1 kk1_1
            · exact Ev.kit_cc ic0 ty0 kk1_0 kk0_0
            · exact Ev.kit_cc ic1 ty1 kk1_1 kk1_1
            · exact Ev.kit_cc ic0 ty0 kk11_0 kk0_0
            · exact Ev.kit_cc ic1 ty1 kk11_1 kk1_1
          · cases hb
        · have hc := of_decide_eq_true hc
          simp only [List.mem_cons, List.mem_nil_iff, or_false] at hc
          rcases hc with rfl | rfl | rfl <;> cases t
          · exact Ev.kit_ct (by decide +kernel) ct0_none_
          · exact Ev.kit_ct (by decide +kernel) ct0_bool
          · exact Ev.kit_ct (by decide +kernel) ct0_int
          · exact Ev.kit_ct (by decide +kernel) ct0_str
          · exact Ev.kit_ct (by decide +kernel) ct0_tuple
          · exact Ev.kit_ct (by decide +kernel) ct0_list
          · exact Ev.kit_ct (by decide +kernel) ct0_dict
          · exact Ev.kit_ct (by decide +kernel) ct1_none_
          · exact Ev.kit_ct (by decide +kernel) ct1_bool
          · exact Ev.kit_ct (by decide +kernel) ct1_int
          · exact Ev.kit_ct (by decide +kernel) ct1_str
          · exact Ev.kit_ct (by decide +kernel) ct1_tuple
          · exact Ev.kit_ct (by decide +kernel) ct1_list
          · exact Ev.kit_ct (by decide +kernel) ct1_dict
          · exact Ev.kit_ct (by decide +kernel) ct11_none_
          · exact Ev.kit_ct (by decide +kernel) ct11_bool
          · exact Ev.kit_ct (by decide +kernel) ct11_int
          · exact Ev.kit_ct (by decide +kernel) ct11_str
          · exact Ev.kit_ct (by decide +kernel) ct11_tuple
          · exact Ev.kit_ct (by decide +kernel) ct11_list
          · exact Ev.kit_ct (by decide +kernel) ct11_dict
        · have hc := of_decide_eq_true hc
          simp only [List.mem_cons, List.mem_nil_iff, or_false] at hc
          rcases hc with rfl | rfl | rfl <;> cases t
          · exact Ev.kit_cc ic0 ty0 tc0_none_ kk0_0
          · exact Ev.kit_cc ic0 ty0 tc0_bool kk0_0
          · exact Ev.kit_cc ic0 ty0 tc0_int kk0_0
          · exact Ev.kit_cc ic0 ty0 tc0_str kk0_0
          · exact Ev.kit_cc ic0 ty0 tc0_tuple kk0_0
          · exact Ev.kit_cc ic0 ty0 tc0_list kk0_0
          · exact Ev.kit_cc ic0 ty0 tc0_dict kk0_0
          · exact Ev.kit_cc ic1 ty1 tc1_none_ kk1_1
          · exact Ev.kit_cc ic1 ty1 tc1_bool kk1_1
          · exact Ev.kit_cc ic1 ty1 tc1_int kk1_1
          · exact Ev.kit_cc ic1 ty1 tc1_str kk1_1
          · exact Ev.kit_cc ic1 ty1 tc1_tuple kk1_1
          · exact Ev.kit_cc ic1 ty1 tc1_list kk1_1
          · exact Ev.kit_cc ic1 ty1 tc1_dict kk1_1
          · exact Ev.kit_cc ic11 ty11 tc11_none_ kk11_11
          · exact Ev.kit_cc ic11 ty11 tc11_bool kk11_11
          · exact Ev.kit_cc ic11 ty11 tc11_int kk11_11
          · exact Ev.kit_cc ic11 ty11 tc11_str kk11_11
          · exact Ev.kit_cc ic11 ty11 tc11_tuple kk11_11
          · exact Ev.kit_cc ic11 ty11 tc11_list kk11_11
          · exact Ev.kit_cc ic11 ty11 tc11_dict kk11_11 }
  exact ok_law T
end K61
open PySem PySem.W PyProof.Rows
set_option maxHeartbeats 0 in
theorem PySem.Challenge.cw_rungladders_k61_patterns_under_names_holds : PySem.Challenge.rw_rungladders_k61_patterns_under_names.Holds := by
  refine hd61 ?_
  k_fill
  refine Ev.end_walkT (l := PySem.Challenge.rw_rungladders_k61_patterns_under_names) (n := 63) (k := 22) (m := 2) rfl (by decide) rfl ⟨rfl, by decide, by decide⟩ ?F K61.law_true
  case F =>
    intro w mg fa h Y G hmg
    have KX := Hk.mIn_of (fun _ => by kernel_rfl) Y
    refine' K61.all_mk (l := PySem.Challenge.rw_rungladders_k61_patterns_under_names) (w := w) KX G hmg ?nC0 ?pgC0 ?hdC0 ?poC0 ?saC0 ?ccC0 ?moC0 ?naC0_told ?nC1 ?pgC1 ?hdC1 ?poC1 ?saC1 ?ccC1 ?moC1 ?naC1_row ?naC1_chain ?naC1_scale ?nC11 ?pgC11 ?hdC11 ?poC11 ?saC11 ?ccC11 ?moC11 ?naC11_patterns ?naC11_made ?naC11_past ?a1 ?a2 ?a3 ?a12 ?a13 ?a14 ?a15 ?a16 ?a17 ?a18 ?a19 ?a20 ?a23 ?a25 ?a26 ?a27 ?a28 ?a29 ?a30 ?a33 ?a42 ?a43 ?a37 ?a38 ?a39 ?a40 ?a41 ?a0_11 ?mkC11 ?kpC11 ?i0 ?a21_1 ?mkC1 ?kpC1 ?i21 ?a22_0 ?mkC0 ?kpC0 ?i22 ?a4_11 ?b4_11 ?d4_11 ?e4_11 ?a5_11 ?b5_11 ?d5_11 ?e5_11 ?a6_11 ?b6_11 ?d6_11 ?e6_11 ?a7_11 ?i7 ?nbC11 ?a8_1 ?b8_1 ?d8_1 ?e8_1 ?a9_11 ?i9 ?a10_11 ?i10 ?k10 ?a11_11 ?i11 ?x11 ?a31_11 ?i31 ?k31 ?a32_11 ?i32 ?nqC11 ?a34_1 ?i34 ?foC1 ?a35_1 ?i35 ?a36_11 ?i36 ?k36 ?t24 ?b24 ?d24 ?a24 ?e24 ?l0 ?c0 ?k0 ?l1 ?c1 ?k1 ?l2 ?c2 ?k2 ?l3 ?c3 ?k3 ?l4 ?c4 ?k4 ?l5 ?c5 ?k5 ?l6 ?c6 ?k6 ?l7 ?c7 ?k7 ?l8 ?c8 ?k8 ?l9 ?c9 ?k9 ?l10 ?c10 ?l11 ?c11 ?k11 ?l12 ?c12 ?k12 ?l13 ?c13 ?k13 ?l14 ?c14 ?k14 ?l15 ?c15 ?k15 ?l16 ?c16 ?k16 ?l17 ?c17 ?k17 ?l18 ?c18 ?k18 ?l19 ?c19 ?k19 ?l20 ?c20 ?k20 ?l21 ?c21 ?k21 ?l22 ?c22 ?k22 ?l23 ?c23 ?k23 ?l24 ?c24 ?k24 ?l25 ?c25 ?k25 ?l26 ?c26 ?k26 ?l27 ?c27 ?k27 ?l28 ?c28 ?k28 ?l29 ?c29 ?k29 ?l30 ?c30 ?k30 ?l31 ?c31 ?l32 ?c32 ?k32 ?l33 ?c33 ?k33 ?l34 ?c34 ?k34 ?l35 ?c35 ?k35 ?l42 ?c42 ?k42 ?l43 ?c43 ?k43 ?l36 ?c36 ?l37 ?c37 ?k37 ?lb37 ?lp37 ?hc37 ?ht37 ?hn37 ?l38 ?c38 ?k38 ?lb38 ?lp38 ?hc38 ?ht38 ?hn38 ?l39 ?c39 ?k39 ?l40 ?c40 ?k40 ?l41 ?c41 ?k41 ?z_abs ?z_all ?z_any ?z_bool ?z_dict ?z_divmod ?z_enumerate ?z_int ?z_isinstance ?z_len ?z_list ?z_max ?z_min ?z_range ?z_repr ?z_sorted ?z_str ?z_tuple ?nX0 ?nX1 ?nX2 ?nX3 ?nX4 ?nX5 ?nX6 ?nX7 ?nX8 ?nX9 ?nX12 ?nX13 ?nX14 ?nX15 ?nX16 ?nX17 ?nX18 ?nX20 ?nX21 ?nX22 ?zx_ValueError ?zx_LookupError ?zx_ArithmeticError ?oe13 ?rv13 ?se13 ?eb13 ?et13 ?ek13 ?ei13 ?ej13 ?xn13_given ?xn13_most ?xn13_index ?el13 ?ec13 ?ef13 ?eg13 ?eh13 ?ed13 ?ea13 ?em13 ?ks13 ?kb13_23 ?kb13_24 ?kb13_25 ?xa13_ ?oe9 ?rv9 ?se9 ?eb9 ?et9 ?ek9 ?ei9 ?ej9 ?xn9_given ?xn9_most ?xn9_index ?el9 ?ec9 ?ef9 ?eg9 ?eh9 ?ed9 ?ea9 ?em9 ?ks9 ?kb9_23 ?kb9_24 ?kb9_25 ?xa9_ ?oe5 ?rv5 ?se5 ?eb5 ?et5 ?ek5 ?ei5 ?ej5 ?xn5_given ?xn5_most ?xn5_index ?el5 ?ec5 ?ef5 ?eg5 ?eh5 ?ed5 ?ea5 ?em5 ?ks5 ?kb5_23 ?kb5_24 ?kb5_25 ?xa5_ ?oe6 ?rv6 ?se6 ?eb6 ?et6 ?ek6 ?ei6 ?ej6 ?xn6_given ?xn6_most ?xn6_index ?el6 ?ec6 ?ef6 ?eg6 ?eh6 ?ed6 ?ea6 ?em6 ?ks6 ?kb6_23 ?kb6_24 ?kb6_25 ?xa6_ ?oe0 ?rv0 ?se0 ?eb0 ?et0 ?ek0 ?ei0 ?ej0 ?xn0_given ?xn0_most ?xn0_index ?el0 ?ec0 ?ef0 ?eg0 ?eh0 ?ed0 ?ea0 ?em0 ?ks0 ?kb0_23 ?kb0_24 ?kb0_25 ?xa0_ ?v_WORDS ?w_WORDS ?r_WORDS ?v_DIGITS ?v_MOST_DIGITS ?v_MOST_OHMS ?v_MOST_JOINED ?v_MOST_PIECES ?v_NOTHING ?w_NOTHING ?r_NOTHING ?v_MOST_LETTERS ?v_LETTERS ?ihn ?iht ?ic0 ?ty0 ?kk0_0 ?kk0_1 ?ct0_none_ ?tc0_none_ ?ct0_bool ?tc0_bool ?ct0_int ?tc0_int ?ct0_str ?tc0_str ?ct0_tuple ?tc0_tuple ?ct0_list ?tc0_list ?ct0_dict ?tc0_dict ?ic1 ?ty1 ?kk1_1 ?kk1_0 ?ct1_none_ ?tc1_none_ ?ct1_bool ?tc1_bool ?ct1_int ?tc1_int ?ct1_str ?tc1_str ?ct1_tuple ?tc1_tuple ?ct1_list ?tc1_list ?ct1_dict ?tc1_dict ?ic11 ?ty11 ?kk11_11 ?kk11_0 ?kk11_1 ?ct11_none_ ?tc11_none_ ?ct11_bool ?tc11_bool ?ct11_int ?tc11_int ?ct11_str ?tc11_str ?ct11_tuple ?tc11_tuple ?ct11_list ?tc11_list ?ct11_dict ?tc11_dict ?nd
    (case nC0 => k_is); (case nC1 => k_is); (case nC11 => k_is); (case nX0 => k_is); (case nX1 => k_is); (case nX2 => k_is)
    (case nX3 => k_is); (case nX4 => k_is); (case nX5 => k_is); (case nX6 => k_is); (case nX7 => k_is); (case nX8 => k_is)
    (case nX9 => k_is); (case nX12 => k_is); (case nX13 => k_is); (case nX14 => k_is); (case nX15 => k_is); (case nX16 => k_is)
    (case nX17 => k_is); (case nX18 => k_is); (case nX20 => k_is); (case nX21 => k_is); (case nX22 => k_is); (case pgC0 => k_is)
    (case hdC0 => k_is); (case poC0 => k_is); (case saC0 => k_is); (case ccC0 => k_is); (case moC0 => k_is); (case naC0_told => k_is)
    (case pgC1 => k_is); (case hdC1 => k_is); (case poC1 => k_is); (case saC1 => k_is); (case ccC1 => k_is); (case moC1 => k_is)
    (case naC1_row => k_is); (case naC1_chain => k_is); (case naC1_scale => k_is); (case pgC11 => k_is); (case hdC11 => k_is); (case poC11 => k_is)
    (case saC11 => k_is); (case ccC11 => k_is); (case moC11 => k_is); (case naC11_patterns => k_is); (case naC11_made => k_is); (case naC11_past => k_is)
    (case a1 => k_is); (case a2 => k_is); (case a3 => k_is); (case a12 => k_is); (case a13 => k_is); (case a14 => k_is)
    (case a15 => k_is); (case a16 => k_is); (case a17 => k_is); (case a18 => k_is); (case a19 => k_is); (case a20 => k_is)
    (case a23 => k_is); (case a25 => k_is); (case a26 => k_is); (case a27 => k_is); (case a28 => k_is); (case a29 => k_is)
    (case a30 => k_is); (case a33 => k_is); (case a42 => k_is); (case a43 => k_is); (case a37 => k_is); (case a38 => k_is)
    (case a39 => k_is); (case a40 => k_is); (case a41 => k_is); (case a0_11 => k_is); (case mkC11 => k_is); (case kpC11 => k_is)
    (case i0 => k_is); (case a21_1 => k_is); (case mkC1 => k_is); (case kpC1 => k_is); (case i21 => k_is); (case a22_0 => k_is)
    (case mkC0 => k_is); (case kpC0 => k_is); (case i22 => k_is); (case a4_11 => k_is); (case b4_11 => k_is); (case d4_11 => k_is)
    (case e4_11 => k_is); (case a5_11 => k_is); (case b5_11 => k_is); (case d5_11 => k_is); (case e5_11 => k_is); (case a6_11 => k_is)
    (case b6_11 => k_is); (case d6_11 => k_is); (case e6_11 => k_is); (case a7_11 => k_is); (case i7 => k_is); (case nbC11 => k_is)
    (case a8_1 => k_is); (case b8_1 => k_is); (case d8_1 => k_is); (case e8_1 => k_is); (case a9_11 => k_is); (case i9 => k_is)
    (case a10_11 => k_is); (case i10 => k_is); (case k10 => k_is); (case a11_11 => k_is); (case i11 => k_is); (case x11 => k_is)
    (case a31_11 => k_is); (case i31 => k_is); (case k31 => k_is); (case a32_11 => k_is); (case i32 => k_is); (case nqC11 => k_is)
    (case a34_1 => k_is); (case i34 => k_is); (case foC1 => k_is); (case a35_1 => k_is); (case i35 => k_is); (case a36_11 => k_is)
    (case i36 => k_is); (case k36 => k_is); (case t24 => k_is); (case b24 => k_is); (case d24 => k_is); (case a24 => k_is)
    (case e24 => k_is); (case l0 => k_is); (case c0 => k_is); (case k0 => k_is); (case l1 => k_is); (case c1 => k_is)
    (case k1 => k_is); (case l2 => k_is); (case c2 => k_is); (case k2 => k_is); (case l3 => k_is); (case c3 => k_is)
    (case k3 => k_is); (case l4 => k_is); (case c4 => k_is); (case k4 => k_is); (case l5 => k_is); (case c5 => k_is)
    (case k5 => k_is); (case l6 => k_is); (case c6 => k_is); (case k6 => k_is); (case l7 => k_is); (case c7 => k_is)
    (case k7 => k_is); (case l8 => k_is); (case c8 => k_is); (case k8 => k_is); (case l9 => k_is); (case c9 => k_is)
    (case k9 => k_is); (case l10 => k_is); (case c10 => k_is); (case l11 => k_is); (case c11 => k_is); (case k11 => k_is)
    (case l12 => k_is); (case c12 => k_is); (case k12 => k_is); (case l13 => k_is); (case c13 => k_is); (case k13 => k_is)
    (case l14 => k_is); (case c14 => k_is); (case k14 => k_is); (case l15 => k_is); (case c15 => k_is); (case k15 => k_is)
    (case l16 => k_is); (case c16 => k_is); (case k16 => k_is); (case l17 => k_is); (case c17 => k_is); (case k17 => k_is)
    (case l18 => k_is); (case c18 => k_is); (case k18 => k_is); (case l19 => k_is); (case c19 => k_is); (case k19 => k_is)
    (case l20 => k_is); (case c20 => k_is); (case k20 => k_is); (case l21 => k_is); (case c21 => k_is); (case k21 => k_is)
    (case l22 => k_is); (case c22 => k_is); (case k22 => k_is); (case l23 => k_is); (case c23 => k_is); (case k23 => k_is)
    (case l24 => k_is); (case c24 => k_is); (case k24 => k_is); (case l25 => k_is); (case c25 => k_is); (case k25 => k_is)
    (case l26 => k_is); (case c26 => k_is); (case k26 => k_is); (case l27 => k_is); (case c27 => k_is); (case k27 => k_is)
    (case l28 => k_is); (case c28 => k_is); (case k28 => k_is); (case l29 => k_is); (case c29 => k_is); (case k29 => k_is)
    (case l30 => k_is); (case c30 => k_is); (case k30 => k_is); (case l31 => k_is); (case c31 => k_is); (case l32 => k_is)
    (case c32 => k_is); (case k32 => k_is); (case l33 => k_is); (case c33 => k_is); (case k33 => k_is); (case l34 => k_is)
    (case c34 => k_is); (case k34 => k_is); (case l35 => k_is); (case c35 => k_is); (case k35 => k_is); (case l42 => k_is)
    (case c42 => k_is); (case k42 => k_is); (case l43 => k_is); (case c43 => k_is); (case k43 => k_is); (case l36 => k_is)
    (case c36 => k_is); (case l37 => k_is); (case c37 => k_is); (case k37 => k_is); (case lb37 => k_is); (case lp37 => first | rfl | k_is | decide +kernel)
    (case hc37 => kernel_rfl); (case ht37 => exact Hk.mTabs_of Y _ (by first | decide | simp)); (case hn37 => kernel_rfl); (case l38 => k_is); (case c38 => k_is); (case k38 => k_is)
    (case lb38 => k_is); (case lp38 => first | rfl | k_is | decide +kernel); (case hc38 => kernel_rfl); (case ht38 => exact Hk.mTabs_of Y _ (by first | decide | simp)); (case hn38 => kernel_rfl); (case l39 => k_is)
    (case c39 => k_is); (case k39 => k_is); (case l40 => k_is); (case c40 => k_is); (case k40 => k_is); (case l41 => k_is)
    (case c41 => k_is); (case k41 => k_is); (case z_abs => k_is); (case z_all => k_is); (case z_any => k_is); (case z_bool => k_is)
    (case z_dict => k_is); (case z_divmod => k_is); (case z_enumerate => k_is); (case z_int => k_is); (case z_isinstance => k_is); (case z_len => k_is)
    (case z_list => k_is); (case z_max => k_is); (case z_min => k_is); (case z_range => k_is); (case z_repr => k_is); (case z_sorted => k_is)
    (case z_str => k_is); (case z_tuple => k_is); (case zx_ValueError => k_is); (case zx_LookupError => k_is); (case zx_ArithmeticError => k_is); (case oe13 => k_is)
    (case rv13 => first | rfl | decide +kernel); (case se13 => k_is); (case eb13 => k_is); (case et13 => k_is); (case ek13 => k_is); (case ei13 => k_is)
    (case ej13 => k_is); (case xn13_given => k_is); (case xn13_most => k_is); (case xn13_index => k_is); (case el13 => k_is); (case ec13 => k_is)
    (case ef13 => k_is); (case eg13 => k_is); (case eh13 => k_is); (case ed13 => k_is); (case ea13 => k_is); (case em13 => k_is)
    (case ks13 => kernel_rfl); (case kb13_23 => kernel_rfl); (case kb13_24 => kernel_rfl); (case kb13_25 => kernel_rfl); (case xa13_ => kernel_rfl); (case oe9 => k_is)
    (case rv9 => first | rfl | decide +kernel); (case se9 => k_is); (case eb9 => k_is); (case et9 => k_is); (case ek9 => k_is); (case ei9 => k_is)
    (case ej9 => k_is); (case xn9_given => k_is); (case xn9_most => k_is); (case xn9_index => k_is); (case el9 => k_is); (case ec9 => k_is)
    (case ef9 => k_is); (case eg9 => k_is); (case eh9 => k_is); (case ed9 => k_is); (case ea9 => k_is); (case em9 => k_is)
    (case ks9 => kernel_rfl); (case kb9_23 => kernel_rfl); (case kb9_24 => kernel_rfl); (case kb9_25 => kernel_rfl); (case xa9_ => kernel_rfl); (case oe5 => k_is)
    (case rv5 => first | rfl | decide +kernel); (case se5 => k_is); (case eb5 => k_is); (case et5 => k_is); (case ek5 => k_is); (case ei5 => k_is)
    (case ej5 => k_is); (case xn5_given => k_is); (case xn5_most => k_is); (case xn5_index => k_is); (case el5 => k_is); (case ec5 => k_is)
    (case ef5 => k_is); (case eg5 => k_is); (case eh5 => k_is); (case ed5 => k_is); (case ea5 => k_is); (case em5 => k_is)
    (case ks5 => kernel_rfl); (case kb5_23 => kernel_rfl); (case kb5_24 => kernel_rfl); (case kb5_25 => kernel_rfl); (case xa5_ => kernel_rfl); (case oe6 => k_is)
    (case rv6 => first | rfl | decide +kernel); (case se6 => k_is); (case eb6 => k_is); (case et6 => k_is); (case ek6 => k_is); (case ei6 => k_is)
    (case ej6 => k_is); (case xn6_given => k_is); (case xn6_most => k_is); (case xn6_index => k_is); (case el6 => k_is); (case ec6 => k_is)
    (case ef6 => k_is); (case eg6 => k_is); (case eh6 => k_is); (case ed6 => k_is); (case ea6 => k_is); (case em6 => k_is)
    (case ks6 => kernel_rfl); (case kb6_23 => kernel_rfl); (case kb6_24 => kernel_rfl); (case kb6_25 => kernel_rfl); (case xa6_ => kernel_rfl); (case oe0 => k_is)
    (case rv0 => first | rfl | decide +kernel); (case se0 => k_is); (case eb0 => k_is); (case et0 => k_is); (case ek0 => k_is); (case ei0 => k_is)
    (case ej0 => k_is); (case xn0_given => k_is); (case xn0_most => k_is); (case xn0_index => k_is); (case el0 => k_is); (case ec0 => k_is)
    (case ef0 => k_is); (case eg0 => k_is); (case eh0 => k_is); (case ed0 => k_is); (case ea0 => k_is); (case em0 => k_is)
    (case ks0 => kernel_rfl); (case kb0_23 => kernel_rfl); (case kb0_24 => kernel_rfl); (case kb0_25 => kernel_rfl); (case xa0_ => kernel_rfl); (case v_WORDS => k_is)
    (case w_WORDS => k_is); (case r_WORDS => repeat first | exact .nil | refine .cons ⟨_, rfl⟩ ?_); (case v_DIGITS => k_is); (case v_MOST_DIGITS => k_is); (case v_MOST_OHMS => k_is); (case v_MOST_JOINED => k_is)
    (case v_MOST_PIECES => k_is); (case v_NOTHING => k_is); (case w_NOTHING => k_is); (case r_NOTHING => repeat first | exact .nil | refine .cons ⟨_, rfl⟩ ?_); (case v_MOST_LETTERS => k_is); (case v_LETTERS => k_is)
    (case ihn => k_is); (case iht => k_is); (case ic0 => k_is); (case ty0 => k_is); (case kk0_0 => k_is); (case kk0_1 => k_is)
    (case ct0_none_ => k_is); (case tc0_none_ => k_is); (case ct0_bool => k_is); (case tc0_bool => k_is); (case ct0_int => k_is); (case tc0_int => k_is)
    (case ct0_str => k_is); (case tc0_str => k_is); (case ct0_tuple => k_is); (case tc0_tuple => k_is); (case ct0_list => k_is); (case tc0_list => k_is)
    (case ct0_dict => k_is); (case tc0_dict => k_is); (case ic1 => k_is); (case ty1 => k_is); (case kk1_1 => k_is); (case kk1_0 => k_is)
    (case ct1_none_ => k_is); (case tc1_none_ => k_is); (case ct1_bool => k_is); (case tc1_bool => k_is); (case ct1_int => k_is); (case tc1_int => k_is)
    (case ct1_str => k_is); (case tc1_str => k_is); (case ct1_tuple => k_is); (case tc1_tuple => k_is); (case ct1_list => k_is); (case tc1_list => k_is)
    (case ct1_dict => k_is); (case tc1_dict => k_is); (case ic11 => k_is); (case ty11 => k_is); (case kk11_11 => k_is); (case kk11_0 => k_is)
    (case kk11_1 => k_is); (case ct11_none_ => k_is); (case tc11_none_ => k_is); (case ct11_bool => k_is); (case tc11_bool => k_is); (case ct11_int => k_is)
    (case tc11_int => k_is); (case ct11_str => k_is); (case tc11_str => k_is); (case ct11_tuple => k_is); (case tc11_tuple => k_is); (case ct11_list => k_is)
    (case tc11_list => k_is); (case ct11_dict => k_is); (case tc11_dict => k_is); (case nd => decide)
