import PyProof.Rows.All
import Wide.All
import OpenK.AllK
import Wide.FinOn
import HandS.ForMost
import HandS.ForExc
import HandS.More
import HandS.IsInst
import HandS.Flow
import HandS.Property
import HandS.Defaults
import HandS.TupLe
import HandS.SlotsOwn
import HandS.ClsMeth
import HandS.Ends
import PyProof.ReprRoads
import HandS.StrMore
import HandS.Head0
import HandS.Head1
import HandS.Head2
import HandS.HeadHook1
import HandS.HeadHook2
import HandS.HeadNt
import HandS.FStr
import HandS.Text
import HandS.Small
import HandS.RaiseMore
import KE.KFmtOwn
import KE.KCallOwn
import PyProof.CallFns
import PyProof.CallStr
import KE.KExcInit
import KE.KExcSuper
import KE.KSuper
import HandS.ExcInit
import HandS.Deep
import HandS.TupAny
import KE.GoesMore
import KE.GoesEnum
import HandS.Zip
import PySem.Challenge.RW_searchloops_k12_right_results
set_option Elab.async false
set_option linter.all false
set_option maxRecDepth 100000
set_option maxHeartbeats 4000000
namespace Z
open PySem PySem.Spec PyProof.Rows L2

/-! what is wanted of an exception, by the context -/
def xw (X : Cx) (σ : L2.St) : XK := fun cls d H => ∀ u s', XE X (fun c d' σ' H' => c = cls ∧ d' = d ∧ σ' = σ ∧ H' = H) u s' → X.xe u s'
theorem takes_w {X : Cx} : Takes X (fun cls d σ H => xw X σ cls d H) := by
  rintro u s' ⟨a, B, sI, pins, σ, H, cls, d, e, I, nb, up, sky, na, os, ag, w⟩
  exact w u s' ⟨a, B, sI, pins, σ, H, cls, d, e, I, nb, up, sky, na, os, ag, rfl, rfl, rfl, rfl⟩
theorem xw_of {X : Cx} {W : WX} (tk : Takes X W) {σ : L2.St} {cls : Value} {d : Option Addr} {H : Hp} (w : W cls d σ H) : xw X σ cls d H := by
  rintro u s' ⟨a, B, sI, pins, σ', H', cls', d', e, I, nb, up, sky, na, os, ag, rfl, rfl, rfl, rfl⟩
  exact tk u s' ⟨a, B, sI, pins, _, _, _, _, e, I, nb, up, sky, na, os, ag, w⟩

/-- where a body runs: what its context and those of its comprehensions and tries have in common -/
structure En where
  P : Program
  w : World
  K : PySem.W.Frag
  mg : Str → Option Value
  base : Heap
  A : Around
structure Of (e : En) (X : Cx) : Prop where
  P : X.prog = e.P
  w : X.w = e.w
  K : X.K = e.K
  mg : X.mg = e.mg
  base : X.base = e.base
  A : X.A = e.A
  calm : e.A.handled = none → X.calm = true
  dp : e.A.depth + 5 < recursionLimit

/-! operations by values, whatever they are -/
structure vOp (e : En) (f : Value → Value → Sem Value) (x y : V) (H : Hp) (Q : VK) : Prop where
  run : ∀ (X : Cx), Of e X → ∀ (pins : List (Addr × Obj)) (s : Shared) (σ : L2.St) (v u : Value), Inv X pins σ H s → RelV x v → RelV y u → wpAny (model X.prog X.w) X.A (f v u) (EP X pins σ Q) X.xe s
theorem opr_v {e : En} {X : Cx} {f : Value → Value → Sem Value} (o : Of e X) : OpR X f (vOp e f) := fun pins s σ _ _ _ v u _ I rx ry h => h.run X o pins s σ v u I rx ry
theorem vOp_of {e : En} {f : Value → Value → Sem Value} {r : R2} (h : ∀ X, Of e X → OpR X f r) {x y : V} {H : Hp} {Q : VK} (q : r x y H Q) : vOp e f x y H Q := ⟨fun X o pins s σ v u I rx ry => h X o pins s σ H x y v u Q I rx ry q⟩
theorem vOp_ofK {e : En} {f : Value → Value → Sem Value} {r : PySem.W.Frag → R2} (h : ∀ X, Of e X → OpR X f (r X.K)) {x y : V} {H : Hp} {Q : VK} (q : r e.K x y H Q) : vOp e f x y H Q := ⟨fun X o pins s σ v u I rx ry =>
  h X o pins s σ H x y v u Q I rx ry (by rw [o.K]; exact q)⟩
structure vUn (e : En) (f : Value → Sem Value) (x : V) (H : Hp) (Q : VK) : Prop where
  run : ∀ (X : Cx), Of e X → ∀ (pins : List (Addr × Obj)) (s : Shared) (σ : L2.St) (v : Value), Inv X pins σ H s → RelV x v → wpAny (model X.prog X.w) X.A (f v) (EP X pins σ Q) X.xe s
theorem unr_v {e : En} {X : Cx} {f : Value → Sem Value} (o : Of e X) : UnR X f (vUn e f) := fun pins s σ _ _ v _ I rx h => h.run X o pins s σ v I rx
theorem vUn_of {e : En} {f : Value → Sem Value} {r : V → Hp → VK → Prop} (h : ∀ X, Of e X → UnR X f r) {x : V} {H : Hp} {Q : VK} (q : r x H Q) : vUn e f x H Q := ⟨fun X o pins s σ v I rx => h X o pins s σ H x v Q I rx q⟩
structure vIx (e : En) (x y : V) (H : Hp) (Q : VK) : Prop where
  run : ∀ (X : Cx), Of e X → ∀ (value slice : Expr) (pins : List (Addr × Obj)) (s : Shared) (σ : L2.St) (v u : Value), Inv X pins σ H s → RelV x v → RelV y u →
    subscripted slice false v u = operate [v, u] (getItem v u) → wpAny (model X.prog X.w) X.A (subscriptTail value slice v u) (EP X pins σ Q) X.xe s
theorem ixr_v {e : En} {X : Cx} (o : Of e X) : IxR X (vIx e) := fun value slice pins s σ _ _ _ v u _ I rx ry h z => h.run X o value slice pins s σ v u I rx ry z
theorem vIx_ofK {e : En} {r : PySem.W.Frag → R2} (h : ∀ X, Of e X → IxR X (r X.K)) {x y : V} {H : Hp} {Q : VK} (q : r e.K x y H Q) : vIx e x y H Q := ⟨fun X o value slice pins s σ v u I rx ry z =>
  h X o value slice pins s σ H x y v u Q I rx ry (by rw [o.K]; exact q) z⟩
structure vCB (e : En) (f : Value) (xs : List V) (H : Hp) (Q : VK) : Prop where
  run : ∀ (X : Cx), Of e X → ∀ (pins : List (Addr × Obj)) (s : Shared) (σ : L2.St) (us : List Value), Inv X pins σ H s → Vals xs us → wpAny (model X.prog X.w) X.A (call f us) (EP X pins σ Q) X.xe s
theorem cbr_v {e : En} {X : Cx} {f : Value} (o : Of e X) : CallR X f (vCB e f) := fun pins s σ _ _ us _ I r h => h.run X o pins s σ us I r
theorem vCB_of {e : En} {f : Value} {r : List V → Hp → VK → Prop} (h : ∀ X, Of e X → CallR X f r) {xs : List V} {H : Hp} {Q : VK} (q : r xs H Q) : vCB e f xs H Q := ⟨fun X o pins s σ us I rx => h X o pins s σ H xs us Q I rx q⟩
theorem vCB_ofK {e : En} {f : Value} {r : PySem.W.Frag → List V → Hp → VK → Prop} (h : ∀ X, Of e X → CallR X f (r X.K)) {xs : List V} {H : Hp} {Q : VK} (q : r e.K xs H Q) : vCB e f xs H Q := ⟨fun X o pins s σ us I rx =>
  h X o pins s σ H xs us Q I rx (by rw [o.K]; exact q)⟩
/-- a call of a value; W: what is wanted of an exception -/
structure vCall (e : En) (f : Value) (xs : List V) (W : XK) (H : Hp) (Q : VK) : Prop where
  run : ∀ (X : Cx), Of e X → ∀ (pins : List (Addr × Obj)) (s : Shared) (σ : L2.St) (us : List Value), (∀ cls d H', W cls d H' → xw X σ cls d H') → Inv X pins σ H s → Vals xs us → wpAny (model X.prog X.w) X.A (call f us) (EP X pins σ Q) X.xe s
theorem vCall_of {e : En} {f : Value} {r : List V → Hp → VK → Prop} (h : ∀ X, Of e X → CallR X f r) {xs : List V} {W : XK} {H : Hp} {Q : VK} (q : r xs H Q) : vCall e f xs W H Q := ⟨fun X o pins s σ us _ I rx => h X o pins s σ H xs us Q I rx q⟩
structure vTru (e : En) (x : V) (H : Hp) (Q : Bool → Hp → Prop) : Prop where
  run : ∀ (X : Cx), Of e X → ∀ (pins : List (Addr × Obj)) (s : Shared) (σ : L2.St) (v : Value), Inv X pins σ H s → RelV x v → wpAny (model X.prog X.w) X.A (truthy v) (TP X pins σ Q) X.xe s
theorem trr_v {e : En} {X : Cx} (o : Of e X) : TruR X (vTru e) := fun pins s σ _ _ v _ I r h => h.run X o pins s σ v I r
theorem vTru_ofK {e : En} {r : PySem.W.Frag → V → Hp → (Bool → Hp → Prop) → Prop} (h : ∀ X, Of e X → TruR X (r X.K)) {x : V} {H : Hp} {Q : Bool → Hp → Prop} (q : r e.K x H Q) : vTru e x H Q := ⟨fun X o pins s σ v I rx =>
  h X o pins s σ H x v Q I rx (by rw [o.K]; exact q)⟩
structure vSet (e : En) (o i v : V) (H : Hp) (Q : Hp → Prop) : Prop where
  run : ∀ (X : Cx), Of e X → ∀ (pins : List (Addr × Obj)) (s : Shared) (σ : L2.St) (ov iv u : Value), Inv X pins σ H s → RelV o ov → RelV i iv → RelV v u → wpAny (model X.prog X.w) X.A (setItem ov iv u) (fun _ s' => ∃ H', Inv X pins σ H' s' ∧ Q H') X.xe s
theorem set_v {e : En} {X : Cx} (o : Of e X) : PSet X (vSet e) := fun pins s σ _ _ _ _ ov iv u _ I a b c h => h.run X o pins s σ ov iv u I a b c
theorem vSet_of {e : En} {r : TSet} (h : ∀ X, Of e X → PSet X r) {o i v : V} {H : Hp} {Q : Hp → Prop} (q : r o i v H Q) : vSet e o i v H Q := ⟨fun X ox pins s σ ov iv u I a b c => h X ox pins s σ H o i v ov iv u Q I a b c q⟩
structure vSl (e : En) (x : V) (lo hi : Option Int) (H : Hp) (Q : VK) : Prop where
  run : ∃ r : PySem.W.Frag → V → Option Int → Option Int → Hp → VK → Prop, (∀ X, Of e X → SlR X (r X.K)) ∧ r e.K x lo hi H Q
theorem slr_v {e : En} {X : Cx} (o : Of e X) : SlR X (vSl e) := by
  intro pins s σ H x lo hi v vl vu sl Q I rx hs pl pu ⟨⟨r, hr, q⟩⟩
  rw [← o.K] at q
  exact hr X o pins s σ H x lo hi v vl vu sl Q I rx hs pl pu q
/-- an attribute's value -/
structure vAttr (e : En) (f : Str) (x : V) (W : XK) (H : Hp) (Q : VK) : Prop where
  run : ∀ (X : Cx), Of e X → ∀ (pins : List (Addr × Obj)) (s : Shared) (σ : L2.St) (b : Bool) (v : Value), (∀ cls d H', W cls d H' → xw X σ cls d H') → Inv X pins σ H s → RelV x v → wpAny (model X.prog X.w) X.A (getAttr v f b) (EP X pins σ Q) X.xe s

/-! a name: computes -/
def tV (i : Nat) : TE := fun σ H Q => match σ[i]? with | some (some v) => Q v H | _ => False
theorem pe_imp {X : Cx} {e : Expr} {t t' : TE} (h : PE X e t) (i : ∀ σ H Q, t' σ H Q → t σ H Q) : PE X e t' := ⟨fun pins s σ H Q I q => h.run pins s σ H Q I (i σ H Q q)⟩
theorem tV_var {i : Nat} {σ : L2.St} {H : Hp} {Q : VK} (h : tV i σ H Q) : tVar i σ H Q := by
  unfold tV at h
  split at h
  · exact ⟨_, by assumption, h⟩
  · exact h.elim
/-- a call; an attribute; a method's call -/
def tCallU (e : En) (W : WX) (u : Value) (t : TA) : TE := fun σ H Q => t σ H fun vs H1 => vCall e u vs (fun c d H' => W c d σ H') H1 Q
def tAttr (e : En) (W : WX) (f : Str) (te : TE) : TE := fun σ H Q => te σ H fun x H1 => vAttr e f x (fun c d H' => W c d σ H') H1 Q
def tMethU (e : En) (W : WX) (m : Str) (ta : TE) (t : TA) : TE := fun σ H Q => ta σ H fun x H1 => ∃ a C dx fs g, x = .ref a ∧ H1 a = some (.ins C dx fs) ∧ Cls e.K C ∧ Meth e.K C m g ∧ fs.lookup m = none ∧
  t σ H1 fun vs H2 => vCall e (.ref g) (.ref a :: vs) (fun c d H' => W c d σ H') H2 Q
/-- a value's truth as a test -/
def tTruU (e : En) (te : TE) : TT := fun σ H Q => te σ H fun x H1 => vTru e x H1 Q
section
variable {n : En} {X : Cx} {W : WX} {a b c e : Expr} {es : List Expr} {ta tb tc te : TE} {t : TA} {pos p apos : Pos} {x : Str}
theorem zv (i : Nat) (hN : X.N[i]? = some x := by rfl) (hv : Vis X.env.scope x := by first | exact Or.inl rfl | exact Or.inr (Or.inl rfl) | exact Or.inr (Or.inr rfl)) (hd : (x == ("__debug__" : Str)) = false := by decide)
    (hcd : (x == ("__classdict__" : Str)) = false := by decide) : PE X (.Name x pos) (tV i) := pe_imp (pv i hN hv hd hcd) fun _ _ _ h => tV_var h
/-- a call of a value that the module's top holds -/
theorem z_call (o : Of n X) (tk : Takes X W) {u : Value} (hm : X.mg x = some u) (hk : PySem.W.keepIn X.K u = true) (ha : PA X (e :: es) t) (hg : Gl X x := by rfl) (hdb : (x == ("__debug__" : Str)) = false := by decide)
    (he : starEach (e :: es) X.env = (false, eval e X.env) :: starEach es X.env := by rfl) (hpl : (backTo pos (starEach es X.env)).any (·.1) = false := by rfl) :
    PE X (.Call (.Name x p) (e :: es) [] pos) (tCallU n W u t) := by
  refine ⟨fun pins s σ H Q I h => ?_⟩
  refine wpAny_Call_Name_kw (ld_glob I hg hm ?_ hdb)
  exact PySem.W.callWith_K (h₀ := X.base) I.ok.mod.kin hk (thn (ha.run pos pins s σ H _ I h) fun us s1 ⟨vs, H1, I1, r, q⟩ => ⟨I1.kIn, q.run X o pins s1 σ us (fun _ _ _ w => xw_of tk w) I1 r⟩) he hpl
theorem z_call0 (o : Of n X) (tk : Takes X W) {u : Value} (hm : X.mg x = some u) (hk : PySem.W.keepIn X.K u = true) (hg : Gl X x := by rfl) (hdb : (x == ("__debug__" : Str)) = false := by decide) :
    PE X (.Call (.Name x p) [] [] pos) (tCallU n W u tNil) := by
  refine ⟨fun pins s σ H Q I h => ?_⟩
  refine wpAny_Call_Name_kw (ld_glob I hg hm ?_ hdb)
  exact PySem.W.callWith_K0 I.kIn hk (h.run X o pins s σ [] (fun _ _ _ w => xw_of tk w) I .nil)
theorem z_attr (o : Of n X) (tk : Takes X W) {f : Str} (he : PE X e te) (hb : attributeBase e f X.env (eval e X.env) = eval e X.env := by rfl) : PE X (.Attribute e f pos) (tAttr n W f te) := by
  refine ⟨fun pins s σ H Q I h => ?_⟩
  exact attr_of hb (thn (he.run pins s σ H _ I h) fun u s1 ⟨x, H1, I1, rx, q⟩ => q.run X o pins s1 σ _ u (fun _ _ _ w => xw_of tk w) I1 rx)
/-- o.m(e, ..), o an instance of an own class -/
theorem z_meth (oo : Of n X) (tk : Takes X W) {pl : Sem Bool} {m : Str} {o : Expr} (he : PE X o ta) (ha : PA X (e :: es) t)
    (hst : starEach (e :: es) X.env = (false, eval e X.env) :: starEach es X.env := by rfl) (hpl : (backTo pos (starEach es X.env)).any (·.1) = false := by rfl)
    (ht : eval (.Call (.Attribute o m apos) (e :: es) [] pos) X.env = (do
      let ov ← eval o X.env
      standAt apos.atName
      let (f, first) ← holding [ov] (getMethod ov m pl)
      callWith pos f first (backTo pos (starEach (e :: es) X.env)) (backToKw pos (keywordEach [] X.env))) := by rfl) :
    PE X (.Call (.Attribute o m apos) (e :: es) [] pos) (tMethU n W m ta t) := by
  refine ⟨fun pins s σ H Q I h => ?_⟩
  refine PySem.W.methodCall_KW (pl := pl) (thn (he.run pins s σ H _ I h) fun u s1 ⟨x, H1, I1, rx, a, C, dx, fs, g, ex, ea, c, hm, l, q⟩ => ?_) ht
  subst ex
  obtain rfl : u = Value.ref a := rx
  rw [← oo.K] at c hm
  refine getmeth_ok I1 ea c hm l ?_
  exact PySem.W.callWith_K (first := [.ref a]) (h₀ := X.base) I.ok.mod.kin hm.kp (thn (ha.run pos pins s1 σ H1 _ I1 q) fun us s2 ⟨vs, H2, I2, r, q2⟩ => ⟨I2.kIn, q2.run X oo pins s2 σ (.ref a :: us) (fun _ _ _ w => xw_of tk w) I2 (.cons rfl r)⟩) hst hpl
theorem z_meth0 (oo : Of n X) (tk : Takes X W) {pl : Sem Bool} {m : Str} {o : Expr} (he : PE X o ta)
    (ht : eval (.Call (.Attribute o m apos) [] [] pos) X.env = (do
      let ov ← eval o X.env
      standAt apos.atName
      let (f, first) ← holding [ov] (getMethod ov m pl)
      callWith pos f first (backTo pos (starEach [] X.env)) (backToKw pos (keywordEach [] X.env))) := by rfl) :
    PE X (.Call (.Attribute o m apos) [] [] pos) (tMethU n W m ta tNil) := by
  refine ⟨fun pins s σ H Q I h => ?_⟩
  refine PySem.W.methodCall_KW (pl := pl) (thn (he.run pins s σ H _ I h) fun u s1 ⟨x, H1, I1, rx, a, C, dx, fs, g, ex, ea, c, hm, l, q⟩ => ?_) ht
  subst ex
  obtain rfl : u = Value.ref a := rx
  rw [← oo.K] at c hm
  refine getmeth_ok I1 ea c hm l ?_
  exact PySem.W.callWith_K0 (first := [.ref a]) I1.kIn hm.kp (q.run X oo pins s1 σ [.ref a] (fun _ _ _ w => xw_of tk w) I1 (.cons rfl .nil))
theorem z_tru (o : Of n X) (he : PE X e te) (hs : ∀ whole, isTrue e X.env whole = (do let v ← whole; standAt e.pos; holding [v] (truthy v)) := by intro _; rfl) : PT X e (tTruU n te) := by
  refine ⟨fun pins s σ H Q I hw => ?_⟩
  refine isTrue_plain (thn (he.run pins s σ H _ I hw) fun v s1 ⟨x, H1, I1, r1, q1⟩ => ?_) (hs _)
  exact q1.run X o pins s1 σ v I1 r1
end

/-! the world of a body -/
section
variable {P : Program} {w : World} {K : PySem.W.Frag} {mg : Str → Option Value} {base : Heap} {A : Around} {k j : Nat} {E W : XK} {f C : Addr} {sp : Sp} {vs : List V} {H : Hp} {Q : VK}
/-- room for calls, and no list or tuple is being shown -/
structure Rm (k : Nat) (A : Around) : Prop extends Room k A where
  gs : A.guards = some []
theorem Rm.le {j k : Nat} {A : Around} (r : Rm k A) (h : j ≤ k) : Rm j A := ⟨r.toRoom.mono h, r.gs⟩
theorem Rm.down {k : Nat} {A : Around} (r : Rm (k + 1) A) (env : Env) : Rm k (A.deeper env) := ⟨r.toRoom.deeper env, r.gs⟩
theorem Rm.step {k : Nat} {A : Around} (r : Rm (k + 1) A) : Rm k A.in1 := ⟨r.toRoom.in1, r.gs⟩
theorem Rm.made {k : Nat} {A : Around} (r : Rm (k + 1) A) (C : Addr) (us : List Value) : Rm k (A.under (.builtin "type.__call__" ⟨.ref C :: us, []⟩)) :=
  ⟨r.toRoom.make C us [], show pushGuards (Code.guards (.builtin "type.__call__" ⟨.ref C :: us, []⟩)) A.guards = some [] by
    have e : Code.guards (.builtin "type.__call__" ⟨.ref C :: us, []⟩) = [] := if_neg (by rw [show Code.isGuard (.builtin "type.__call__" ⟨.ref C :: us, []⟩) = false from (by decide +kernel : guardIds.contains "type.__call__" = false)]; decide)
    rw [e]; exact r.gs⟩
/-- what a def promises -/
def FnZ (P : Program) (w : World) (K : PySem.W.Frag) (mg : Str → Option Value) (base : Heap) (k : Nat) (f : Addr) (sp : Sp) : Prop :=
  ∀ (A : Around) (out : List Env) (s : Shared) (H : Hp) (us : List Value) (vs : List V) (Q : VK) (E : XK), Rm k A → Env0 P w K mg base A out s H → Vals vs us → sp vs H Q E → codeAny (model P w) A (.call (.ref f) ⟨us, []⟩) (CR (L2.CX P w) out P w H s Q E) s
theorem FnZ.imp {sp' : Sp} (F : FnZ P w K mg base k f sp) (h : ∀ vs H Q E, sp' vs H Q E → sp vs H Q E) : FnZ P w K mg base k f sp' := fun A out s H us vs Q E hr e r q => F A out s H us vs Q E hr e r (h _ _ _ _ q)
theorem call_z (hr : Rm k A) (F : FnZ P w K mg base j f sp) (h : sp vs H Q W) (hj : j ≤ k := by decide) : vCall ⟨P, w, K, mg, base, A⟩ (.ref f) vs W H Q := by
  refine ⟨?_⟩
  rintro X ⟨rfl, rfl, rfl, rfl, rfl, hA, hc⟩ pins s σ us hW I r
  have hA : X.A = A := hA
  subst hA
  refine wpAny_call (codeAny_mono (F X.A X.stack s H us vs Q W (hr.le hj) I.env0 r h) fun r s' hq => ?_)
  cases r with
  | error e =>
    obtain ⟨a, B, H', cls, d, e1, fl, hok, ub, na, os, ag, hE⟩ := hq
    exact takes_w e s' (XE.of_call (W := fun cls d σ H => xw X σ cls d H) (E := xw X σ) I (fun cls d H' h => h) ⟨a, B, H', cls, d, e1, fl, hok, ub, na, os, ag, hW _ _ _ hE⟩)
  | ok fl =>
    cases fl with
    | ret u => exact I.after hq
    | next => exact False.elim hq
    | brk => exact False.elim hq
    | cont => exact False.elim hq
theorem run_z {X : Cx} {pins : List (Addr × Obj)} {σ : L2.St} {s : Shared} {us : List Value} (F : FnZ X.prog X.w X.K X.mg X.base j f sp) (hr : Rm j X.A) (I : Inv X pins σ H s) (r : Vals vs us) (h : sp vs H Q E0) :
    codeAny (model X.prog X.w) X.A (.call (.ref f) ⟨us, []⟩) (fun r s' => match r with | .ok (.ret v) => EP X pins σ Q v s' | .ok _ => False | .error e => X.xe e s') s :=
  codeAny_mono (F X.A X.stack s H us vs Q E0 hr I.env0 r h) fun r s' z => match r, z with
    | .ok (.ret _), z => I.after z
    | .error _, ⟨_, _, _, _, _, _, _, _, _, _, _, _, z⟩ => z.elim
theorem make_z {fI : Addr} (hr : Rm k A) (M : Mk K C fI) (F : FnZ P w K mg base j fI sp)
    (h : ∀ x dx, H x = none → H dx = none → dx ≠ x → sp (.ref x :: vs) (upd (upd H dx (.own x)) x (.ins C dx [])) (fun v H2 => v = .non ∧ Q (.ref x) H2) W) (hj : j + 1 ≤ k := by decide) : vCall ⟨P, w, K, mg, base, A⟩ (.ref C) vs W H Q := by
  refine ⟨?_⟩
  rintro X ⟨rfl, rfl, rfl, rfl, rfl, hA, hc⟩ pins s σ us hW I r
  have hA : X.A = A := hA
  subst hA
  have hq := h (s.heap.objs.size + 1) s.heap.objs.size (I.hok.fresh (Nat.le_succ _)) (I.hok.fresh (Nat.le_refl _)) (Nat.ne_of_lt (Nat.lt_succ_self _))
  have I2 := Inv.made (C := C) I
  have r2 : Vals (V.ref (s.heap.objs.size + 1) :: vs) (Value.ref (s.heap.objs.size + 1) :: us) := .cons rfl r
  refine wpAny_call (make_map (f := fI) I.kIn M.makes M.init (beq_iff_eq.mp M.fn) (codeAny_mono (F _ X.stack _ _ (Value.ref (s.heap.objs.size + 1) :: us) _ _ W ((hr.le hj).made C us)
    (I2.env0.make C us []) r2 hq) fun r s' hq' => ?_))
  cases r with
  | error e =>
    obtain ⟨a, B, H', cls, d, e1, fl, hok, ub, na, os, ag, hE⟩ := hq'
    exact takes_w e s' (XE.of_call (W := fun cls d σ H => xw X σ cls d H) (E := xw X σ) I2 (fun cls d H' h => h) ⟨a, B, H', cls, d, e1, fl, hok, ub, na, os, ag, hW _ _ _ hE⟩)
  | ok fl =>
    cases fl with
    | ret u =>
      obtain ⟨v, H', I3, rv, ev, q3⟩ := I2.after hq'
      subst ev
      exact ⟨rv, ⟨V.ref (s.heap.objs.size + 1), H', I3, rfl, q3⟩⟩
    | next => exact False.elim hq'
    | brk => exact False.elim hq'
    | cont => exact False.elim hq'
theorem attr_fld {n : En} {a dx : Addr} {fs : List (Str × V)} {g : Str} {v : V} (e : H a = some (.ins C dx fs)) (c : Cls n.K C) (na : NoAttr n.K C g) (l : fs.lookup g = some v) (q : Q v H) : vAttr n g (.ref a) W H Q := by
  refine ⟨?_⟩
  intro X o pins s σ b u _ I r
  obtain rfl : u = Value.ref a := r
  rw [← o.K] at c na
  exact getattr_ok I e c na l fun u' s2 I2 ru => ⟨v, H, I2, ru, q⟩
theorem attr_prop {a dx p g : Addr} {fs : List (Str × V)} {m : Str} (hr : Rm k A) (e : H a = some (.ins C dx fs)) (c : Cls K C) (hp : PropOf K C m p g) (F : FnZ P w K mg base j g sp)
    (h : sp [.ref a] H Q E0) (hj : j + 1 ≤ k := by decide) : vAttr ⟨P, w, K, mg, base, A⟩ m (.ref a) W H Q := by
  refine ⟨?_⟩
  rintro X ⟨rfl, rfl, rfl, rfl, rfl, hA, hc⟩ pins s σ b u _ I r
  have hA : X.A = A := hA
  subst hA
  obtain rfl : u = Value.ref a := r
  obtain ⟨mA, O, _, _, _, _⟩ := ins_get I.hok e
  obtain ⟨od, J, _⟩ := O.look
  obtain ⟨rest, hrec⟩ := hp.rec_
  have I1 := I.tok (s.toks + 1)
  have hcl : (PySem.W.clsIn X.K C).isSome = true := by
    obtain ⟨cd, hc, _⟩ := PySem.W.any_some c.hd
    rw [hc]
    rfl
  refine PySem.W.get_bind I.kIn J (PySem.W.plainGet_of (c.get m)).1 (PySem.W.findObj_data hcl hp.at_ hp.get hp.tak) (PySem.W.plainGet_of (c.get m)).2 (wpAny_call (PySem.W.prop_get (s := { s with toks := s.toks + 1 }) I.kIn hrec ?_))
  refine codeAny_mono (F X.A.in1 X.stack { s with toks := s.toks + 1 } H [.ref a] [.ref a] Q E0 (hr.le hj).step I1.env0.in1 (.cons rfl .nil) h) fun r s' hq => ?_
  cases r with
  | error er =>
    obtain ⟨_, _, _, _, _, _, _, _, _, _, _, _, z⟩ := hq
    exact z.elim
  | ok fl =>
    cases fl with
    | ret u =>
      obtain ⟨v, H', I3, rv, q3⟩ := I1.after hq
      show wpAny _ _ (handedOut u) _ _ _
      rw [PySem.W.handedOut_of (handed_of rv)]
      exact wpAny_pure ⟨v, H', I3, rv, q3⟩
    | next => exact False.elim hq
    | brk => exact False.elim hq
    | cont => exact False.elim hq
/-- what a def promises, by how its arguments bind -/
def FnB (P : Program) (w : World) (K : PySem.W.Frag) (mg : Str → Option Value) (base : Heap) (k : Nat) (f : Addr) (fd : FuncData) (ps : List Str) (sp : Sp) : Prop :=
  ∀ (A : Around) (out : List Env) (s : Shared) (H : Hp) (args : Args) (us : List Value) (vs : List V) (Q : VK) (E : XK), Rm k A → Env0 P w K mg base A out s H → BindsTo s fd args (ps.zip us) → Vals vs us → sp vs H Q E →
    codeAny (model P w) A (.call (.ref f) args) (CR (L2.CX P w) out P w H s Q E) s
theorem FnB.z {fd : FuncData} {ps : List Str} {sp' : Sp} {dvs : List V} {ds : List Value} (F : FnB P w K mg base k f fd ps sp') (hb : Binds K fd ps ds) (hd : Vals dvs ds) (len : ∀ vs H Q E, sp vs H Q E → (vs ++ dvs).length = ps.length) (h : ∀ vs H Q E, sp vs H Q E → sp' (vs ++ dvs) H Q E) : FnZ P w K mg base k f sp := by
  intro A out s H us vs Q E hr e0 r q
  have rr : Vals (vs ++ dvs) (us ++ ds) := r.append hd
  have kx := e0.mod.kin.keeps fun b o e => (e0.bs b o e).1
  exact F A out s H ⟨us, []⟩ (us ++ ds) (vs ++ dvs) Q E hr e0 (hb s us kx (by rw [← rr.length]; exact len _ _ _ _ q)) rr (h _ _ _ _ q)
/-- the rule of a def -/
theorem fn_b {x qual : Str} {st : Stmt} {fd : FuncData} {N ps : List Str} {fdv : List V} {kws : List (Str × V)} (F : FunD K x qual (defArgs st) (defBody st) (defScope st) fdv kws f fd) (S : FnScope N ps (defScope st)) (t : En → WX → TS)
    (len : ∀ vs H Q E, sp vs H Q E → vs.length = ps.length)
    (hder : ∀ (cdv : Value) (A : Around) (outer : List Env) (s : Shared) (H : Hp) (E : XK), Of ⟨P, w, K, mg, base, A.deeper (envOfC qual (defScope st) s.heap.objs.size f cdv)⟩ (cxOf (L2.CX P w) P w K mg base N qual (defScope st) f cdv A outer s H E) →
      Takes (cxOf (L2.CX P w) P w K mg base N qual (defScope st) f cdv A outer s H E) (fun cls d _ H => E cls d H) →
      PSs (cxOf (L2.CX P w) P w K mg base N qual (defScope st) f cdv A outer s H E) (defBody st) (t ⟨P, w, K, mg, base, A.deeper (envOfC qual (defScope st) s.heap.objs.size f cdv)⟩ (fun cls d _ H => E cls d H)))
    (hread : ∀ (A : Around) (E : XK), Rm k A → ∀ vs H Q, sp vs H Q E → t ⟨P, w, K, mg, base, A⟩ (fun cls d _ H => E cls d H) { nx := fun _ H' => Q .non H', rt := Q } (start N vs) H) : FnB P w K mg base (k + 1) f fd ps sp := by
  obtain ⟨oc, od, dV, kV, doc, pm, an, cdv, ct, osl, rfl, lk, hcd, _, _⟩ := F.ex
  intro A out s H args us vs Q E hr e0 hb rr h
  have hl := len _ _ _ _ h
  have up : ∀ b o, base.get? b = some o → s.heap.get? b = some o := fun b o e => (e0.bs b o e).1
  have kx := e0.mod.kin.keeps up
  refine codeAny_call_function hr.depth (kx _ _ lk) rfl S.co S.gen rfl (PySem.W.codeRec_of kx hcd) (hb _ _ _ _ ?_)
  refine wpAny_newFunctionEnv_cells S.kind (fun y hy => ?_) fun env he s1 x => ?_
  · rcases S.par y.1 (List.of_mem_zip hy).1 with q | q
    · exact .inl q
    · exact .inr ⟨q, PySem.W.cellsFrom_some _ _ _ (.inl q)⟩
  cases he
  refine ⟨(e0.mod.nolimit.keeps up).keeps x.toInCall.keep, codeAny_func ?_⟩
  have J := inv_start (CX := L2.CX P w) (E := E) S hr.hd e0 hl rr x
  have D := hder cdv A out s H E ⟨rfl, rfl, rfl, rfl, rfl, rfl, fun _ => rfl, by have := (hr.down (envOfC qual (defScope st) s.heap.objs.size f cdv)).dp; show (A.deeper _).depth + 5 < _; omega⟩ (takes_of rfl rfl rfl rfl)
  refine wpAny_mono (D.run [] s1 _ H _ J (hread _ E (hr.down _) vs H Q h)) (fun fl s2 z => ?_) fun _ _ z => z
  cases fl with
  | ret u => obtain ⟨v, σ, H2, I, rv, q⟩ := z; exact ⟨v, H2, I.os, I.bare, I.base, I.hok, rv, q⟩
  | next => obtain ⟨σ, H2, I, q⟩ := z; exact ⟨.non, H2, I.os, I.bare, I.base, I.hok, rfl, q⟩
  | brk => obtain ⟨_, _, _, q⟩ := z; exact q.elim
  | cont => obtain ⟨_, _, _, q⟩ := z; exact q.elim
/-- .. called by place -/
theorem fn_z {x qual : Str} {st : Stmt} {fd : FuncData} {N ps : List Str} {dvs fdv : List V} {kws : List (Str × V)} {ds : List Value} (F : FunD K x qual (defArgs st) (defBody st) (defScope st) fdv kws f fd) (S : FnScope N ps (defScope st)) (hb : Binds K fd ps ds) (hd : Vals dvs ds) (t : En → WX → TS)
    (len : ∀ vs H Q E, sp vs H Q E → (vs ++ dvs).length = ps.length)
    (hder : ∀ (cdv : Value) (A : Around) (outer : List Env) (s : Shared) (H : Hp) (E : XK), Of ⟨P, w, K, mg, base, A.deeper (envOfC qual (defScope st) s.heap.objs.size f cdv)⟩ (cxOf (L2.CX P w) P w K mg base N qual (defScope st) f cdv A outer s H E) →
      Takes (cxOf (L2.CX P w) P w K mg base N qual (defScope st) f cdv A outer s H E) (fun cls d _ H => E cls d H) →
      PSs (cxOf (L2.CX P w) P w K mg base N qual (defScope st) f cdv A outer s H E) (defBody st) (t ⟨P, w, K, mg, base, A.deeper (envOfC qual (defScope st) s.heap.objs.size f cdv)⟩ (fun cls d _ H => E cls d H)))
    (hread : ∀ (A : Around) (E : XK), Rm k A → ∀ vs H Q, sp vs H Q E → t ⟨P, w, K, mg, base, A⟩ (fun cls d _ H => E cls d H) { nx := fun _ H' => Q .non H', rt := Q } (start N (vs ++ dvs)) H) : FnZ P w K mg base (k + 1) f sp :=
  (fn_b (sp := fun vs H Q E => ∃ vs', vs = vs' ++ dvs ∧ sp vs' H Q E) F S t (fun vs H Q E h => by
    obtain ⟨v', rfl, h⟩ := h
    exact len _ _ _ _ h) hder fun A E hr vs H Q h => by
    obtain ⟨v', rfl, h⟩ := h
    exact hread A E hr v' H Q h).z hb hd len fun vs H Q E h => ⟨vs, rfl, h⟩
end

/-! more operations -/
theorem pip_v {e : En} {X : Cx} {op : Operator} (o : Of e X) : PIp X op (vOp e (inplaceOp op)) := fun pins s σ _ _ _ v u _ I rx ry h => h.run X o pins s σ v u I rx ry
structure vMt (e : En) (id : String) (x : V) (xs : List V) (H : Hp) (Q : VK) : Prop where
  run : ∀ (X : Cx), Of e X → ∀ (pins : List (Addr × Obj)) (s : Shared) (σ : L2.St) (v : Value) (us : List Value), Inv X pins σ H s → RelV x v → Vals xs us → wpAny (model X.prog X.w) X.A (call (.builtin id) (v :: us)) (EP X pins σ Q) X.xe s
theorem mtr_v {e : En} {X : Cx} {id : String} (o : Of e X) : MtR X id (vMt e id) := fun pins s σ _ _ _ v us _ I rx rs h => h.run X o pins s σ v us I rx rs
theorem vMt_of {e : En} {id : String} {r : V → List V → Hp → VK → Prop} (h : ∀ X, Of e X → MtR X id r) {x : V} {xs : List V} {H : Hp} {Q : VK} (q : r x xs H Q) : vMt e id x xs H Q := ⟨fun X o pins s σ v us I rx rs => h X o pins s σ H x xs v us Q I rx rs q⟩
theorem vMt_ofK {e : En} {id : String} {r : PySem.W.Frag → V → List V → Hp → VK → Prop} (h : ∀ X, Of e X → MtR X id (r X.K)) {x : V} {xs : List V} {H : Hp} {Q : VK} (q : r e.K x xs H Q) : vMt e id x xs H Q := ⟨fun X o pins s σ v us I rx rs =>
  h X o pins s σ H x xs v us Q I rx rs (by rw [o.K]; exact q)⟩
theorem of_blk {e : En} {X : Cx} (o : Of e X) {s : Shared} {H : Hp} {sc : Scope} {ce : Env} {fp : List Addr} : Of e (X.blk s H sc ce fp) := ⟨o.P, o.w, o.K, o.mg, o.base, o.A, o.calm, o.dp⟩
theorem of_tr {e : En} {X : Cx} (o : Of e X) {pn : List (Addr × Obj)} {xe : Value → Shared → Prop} : Of e (X.tr pn xe) := ⟨o.P, o.w, o.K, o.mg, o.base, o.A, o.calm, o.dp⟩
/-- and, or, not of values by truth -/
def byb (b : Bool) (A B : Prop) : Prop := match b with | true => A | false => B
theorem byb_t {A B : Prop} (h : A) : byb true A B := h
theorem byb_f {A B : Prop} (h : B) : byb false A B := h
theorem byb_d {c A B : Prop} [Decidable c] (h1 : c → A) (h2 : ¬ c → B) : byb (decide c) A B := by
  by_cases h : c
  · rw [decide_eq_true h]; exact h1 h
  · rw [decide_eq_false h]; exact h2 h
theorem byb_nd {c A B : Prop} [Decidable c] (h1 : c → B) (h2 : ¬ c → A) : byb (!decide c) A B := by
  by_cases h : c
  · rw [decide_eq_true h]; exact h1 h
  · rw [decide_eq_false h]; exact h2 h
theorem byb_b {b : Bool} {A B : Prop} (h1 : b = true → A) (h2 : b = false → B) : byb b A B := by
  cases b with
  | true => exact h1 rfl
  | false => exact h2 rfl
def tAndU (n : En) (ta tb : TE) : TE := fun σ H Q => ta σ H fun x H1 => vTru n x H1 fun b H2 => byb b (tb σ H2 Q) (Q x H2)
def tOrU (n : En) (ta tb : TE) : TE := fun σ H Q => ta σ H fun x H1 => vTru n x H1 fun b H2 => byb b (Q x H2) (tb σ H2 Q)
def tNotU (n : En) (ta : TE) : TE := fun σ H Q => ta σ H fun x H1 => vTru n x H1 fun b H2 => Q (.bl (!b)) H2
section
variable {n : En} {X : Cx} {W : WX} {a b : Expr} {rest : List Expr} {ta tb : TE} {pos : Pos}
theorem z_and (o : Of n X) (ha : PE X a ta) (hb : PE X (.BoolOp .And (b :: rest) pos) tb) : PE X (.BoolOp .And (a :: b :: rest) pos) (tAndU n ta tb) := by
  refine ⟨fun pins s σ H Q I h => ?_⟩
  refine BoolOp_and (thn (ha.run pins s σ H _ I h) fun v s1 ⟨x, H1, I1, r1, q1⟩ => ?_)
  refine thn (q1.run X o pins s1 σ v I1 r1) fun c s2 ⟨H2, I2, q2⟩ => ?_
  cases c with
  | true => exact hb.run pins s2 σ H2 Q I2 q2
  | false => exact ⟨x, H2, I2, r1, q2⟩
theorem z_or (o : Of n X) (ha : PE X a ta) (hb : PE X (.BoolOp .Or (b :: rest) pos) tb) : PE X (.BoolOp .Or (a :: b :: rest) pos) (tOrU n ta tb) := by
  refine ⟨fun pins s σ H Q I h => ?_⟩
  refine BoolOp_or (thn (ha.run pins s σ H _ I h) fun v s1 ⟨x, H1, I1, r1, q1⟩ => ?_)
  refine thn (q1.run X o pins s1 σ v I1 r1) fun c s2 ⟨H2, I2, q2⟩ => ?_
  cases c with
  | true => exact ⟨x, H2, I2, r1, q2⟩
  | false => exact hb.run pins s2 σ H2 Q I2 q2
theorem z_not (o : Of n X) (ha : PE X a ta) : PE X (.UnaryOp .Not a pos) (tNotU n ta) := by
  refine ⟨fun pins s σ H Q I h => ?_⟩
  refine UnaryOp_ (thn (ha.run pins s σ H _ I h) fun v s1 ⟨x, H1, I1, r1, q1⟩ => ?_)
  exact not_of (thn (q1.run X o pins s1 σ v I1 r1) fun c s2 ⟨H2, I2, q2⟩ => ⟨.bl (!c), H2, I2, rfl, q2⟩)
end

/-! ### events: the steps of a reading -/
section
variable {n : En} {H : Hp} {Q : VK} {W : XK} {x y z : V} {i j : Int} {a b p : Addr} {xs ys : List V}
theorem e_add (q : Q (.int (i + j)) H) : vOp n (binaryOp .Add) (.int i) (.int j) H Q := vOp_of (fun _ _ => op_add) ⟨i, j, rfl, rfl, q⟩
theorem e_sub (q : Q (.int (i - j)) H) : vOp n (binaryOp .Sub) (.int i) (.int j) H Q := vOp_of (fun _ _ => op_sub) ⟨i, j, rfl, rfl, q⟩
theorem e_mul (h : CMul i j) (q : Q (.int (i * j)) H) : vOp n (binaryOp .Mult) (.int i) (.int j) H Q := vOp_of (fun _ _ => op_mul) ⟨i, j, rfl, rfl, h, q⟩
theorem e_fdiv (h : CDiv i j) (q : Q (.int (i / j)) H) : vOp n (binaryOp .FloorDiv) (.int i) (.int j) H Q := vOp_of (fun _ _ => op_fdiv) ⟨i, j, rfl, rfl, h, q⟩
theorem e_mod (h : 0 < j) (q : Q (.int (i % j)) H) : vOp n (binaryOp .Mod) (.int i) (.int j) H Q := vOp_of (fun _ _ => op_mod) ⟨i, j, rfl, rfl, h, q⟩
theorem e_pow (h : CPow i j) (q : Q (.int (i ^ j.toNat)) H) : vOp n (binaryOp .Pow) (.int i) (.int j) H Q := vOp_of (fun _ _ => op_pow) ⟨i, j, rfl, rfl, h, q⟩
theorem e_iadd (q : Q (.int (i + j)) H) : vOp n (inplaceOp .Add) (.int i) (.int j) H Q := vOp_of (fun _ _ => iop_add) ⟨i, j, rfl, rfl, q⟩
theorem e_neg (q : Q (.int (-i)) H) : vUn n (unaryOp .USub) (.int i) H Q := vUn_of (fun _ _ => un_neg) ⟨i, rfl, q⟩
theorem e_lt (q : Q (.bl (decide (i < j))) H) : vOp n (compareOp .Lt) (.int i) (.int j) H Q := vOp_of (fun _ _ => op_lt) ⟨i, j, rfl, rfl, q⟩
theorem e_le (q : Q (.bl (decide (i ≤ j))) H) : vOp n (compareOp .LtE) (.int i) (.int j) H Q := vOp_of (fun _ _ => op_le) ⟨i, j, rfl, rfl, q⟩
theorem e_gt (q : Q (.bl (decide (j < i))) H) : vOp n (compareOp .Gt) (.int i) (.int j) H Q := vOp_of (fun _ _ => op_gt) ⟨i, j, rfl, rfl, q⟩
theorem e_ge (q : Q (.bl (decide (j ≤ i))) H) : vOp n (compareOp .GtE) (.int i) (.int j) H Q := vOp_of (fun _ _ => op_ge) ⟨i, j, rfl, rfl, q⟩
theorem e_eqI (q : Q (.bl (decide (i = j))) H) : vOp n (compareOp .Eq) (.int i) (.int j) H Q := vOp_of (fun _ _ => op_eq) ⟨rfl, by
  have e : decide (V.int i = V.int j) = decide (i = j) := by simp
  rw [e]; exact q⟩
theorem e_neI (q : Q (.bl (!decide (i = j))) H) : vOp n (compareOp .NotEq) (.int i) (.int j) H Q := vOp_of (fun _ _ => op_ne) ⟨rfl, by
  have e : decide (V.int i = V.int j) = decide (i = j) := by simp
  rw [e]; exact q⟩
theorem e_eq (h : scal x y = true) (q : Q (.bl (decide (x = y))) H) : vOp n (compareOp .Eq) x y H Q := vOp_of (fun _ _ => op_eq) ⟨h, q⟩
theorem e_ne (h : scal x y = true) (q : Q (.bl (!decide (x = y))) H) : vOp n (compareOp .NotEq) x y H Q := vOp_of (fun _ _ => op_ne) ⟨h, q⟩
theorem e_isN (q : Q (.bl (decide (x = .non))) H) : vOp n (compareOp .Is) x .non H Q := vOp_of (fun _ _ => op_isN) ⟨rfl, q⟩
theorem e_notN (q : Q (.bl (!decide (x = .non))) H) : vOp n (compareOp .IsNot) x .non H Q := vOp_of (fun _ _ => op_notN) ⟨rfl, q⟩
theorem e_ixL {v : V} (h : SqL n.K H a xs) (hi : atI xs i = some v) (q : Q v H) : vIx n (.ref a) (.int i) H Q := vIx_ofK (r := rIxL) (fun _ _ => ix_list) ⟨a, xs, i, v, rfl, rfl, h, hi, q⟩
theorem e_ixT {v : V} (h : SqT n.K H a xs) (hi : atI xs i = some v) (q : Q v H) : vIx n (.ref a) (.int i) H Q := vIx_ofK (r := rIxT) (fun _ _ => ix_tup) ⟨a, xs, i, v, rfl, rfl, h, hi, q⟩
theorem e_slL {lo hi : Option Int} (h : SqL n.K H a xs) (q : ∀ p, H p = none → Q (.ref p) (upd H p (.lst (cutV xs lo hi)))) : vSl n (.ref a) lo hi H Q := ⟨rSlL, fun _ _ => sl_list, a, xs, rfl, h, q⟩
theorem e_setL {k : Int} {m : Nat} {v : V} {R : Hp → Prop} (h : H a = some (.lst xs)) (hi : ixN xs.length k = some m) (q : R (upd H a (.lst (xs.set m v)))) : vSet n (.ref a) (.int k) v H R := vSet_of (fun _ _ => set_list) ⟨a, xs, k, m, rfl, rfl, h, hi, q⟩
theorem e_int (q : Q (.int i) H) : vCB n (.type "int") [.int i] H Q := vCB_of (fun _ _ => call_int1) (.inl ⟨i, rfl, q⟩)
theorem e_abs (q : Q (.int (if i < 0 then -i else i)) H) : vCB n (.builtin "abs") [.int i] H Q := vCB_of (fun _ _ => call_abs) ⟨i, rfl, q⟩
theorem e_max (q : Q (.int (if j > i then j else i)) H) (hh : n.A.handled = none := by first | exact Room.hd (Rm.toRoom (by assumption))) : vCB n (.builtin "max") [.int i, .int j] H Q := vCB_of (r := fun xs H Q => ∃ i j, xs = [.int i, .int j] ∧ Q (.int (if j > i then j else i)) H) (fun _ o => call_max2 (o.calm hh)) ⟨i, j, rfl, q⟩
theorem e_min (q : Q (.int (if j < i then j else i)) H) (hh : n.A.handled = none := by first | exact Room.hd (Rm.toRoom (by assumption))) : vCB n (.builtin "min") [.int i, .int j] H Q := vCB_of (r := fun xs H Q => ∃ i j, xs = [.int i, .int j] ∧ Q (.int (if j < i then j else i)) H) (fun _ o => call_min2 (o.calm hh)) ⟨i, j, rfl, q⟩
theorem e_divmod (h : CDiv i j) (q : ∀ p, H p = none → Q (.ref p) (upd H p (.tup [.int (i / j), .int (i % j)]))) : vCB n (.builtin "divmod") [.int i, .int j] H Q := vCB_of (fun _ _ => call_divmod) ⟨i, j, rfl, h, q⟩
theorem e_lenL (h : SqL n.K H a xs) (q : Q (.int xs.length) H) : vCB n (.builtin "len") [.ref a] H Q := vCB_ofK (r := fun K xs H Q => ∃ p ys, xs = [.ref p] ∧ (SqL K H p ys ∨ SqT K H p ys) ∧ Q (.int ys.length) H) (fun _ _ => call_len_seq) ⟨a, xs, rfl, .inl h, q⟩
theorem e_lenT (h : SqT n.K H a xs) (q : Q (.int xs.length) H) : vCB n (.builtin "len") [.ref a] H Q := vCB_ofK (r := fun K xs H Q => ∃ p ys, xs = [.ref p] ∧ (SqL K H p ys ∨ SqT K H p ys) ∧ Q (.int ys.length) H) (fun _ _ => call_len_seq) ⟨a, xs, rfl, .inr h, q⟩
theorem e_cat (h1 : H a = some (.lst xs)) (h2 : H b = some (.lst ys)) (hl : xs.length + ys.length ≤ sizeLine) (q : ∀ p, H p = none → Q (.ref p) (upd H p (.lst (xs ++ ys)))) : vOp n (binaryOp .Add) (.ref a) (.ref b) H Q :=
  vOp_of (fun _ _ => op_cat) ⟨a, b, xs, ys, rfl, rfl, h1, h2, hl, q⟩
theorem e_isi {t u : Value} {c : V} {r : Bool} (hc : ClsV c u) (ht : TyX n.K H x t) (hk : PySem.W.kitOne n.K t u = some r) (q : Q (.bl r) H) : vCB n (.builtin "isinstance") [x, c] H Q :=
  vCB_ofK (r := rIsi) (fun _ _ => call_isi) ⟨x, c, t, u, r, rfl, hc, ht, hk, q⟩
theorem e_tru {r : Bool} {R : Bool → Hp → Prop} (h : TruV n.K x H r) (q : R r H) : vTru n x H R := vTru_ofK (r := fun K x H Q => ∃ k, TruV K x H k ∧ Q k H) (fun _ _ => tru_ok) ⟨r, h, q⟩
theorem e_truB {r : Bool} {R : Bool → Hp → Prop} (q : R r H) : vTru n (.bl r) H R := e_tru (show TruV n.K (.bl r) H r from rfl) q
end
end Z

namespace Z
open PySem PySem.Spec PyProof.Rows L2

/-! ### heaps -/
def But (a : Addr) (H H' : Hp) : Prop := ∀ b o, b ≠ a → H b = some o → H' b = some o
theorem same_get {H H' : Hp} {a : Addr} {o : HO} (s : Same H H') (h : H a = some o) : H' a = some o := s a o h
theorem but_get {H H' : Hp} {a b : Addr} {o : HO} (s : But b H H') (n : a ≠ b) (h : H a = some o) : H' a = some o := s a o n h
theorem to_but {H H' : Hp} {a : Addr} (s : Same H H') : But a H H' := fun b o _ h => s b o h
theorem at0 {α : Type} {x : α} {xs : List α} : atI (x :: xs) 0 = some x := by simp [atI, ixN]
theorem But.trans {a : Addr} {H H1 H2 : Hp} (x : But a H H1) (y : But a H1 H2) : But a H H2 := fun b o n h => y b o n (x b o n h)
theorem But.refl (a : Addr) (H : Hp) : But a H H := fun _ _ _ h => h
theorem same_upd {H : Hp} {p : Addr} {o : HO} (n : H p = none) : Same H (upd H p o) := fun b u h => by rw [upd_ne (ne_of_none h n)]; exact h
theorem but_upd {H : Hp} {p : Addr} {o : HO} : But p H (upd H p o) := fun b u n h => by rw [upd_ne n]; exact h
theorem ne_fresh {H : Hp} {s p : Addr} {o : HO} (h : H s = some o) (n : H p = none) : p ≠ s := fun e => by rw [e, h] at n; cases n
theorem ne_fresh' {H : Hp} {s p : Addr} {o : HO} (h : H s = some o) (n : H p = none) : s ≠ p := fun e => (ne_fresh h n) e.symm
theorem Same.none {H H' : Hp} {p : Addr} (s : Same H H') (n : H' p = none) : H p = none := s.free n
/-- a change of what the elder heap did not know -/
theorem same_mut {H H' : Hp} {p : Addr} {o : HO} (s : Same H H') (n : H p = none) : Same H (upd H' p o) := fun b u h => by rw [upd_ne (ne_of_none h n)]; exact s b u h
theorem same_but {H H1 H2 : Hp} {p : Addr} (s : Same H H1) (b : But p H1 H2) (n : H p = none) : Same H H2 := fun c o h => b c o (ne_of_none h n) (s c o h)
/-- a new object, its heap a letter -/
theorem a_new {H : Hp} {o : HO} {Q : VK} (k : ∀ p H', H p = none → Same H H' → H' p = some o → Q (.ref p) H') : ∀ p, H p = none → Q (.ref p) (upd H p o) := fun p n => k p _ n (same_upd n) upd_same
/-- an object changed, its heap a letter -/
theorem a_set {H : Hp} {a : Addr} {o : HO} {R : Hp → Prop} (k : ∀ H', But a H H' → H' a = some o → R H') : R (upd H a o) := k _ but_upd upd_same
theorem sql_same {K : PySem.W.Frag} {H H' : Hp} {a : Addr} {xs : List V} (s : Same H H') (h : SqL K H a xs) : SqL K H' a xs := s.seq h
theorem sqt_same {K : PySem.W.Frag} {H H' : Hp} {a : Addr} {xs : List V} (e : Same H H') (h : SqT K H a xs) : SqT K H' a xs := by
  rcases h with (h | ⟨o, h⟩) | h
  · exact .inl (.inl (e _ _ h))
  · exact .inl (.inr ⟨o, e _ _ h⟩)
  · exact .inr h
/-- a tuple stays where a list or an instance changes -/
theorem tup_but {H H' : Hp} {a s : Addr} {xs : List V} {o : HO} (b : But s H H') (hs : H s = some o) (d : o ≠ .tup xs) (h : H a = some (.tup xs)) : H' a = some (.tup xs) := b a _ (fun e => by rw [e, hs] at h; exact d (Option.some.inj h)) h

/-! ### events with letters for heaps -/
section
variable {n : En} {H : Hp} {Q : VK} {W : XK} {x y z : V} {i j : Int} {a b p : Addr} {xs ys : List V}
theorem n_slL {lo hi : Option Int} (h : SqL n.K H a xs) (q : ∀ p H', H p = none → Same H H' → H' p = some (.lst (cutV xs lo hi)) → Q (.ref p) H') : vSl n (.ref a) lo hi H Q := e_slL h (a_new q)
theorem n_setL {k : Int} {m : Nat} {v : V} {R : Hp → Prop} (h : H a = some (.lst xs)) (hi : ixN xs.length k = some m) (q : ∀ H', But a H H' → H' a = some (.lst (xs.set m v)) → R H') : vSet n (.ref a) (.int k) v H R := e_setL h hi (a_set q)
theorem n_divmod (h : CDiv i j) (q : ∀ p H', H p = none → Same H H' → H' p = some (.tup [.int (i / j), .int (i % j)]) → Q (.ref p) H') : vCB n (.builtin "divmod") [.int i, .int j] H Q := e_divmod h (a_new q)
theorem n_cat (h1 : H a = some (.lst xs)) (h2 : H b = some (.lst ys)) (hl : xs.length + ys.length ≤ sizeLine) (q : ∀ p H', H p = none → Same H H' → H' p = some (.lst (xs ++ ys)) → Q (.ref p) H') : vOp n (binaryOp .Add) (.ref a) (.ref b) H Q := e_cat h1 h2 hl (a_new q)
end
/-- a written list, a written tuple -/
structure vLst (xs : List V) (H : Hp) (Q : VK) : Prop where
  run : xs.length ≤ sizeLine ∧ ∀ p, H p = none → Q (.ref p) (upd H p (.lst xs))
structure vTup (xs : List V) (H : Hp) (Q : VK) : Prop where
  run : xs.length ≤ sizeLine ∧ ∀ p, H p = none → Q (.ref p) (upd H p (.tup xs))
def uLst (t : TA) : TE := fun σ H Q => t σ H fun xs H1 => vLst xs H1 Q
def uTup (t : TA) : TE := fun σ H Q => t σ H fun xs H1 => vTup xs H1 Q
theorem z_lst {X : Cx} {es : List Expr} {t : TA} {pos : Pos} (h : PA X es t) : PE X (.List es pos) (uLst t) := ⟨fun pins s σ H Q I q => wpAny_List_spliced (thn (h.run pos pins s σ H _ I q) fun us s1 ⟨xs, H1, I1, r, ⟨z, k⟩⟩ =>
  ⟨by rw [← r.length]; exact z, .ref s1.heap.objs.size, _, I1.laid (t' := s1.toks) (fun b u e => Heap.get?_push_of_some _ e) (Nat.le_refl _) (by exact ⟨z, us, 0, r, Heap.get?_push_size _ rfl⟩), rfl, k _ (I1.hok.fresh (Nat.le_refl _))⟩)⟩
theorem z_tup {X : Cx} {es : List Expr} {t : TA} {x1} {pos : Pos} (h : PA X es t) : PE X (.Tuple es x1 pos) (uTup t) := ⟨fun pins s σ H Q I q => wpAny_Tuple_spliced (thn (h.run pos pins s σ H _ I q) fun us s1 ⟨xs, H1, I1, r, ⟨z, k⟩⟩ =>
  ⟨by rw [← r.length]; exact z, .ref s1.heap.objs.size, _, I1.laid (t' := s1.toks) (fun b u e => Heap.get?_push_of_some _ e) (Nat.le_refl _) (by exact ⟨z, us, r, ⟨_, Heap.get?_push_size _ rfl, rfl, _, rfl⟩⟩), rfl, k _ (I1.hok.fresh (Nat.le_refl _))⟩)⟩
theorem le_line {n : Nat} (h : Nat.ble n 1000 = true) : n ≤ sizeLine := Nat.le_trans (Nat.le_of_ble_eq_true h) (by decide)
theorem n_lst {xs : List V} {H : Hp} {Q : VK} (h : Nat.ble xs.length 1000 = true) (q : ∀ p H', H p = none → Same H H' → H' p = some (.lst xs) → Q (.ref p) H') : vLst xs H Q := ⟨⟨le_line h, a_new q⟩⟩
theorem n_tup {xs : List V} {H : Hp} {Q : VK} (h : Nat.ble xs.length 1000 = true) (q : ∀ p H', H p = none → Same H H' → H' p = some (.tup xs) → Q (.ref p) H') : vTup xs H Q := ⟨⟨le_line h, a_new q⟩⟩
/-! ### the readings that compute -/
def uTest (t : TE) : TT := fun σ H Q => t σ H fun x H1 => match x with | .bl k => Q k H1 | _ => False
theorem ex_bl {Q : Bool → Hp → Prop} {H : Hp} (x : V) : (∃ k, x = .bl k ∧ Q k H) = (match x with | .bl k => Q k H | _ => False) := by
  apply propext
  cases x <;> simp
theorem tTest_eq (t : TE) : tTest t = uTest t := by
  funext σ H Q
  show t σ H _ = t σ H _
  congr 1
  funext x H1
  exact ex_bl x
theorem byb_eq {b : Bool} {A B : Prop} : (if b = true then A else B) = byb b A B := by cases b <;> simp [byb]
def uIfS (c : TT) (t u : TS) : TS := fun D σ H => c σ H fun b H1 => byb b (t D σ H1) (u D σ H1)
theorem tIfS_eq (c : TT) (t u : TS) : tIfS c t u = uIfS c t u := by
  funext D σ H
  show c σ H _ = c σ H _
  congr 1
  funext b H1
  exact byb_eq
def uIf (c : TT) (t u : TE) : TE := fun σ H Q => c σ H fun b H1 => byb b (t σ H1 Q) (u σ H1 Q)
theorem tIf_eq (c : TT) (t u : TE) : tIf c t u = uIf c t u := by
  funext σ H Q
  show c σ H _ = c σ H _
  congr 1
  funext b H1
  exact byb_eq
def uAnd (t u : TT) : TT := fun σ H Q => t σ H fun b H1 => byb b (u σ H1 Q) (Q false H1)
theorem tAnd_eq (t u : TT) : tAnd t u = uAnd t u := by
  funext σ H Q
  show t σ H _ = t σ H _
  congr 1
  funext b H1
  exact byb_eq
def uOr (t u : TT) : TT := fun σ H Q => t σ H fun b H1 => byb b (Q true H1) (u σ H1 Q)
theorem tOr_eq (t u : TT) : tOr t u = uOr t u := by
  funext σ H Q
  show t σ H _ = t σ H _
  congr 1
  funext b H1
  exact byb_eq
def uChain (r r' : R2) (ta tb tc : TE) : TE := fun σ H Q => ta σ H fun x H1 => tb σ H1 fun y H2 => r x y H2 fun z H3 => match z with | .bl k => byb k (tc σ H3 fun w' H4 => r' y w' H4 Q) (Q (.bl false) H3) | _ => False
theorem tChain_eq (r r' : R2) (ta tb tc : TE) : tChain r r' ta tb tc = uChain r r' ta tb tc := by
  funext σ H Q
  show ta σ H _ = ta σ H _
  congr 1
  funext x H1
  congr 1
  funext y H2
  congr 1
  funext z H3
  rw [← ex_bl (Q := fun k H3 => byb k (tc σ H3 fun w' H4 => r' y w' H4 Q) (Q (.bl false) H3))]
  apply propext
  constructor
  · rintro ⟨k, e, h⟩
    exact ⟨k, e, by rw [← byb_eq]; exact h⟩
  · rintro ⟨k, e, h⟩
    exact ⟨k, e, by rw [byb_eq]; exact h⟩
def uPart (t : TE) : TO := fun σ H Q => t σ H fun x H1 => match x with | .int i => Q (some i) H1 | _ => False
theorem tPart_eq (t : TE) : tPart t = uPart t := by
  funext σ H Q
  show t σ H _ = t σ H _
  congr 1
  funext x H1
  apply propext
  cases x <;> simp
def uCons (t : TG) (u : TGs) : TGs := fun vs σ H Q => match vs with | v :: r => t v σ H fun σ' H' => u r σ' H' Q | [] => False
theorem gCons_eq (t : TG) (u : TGs) : gCons t u = uCons t u := by
  funext vs σ H Q
  apply propext
  cases vs with
  | nil => exact ⟨fun ⟨v, r, e, _⟩ => by (cases e), fun h => h.elim⟩
  | cons v r => exact ⟨fun ⟨v, r, e, h⟩ => by (cases e; exact h), fun h => ⟨v, r, rfl, h⟩⟩
def uNil : TGs := fun vs σ H Q => match vs with | [] => Q σ H | _ => False
theorem gNil_eq : gNil = uNil := by
  funext vs σ H Q
  apply propext
  cases vs with
  | nil => exact ⟨fun ⟨_, h⟩ => h, fun h => ⟨rfl, h⟩⟩
  | cons v r => exact ⟨fun ⟨e, _⟩ => by (cases e), fun h => h.elim⟩
def uPar (i j : Nat) (ta : TA) : TS := fun D σ H => ta σ H fun vs H1 => match vs with | [v, w] => D.nx ((σ.set i (some v)).set j (some w)) H1 | _ => False
theorem tPar_eq (i j : Nat) (ta : TA) : tPar i j ta = uPar i j ta := by
  funext D σ H
  show ta σ H _ = ta σ H _
  congr 1
  funext vs H1
  apply propext
  match vs with
  | [] => exact ⟨fun ⟨_, _, e, _⟩ => by (cases e), fun h => h.elim⟩
  | [_] => exact ⟨fun ⟨_, _, e, _⟩ => by (cases e), fun h => h.elim⟩
  | [v, w] => exact ⟨fun ⟨_, _, e, h⟩ => by (cases e; exact h), fun h => ⟨v, w, rfl, h⟩⟩
  | _ :: _ :: _ :: _ => exact ⟨fun ⟨_, _, e, _⟩ => by (cases e), fun h => h.elim⟩
def uAug (i : Nat) (te : TE) (ti : TIp) : TS := fun D σ H => match σ[i]? with | some (some x) => te σ H fun y H1 => ti x y H1 fun z H2 => D.nx (σ.set i (some z)) H2 | _ => False
theorem tAug_eq (i : Nat) (te : TE) (ti : TIp) : tAug i te ti = uAug i te ti := by
  funext D σ H
  apply propext
  show (∃ x, σ[i]? = some (some x) ∧ _) ↔ _
  unfold uAug
  split
  · rename_i x e
    exact ⟨fun ⟨y, e2, h⟩ => by rw [e] at e2; cases e2; exact h, fun h => ⟨x, e, h⟩⟩
  · rename_i n
    exact ⟨fun ⟨y, e2, _⟩ => (n y e2).elim, fun h => h.elim⟩
/-- a, b, .. = e -/
structure vUnp (K : PySem.W.Frag) (m : Nat) (v : V) (H : Hp) (R : List V → Prop) : Prop where
  run : ∃ a xs, v = .ref a ∧ SqT K H a xs ∧ xs.length = m ∧ R xs
theorem n_unp {K : PySem.W.Frag} {m : Nat} {a : Addr} {xs : List V} {H : Hp} {R : List V → Prop} (h : SqT K H a xs) (hl : xs.length = m) (q : R xs) : vUnp K m (.ref a) H R := ⟨a, xs, rfl, h, hl, q⟩
def uTupG (K : PySem.W.Frag) (m : Nat) (t : TGs) : TG := fun v σ H Q => vUnp K m v H fun xs => t xs σ H Q
theorem gTup_eq (K : PySem.W.Frag) (m : Nat) (t : TGs) : gTup K m t = uTupG K m t := by
  funext v σ H Q
  exact propext ⟨fun h => ⟨h⟩, fun h => h.run⟩
section
variable {X : Cx} {a b c e : Expr} {ta tb tc te : TE} {tA tB' : TT} {pos : Pos} {op op' : CmpOp} {r r' : R2}
theorem z_cmpT (ho : OpR X (compareOp op) r) (ha : PE X a ta) (hb : PE X b tb) (hm : behindInMarks op b = false) : PT X (.Compare a [op] [b] pos) (uTest (tOp r ta tb)) := tTest_eq _ ▸ pt_cmpR ho ha hb hm
theorem z_chain (ho : OpR X (compareOp op) r) (ho' : OpR X (compareOp op') r') (ha : PE X a ta) (hb : PE X b tb) (hc : PE X c tc) (hm : lastMarks [op, op'] [b, c] = false := by with_unfolding_all rfl) : PE X (.Compare a [op, op'] [b, c] pos) (uChain r r' ta tb tc) :=
  tChain_eq _ _ _ _ _ ▸ pe_chain ho ho' ha hb hc hm
theorem z_chainT (ho : OpR X (compareOp op) r) (ho' : OpR X (compareOp op') r') (ha : PE X a ta) (hb : PE X b tb) (hc : PE X c tc) (hm : lastMarks [op, op'] [b, c] = false := by with_unfolding_all rfl) : PT X (.Compare a [op, op'] [b, c] pos) (uTest (uChain r r' ta tb tc)) :=
  tChain_eq _ _ _ _ _ ▸ tTest_eq _ ▸ pt_chain ho ho' ha hb hc hm
theorem z_if {c : Expr} {s1 s2 : List Stmt} {t u : TS} (hc : PT X c tA) (h1 : PSs X s1 t) (h2 : PSs X s2 u) : PS X (.If c s1 s2 pos) (uIfS tA t u) := tIfS_eq _ _ _ ▸ ps_if hc h1 h2
theorem z_ifE (hc : PT X c tA) (ha : PE X a ta) (hb : PE X b tb) : PE X (.IfExp c a b pos) (uIf tA ta tb) := tIf_eq _ _ _ ▸ pe_ifExp hc ha hb
theorem zw_and {rest : List Expr} (ha : PT X a tA) (hb : PW X (.BoolOp .And (b :: rest) pos) tB') : PW X (.BoolOp .And (a :: b :: rest) pos) (uAnd tA tB') := tAnd_eq _ _ ▸ pw_and ha hb
theorem zw_or {rest : List Expr} (ha : PT X a tA) (hb : PW X (.BoolOp .Or (b :: rest) pos) tB') : PW X (.BoolOp .Or (a :: b :: rest) pos) (uOr tA tB') := tOr_eq _ _ ▸ pw_or ha hb
theorem z_part (h : PE X e te) : PO X (some e) (uPart te) := tPart_eq _ ▸ po_some h
theorem c_nil {es : List Expr} (h : PGs X es gNil) : PGs X es uNil := gNil_eq ▸ h
theorem c_cons {es : List Expr} {t : TG} {u : TGs} (h : PGs X es (gCons t u)) : PGs X es (uCons t u) := gCons_eq _ _ ▸ h
theorem c_tup {e : Expr} {K : PySem.W.Frag} {m : Nat} {t : TGs} (h : PG X e (gTup K m t)) : PG X e (uTupG K m t) := gTup_eq _ _ _ ▸ h
theorem c_par {st : Stmt} {i j : Nat} {t : TA} (h : PS X st (tPar i j t)) : PS X st (uPar i j t) := tPar_eq _ _ _ ▸ h
theorem c_aug {st : Stmt} {i : Nat} {t : TE} {ti : TIp} (h : PS X st (tAug i t ti)) : PS X st (uAug i t ti) := tAug_eq _ _ _ ▸ h
end
/-! ### equality of data -/
theorem canInts : ∀ ns : List Int, PyData.canLayAll0 (ns.map PyData.int) = true
  | [] => by simp [PyData.canLayAll0]
  | n :: r => by simp [PyData.canLayAll0, PyData.canLay0, canInts r]
theorem depInts : ∀ ns : List Int, PyData.depthAll (ns.map PyData.int) = 0
  | [] => by simp [PyData.depthAll]
  | n :: r => by simp [PyData.depthAll, PyData.depth, depInts r]
theorem shL (ns : List Int) : SeqAt.shaped (.list (ns.map PyData.int)) = true := by simp [SeqAt.shaped, PyData.canLay0, PyData.depth, canInts, depInts]
theorem shT (ns : List Int) : SeqAt.shaped (.tuple (ns.map PyData.int)) = true := by simp [SeqAt.shaped, PyData.canLay0, PyData.depth, canInts, depInts]
theorem dpInts {K : PySem.W.Frag} {H : Hp} : ∀ ns : List Int, DpAll K H (ns.map V.int) (ns.map PyData.int)
  | [] => .nil
  | n :: r => .cons (.int n) (dpInts r)
section
variable {P : Program} {w : World} {K : PySem.W.Frag} {mg : Str → Option Value} {base : Heap} {A : Around} {k : Nat} {H : Hp} {Q : VK} {x y : V} {a b : Addr} {ns ms : List Int} {d e : PyData}
theorem e_eqD (hr : Rm k A) (hx : Dp K H x d) (hy : Dp K H y e) (sx : SeqAt.shaped d = true) (sy : SeqAt.shaped e = true) (q : Q (.bl (PyData.eqv d e)) H) : vOp ⟨P, w, K, mg, base, A⟩ (compareOp .Eq) x y H Q :=
  vOp_ofK (r := rEqD) (fun X o => op_eqD (by rw [o.A]; exact hr.units)) ⟨d, e, hx, hy, sx, sy, q⟩
theorem e_neD (hr : Rm k A) (hx : Dp K H x d) (hy : Dp K H y e) (sx : SeqAt.shaped d = true) (sy : SeqAt.shaped e = true) (q : Q (.bl (!PyData.eqv d e)) H) : vOp ⟨P, w, K, mg, base, A⟩ (compareOp .NotEq) x y H Q :=
  vOp_ofK (r := rNeD) (fun X o => op_neD (by rw [o.A]; exact hr.units)) ⟨d, e, hx, hy, sx, sy, q⟩
/-- lists of ints, tuples of ints -/
theorem e_neLI (hr : Rm k A) (hx : SqL K H a (ns.map V.int)) (hy : SqL K H b (ms.map V.int)) (q : Q (.bl (!decide (ns = ms))) H) : vOp ⟨P, w, K, mg, base, A⟩ (compareOp .NotEq) (.ref a) (.ref b) H Q :=
  e_neD hr (.lst hx (dpInts ns)) (.lst hy (dpInts ms)) (shL ns) (shL ms) (by simpa [PyData.eqv, PySem.W.ked_eqvAll] using q)
theorem e_eqTI (hr : Rm k A) (hx : SqT K H a (ns.map V.int)) (hy : SqT K H b (ms.map V.int)) (q : Q (.bl (decide (ns = ms))) H) : vOp ⟨P, w, K, mg, base, A⟩ (compareOp .Eq) (.ref a) (.ref b) H Q :=
  e_eqD hr (.tup hx (dpInts ns)) (.tup hy (dpInts ms)) (shT ns) (shT ms) (by simpa [PyData.eqv, PySem.W.ked_eqvAll] using q)
theorem e_ltTI (hr : Rm k A) (hx : SqT K H a (ns.map V.int)) (hy : SqT K H b (ms.map V.int)) (q : Q (.bl (HT.lexLt ns ms)) H) : vOp ⟨P, w, K, mg, base, A⟩ (compareOp .Lt) (.ref a) (.ref b) H Q :=
  vOp_ofK (r := rLtT) (fun X o => op_ltT (by rw [o.A]; exact hr.units0)) ⟨a, b, ns, ms, rfl, rfl, hx, hy, q⟩
end

/-! ### isinstance -/
theorem kit_int_int {K : PySem.W.Frag} : PySem.W.kitOne K (.type "int") (.type "int") = some true := kit_ty (by decide +kernel)
theorem kit_int_bool {K : PySem.W.Frag} : PySem.W.kitOne K (.type "int") (.type "bool") = some false := kit_ty (by decide +kernel)

/-! ### slices -/
theorem cut_drop (k : Nat) (xs : List V) : cutV xs (some (k : Int)) none = xs.drop k := by
  unfold cutV
  rw [HT.sIx_nat, HT.sIx_none]
  by_cases h : k ≤ xs.length
  · rw [Nat.min_eq_left h, List.take_of_length_le (by rw [List.length_drop]; omega)]
  · rw [Nat.min_eq_right (by omega), List.drop_of_length_le (by omega : xs.length ≤ xs.length), List.drop_of_length_le (by omega : xs.length ≤ k), List.take_nil]
theorem cut_take (k : Nat) (xs : List V) : cutV xs none (some (k : Int)) = xs.take k := by
  unfold cutV
  rw [HT.sIx_nat, HT.sIx_none, List.drop_zero]
  by_cases h : k ≤ xs.length
  · rw [Nat.min_eq_left h]
    rfl
  · rw [Nat.min_eq_right (by omega), List.take_of_length_le (by omega), List.take_of_length_le (by omega)]
/-! ### loops, comprehensions -/
/-- for .. in a list, a tuple, a range -/
structure vForL (K : PySem.W.Frag) (x : V) (g : TG) (tb : TS) (D : Ends) (σ : L2.St) (H : Hp) : Prop where
  run : tFor (iList K (tC x)) g tb D σ H
structure vForT (K : PySem.W.Frag) (x : V) (g : TG) (tb : TS) (D : Ends) (σ : L2.St) (H : Hp) : Prop where
  run : tFor (iTup K (tC x)) g tb D σ H
structure vForR1 (xs : List V) (g : TG) (tb : TS) (D : Ends) (σ : L2.St) (H : Hp) : Prop where
  run : tFor (iRng1 fun _ H Q => Q xs H) g tb D σ H
structure vForR2 (xs : List V) (g : TG) (tb : TS) (D : Ends) (σ : L2.St) (H : Hp) : Prop where
  run : tFor (iRng2 fun _ H Q => Q xs H) g tb D σ H
def uForL (K : PySem.W.Frag) (tl : TE) (g : TG) (tb : TS) : TS := fun D σ H => tl σ H fun x H1 => vForL K x g tb D σ H1
def uForT (K : PySem.W.Frag) (tl : TE) (g : TG) (tb : TS) : TS := fun D σ H => tl σ H fun x H1 => vForT K x g tb D σ H1
def uForR1 (ta : TA) (g : TG) (tb : TS) : TS := fun D σ H => ta σ H fun xs H1 => vForR1 xs g tb D σ H1
def uForR2 (ta : TA) (g : TG) (tb : TS) : TS := fun D σ H => ta σ H fun xs H1 => vForR2 xs g tb D σ H1
theorem forL_eq {K : PySem.W.Frag} {tl : TE} {g : TG} {tb : TS} : tFor (iList K tl) g tb = uForL K tl g tb := by
  funext D σ H
  show tl σ H _ = tl σ H _
  congr 1
  funext x H1
  exact propext ⟨fun h => ⟨h⟩, fun h => h.run⟩
theorem forT_eq {K : PySem.W.Frag} {tl : TE} {g : TG} {tb : TS} : tFor (iTup K tl) g tb = uForT K tl g tb := by
  funext D σ H
  show tl σ H _ = tl σ H _
  congr 1
  funext x H1
  exact propext ⟨fun h => ⟨h⟩, fun h => h.run⟩
theorem forR1_eq {ta : TA} {g : TG} {tb : TS} : tFor (iRng1 ta) g tb = uForR1 ta g tb := by
  funext D σ H
  show ta σ H _ = ta σ H _
  congr 1
  funext x H1
  exact propext ⟨fun h => ⟨h⟩, fun h => h.run⟩
theorem forR2_eq {ta : TA} {g : TG} {tb : TS} : tFor (iRng2 ta) g tb = uForR2 ta g tb := by
  funext D σ H
  show ta σ H _ = ta σ H _
  congr 1
  funext x H1
  exact propext ⟨fun h => ⟨h⟩, fun h => h.run⟩
theorem c_forL {X : Cx} {st : Stmt} {K : PySem.W.Frag} {tl : TE} {g : TG} {tb : TS} (h : PS X st (tFor (iList K tl) g tb)) : PS X st (uForL K tl g tb) := forL_eq ▸ h
theorem c_forT {X : Cx} {st : Stmt} {K : PySem.W.Frag} {tl : TE} {g : TG} {tb : TS} (h : PS X st (tFor (iTup K tl) g tb)) : PS X st (uForT K tl g tb) := forT_eq ▸ h
theorem c_forR1 {X : Cx} {st : Stmt} {ta : TA} {g : TG} {tb : TS} (h : PS X st (tFor (iRng1 ta) g tb)) : PS X st (uForR1 ta g tb) := forR1_eq ▸ h
theorem c_forR2 {X : Cx} {st : Stmt} {ta : TA} {g : TG} {tb : TS} (h : PS X st (tFor (iRng2 ta) g tb)) : PS X st (uForR2 ta g tb) := forR2_eq ▸ h
section
variable {K : PySem.W.Frag} {a : Addr} {xs : List V} {g : TG} {tb : TS} {D : Ends} {σ : L2.St} {H : Hp} {i j : Int}
theorem n_forL (Pv : Nat → L2.St → Hp → Prop) (hx : SqL K H a xs) (h0 : Pv 0 σ H) (hl : ∀ i σ H, i ≤ xs.length → Pv i σ H → SqL K H a xs)
    (hs : ∀ i x σ H, xs[i]? = some x → Pv i σ H → g x σ H fun σ2 H2 => tb { D with nx := Pv (i + 1), ct := Pv (i + 1), bk := D.nx } σ2 H2) (hd : ∀ σ H, Pv xs.length σ H → D.nx σ H) : vForL K (.ref a) g tb D σ H :=
  ⟨⟨a, rfl, ⟨xs, hx⟩, for_list (xs := xs) Pv h0 hl hs hd⟩⟩
theorem n_forT (Pv : Nat → L2.St → Hp → Prop) (hx : SqT K H a xs) (h0 : Pv 0 σ H) (hl : ∀ i σ H, i ≤ xs.length → Pv i σ H → SqT K H a xs)
    (hs : ∀ i x σ H, xs[i]? = some x → Pv i σ H → g x σ H fun σ2 H2 => tb { D with nx := Pv (i + 1), ct := Pv (i + 1), bk := D.nx } σ2 H2) (hd : ∀ σ H, Pv xs.length σ H → D.nx σ H) : vForT K (.ref a) g tb D σ H :=
  ⟨⟨a, rfl, ⟨xs, hx⟩, for_tup (xs := xs) Pv h0 hl hs hd⟩⟩
theorem n_forR1 (Pv : Nat → L2.St → Hp → Prop) (h1 : -(2 ^ 62) ≤ j) (h2 : j < 2 ^ 62) (h0 : Pv 0 σ H)
    (hs : ∀ (i : Nat) σ H, (i : Int) < j → Pv i σ H → g (.int (i : Int)) σ H fun σ2 H2 => tb { D with nx := Pv (i + 1), ct := Pv (i + 1), bk := D.nx } σ2 H2) (hd : ∀ σ H, Pv j.toNat σ H → D.nx σ H) : vForR1 [.int j] g tb D σ H :=
  ⟨⟨j, rfl, h1, h2, for_range (lo := 0) (n := j.toNat) Pv h0 (fun i σ H hi p => by
    have e : (0 : Int) + (i : Int) = (i : Int) := Int.zero_add _
    rw [e]
    exact hs i σ H (by omega) p) hd⟩⟩
theorem n_forR2 (Pv : Nat → L2.St → Hp → Prop) (h1 : -(2 ^ 62) ≤ i ∧ i < 2 ^ 62 ∧ -(2 ^ 62) ≤ j ∧ j < 2 ^ 62) (h0 : Pv 0 σ H)
    (hs : ∀ (k : Nat) σ H, i + (k : Int) < j → Pv k σ H → g (.int (i + (k : Int))) σ H fun σ2 H2 => tb { D with nx := Pv (k + 1), ct := Pv (k + 1), bk := D.nx } σ2 H2) (hd : ∀ σ H, Pv (j - i).toNat σ H → D.nx σ H) : vForR2 [.int i, .int j] g tb D σ H :=
  ⟨⟨i, j, rfl, h1, for_range (lo := i) (n := (j - i).toNat) Pv h0 (fun k σ H hi p => hs k σ H (by omega) p) hd⟩⟩
end
/-- [e for .. in a list, a tuple, a range] -/
structure vLcL (K : PySem.W.Frag) (x : V) (g : TG) (tt : TT) (te : TE) (vs : List Nat) (σ : L2.St) (H : Hp) (Q : VK) : Prop where
  run : tLc (iList K (tC x)) g tt te vs σ H Q
structure vLcT (K : PySem.W.Frag) (x : V) (g : TG) (tt : TT) (te : TE) (vs : List Nat) (σ : L2.St) (H : Hp) (Q : VK) : Prop where
  run : tLc (iTup K (tC x)) g tt te vs σ H Q
structure vLcR1 (xs : List V) (g : TG) (tt : TT) (te : TE) (vs : List Nat) (σ : L2.St) (H : Hp) (Q : VK) : Prop where
  run : tLc (iRng1 fun _ H Q => Q xs H) g tt te vs σ H Q
structure vLcR2 (xs : List V) (g : TG) (tt : TT) (te : TE) (vs : List Nat) (σ : L2.St) (H : Hp) (Q : VK) : Prop where
  run : tLc (iRng2 fun _ H Q => Q xs H) g tt te vs σ H Q
def uLcL (K : PySem.W.Frag) (tl : TE) (g : TG) (tt : TT) (te : TE) (vs : List Nat) : TE := fun σ H Q => tl σ H fun x H1 => vLcL K x g tt te vs σ H1 Q
def uLcT (K : PySem.W.Frag) (tl : TE) (g : TG) (tt : TT) (te : TE) (vs : List Nat) : TE := fun σ H Q => tl σ H fun x H1 => vLcT K x g tt te vs σ H1 Q
def uLcR1 (ta : TA) (g : TG) (tt : TT) (te : TE) (vs : List Nat) : TE := fun σ H Q => ta σ H fun xs H1 => vLcR1 xs g tt te vs σ H1 Q
def uLcR2 (ta : TA) (g : TG) (tt : TT) (te : TE) (vs : List Nat) : TE := fun σ H Q => ta σ H fun xs H1 => vLcR2 xs g tt te vs σ H1 Q
theorem lcL_eq {K : PySem.W.Frag} {tl : TE} {g : TG} {tt : TT} {te : TE} {vs : List Nat} : tLc (iList K tl) g tt te vs = uLcL K tl g tt te vs := by
  funext σ H Q
  show tl σ H _ = tl σ H _
  congr 1
  funext x H1
  exact propext ⟨fun h => ⟨h⟩, fun h => h.run⟩
theorem lcT_eq {K : PySem.W.Frag} {tl : TE} {g : TG} {tt : TT} {te : TE} {vs : List Nat} : tLc (iTup K tl) g tt te vs = uLcT K tl g tt te vs := by
  funext σ H Q
  show tl σ H _ = tl σ H _
  congr 1
  funext x H1
  exact propext ⟨fun h => ⟨h⟩, fun h => h.run⟩
theorem lcR1_eq {ta : TA} {g : TG} {tt : TT} {te : TE} {vs : List Nat} : tLc (iRng1 ta) g tt te vs = uLcR1 ta g tt te vs := by
  funext σ H Q
  show ta σ H _ = ta σ H _
  congr 1
  funext x H1
  exact propext ⟨fun h => ⟨h⟩, fun h => h.run⟩
theorem lcR2_eq {ta : TA} {g : TG} {tt : TT} {te : TE} {vs : List Nat} : tLc (iRng2 ta) g tt te vs = uLcR2 ta g tt te vs := by
  funext σ H Q
  show ta σ H _ = ta σ H _
  congr 1
  funext x H1
  exact propext ⟨fun h => ⟨h⟩, fun h => h.run⟩
theorem c_lcL {X : Cx} {e : Expr} {K : PySem.W.Frag} {tl : TE} {g : TG} {tt : TT} {te : TE} {vs : List Nat} (h : PE X e (tLc (iList K tl) g tt te vs)) : PE X e (uLcL K tl g tt te vs) := lcL_eq ▸ h
theorem c_lcT {X : Cx} {e : Expr} {K : PySem.W.Frag} {tl : TE} {g : TG} {tt : TT} {te : TE} {vs : List Nat} (h : PE X e (tLc (iTup K tl) g tt te vs)) : PE X e (uLcT K tl g tt te vs) := lcT_eq ▸ h
theorem c_lcR1 {X : Cx} {e : Expr} {ta : TA} {g : TG} {tt : TT} {te : TE} {vs : List Nat} (h : PE X e (tLc (iRng1 ta) g tt te vs)) : PE X e (uLcR1 ta g tt te vs) := lcR1_eq ▸ h
theorem c_lcR2 {X : Cx} {e : Expr} {ta : TA} {g : TG} {tt : TT} {te : TE} {vs : List Nat} (h : PE X e (tLc (iRng2 ta) g tt te vs)) : PE X e (uLcR2 ta g tt te vs) := lcR2_eq ▸ h
theorem s_lcL {X : Cx} {st : Stmt} {i : Nat} {K : PySem.W.Frag} {tl : TE} {g : TG} {tt : TT} {te : TE} {vs : List Nat} (h : PS X st (tAsg (tLc (iList K tl) g tt te vs) (gName i))) : PS X st (tAsg (uLcL K tl g tt te vs) (gName i)) := lcL_eq ▸ h
theorem s_lcT {X : Cx} {st : Stmt} {i : Nat} {K : PySem.W.Frag} {tl : TE} {g : TG} {tt : TT} {te : TE} {vs : List Nat} (h : PS X st (tAsg (tLc (iTup K tl) g tt te vs) (gName i))) : PS X st (tAsg (uLcT K tl g tt te vs) (gName i)) := lcT_eq ▸ h
theorem s_lcR1 {X : Cx} {st : Stmt} {i : Nat} {ta : TA} {g : TG} {tt : TT} {te : TE} {vs : List Nat} (h : PS X st (tAsg (tLc (iRng1 ta) g tt te vs) (gName i))) : PS X st (tAsg (uLcR1 ta g tt te vs) (gName i)) := lcR1_eq ▸ h
theorem s_lcR2 {X : Cx} {st : Stmt} {i : Nat} {ta : TA} {g : TG} {tt : TT} {te : TE} {vs : List Nat} (h : PS X st (tAsg (tLc (iRng2 ta) g tt te vs) (gName i))) : PS X st (tAsg (uLcR2 ta g tt te vs) (gName i)) := lcR2_eq ▸ h
/-- an element is put at the end of the comprehension's list at D -/
structure vPut (D : Addr) (y : V) (H : Hp) (R : Hp → Prop) : Prop where
  run : ∃ acc, H D = some (.lst acc) ∧ acc.length < sizeLine ∧ R (upd H D (.lst (acc ++ [y])))
/-- one turn: the target at x, the test, the element, Next behind -/
def lcTurn (g : TG) (tt : TT) (te : TE) (vs : List Nat) (σ : L2.St) (D : Addr) (x : V) (H : Hp) (Next : Hp → Prop) : Prop :=
  g x (wipe σ vs) H fun σ2 H2 => wipe σ2 vs = wipe σ vs ∧ tt σ2 H2 fun b H3 => byb b (te σ2 H3 fun y H4 => vPut D y H4 Next) (Next H3)
section
variable {K : PySem.W.Frag} {a : Addr} {xs : List V} {g : TG} {tt : TT} {te : TE} {vs : List Nat} {σ : L2.St} {H : Hp} {Q : VK} {i j : Int}
theorem turn_eq {D : Addr} {x : V} {Next : Hp → Prop} (h : lcTurn g tt te vs σ D x H Next) : g x (wipe σ vs) H fun σ2 H2 => wipe σ2 vs = wipe σ vs ∧ tt σ2 H2 fun b H3 =>
      if b = true then te σ2 H3 fun y H4 => ∃ acc, H4 D = some (.lst acc) ∧ acc.length < sizeLine ∧ Next (upd H4 D (.lst (acc ++ [y]))) else Next H3 := by
  have e : (fun σ2 H2 => wipe σ2 vs = wipe σ vs ∧ tt σ2 H2 fun b H3 => if b = true then te σ2 H3 fun y H4 => ∃ acc, H4 D = some (.lst acc) ∧ acc.length < sizeLine ∧ Next (upd H4 D (.lst (acc ++ [y]))) else Next H3) =
      fun σ2 H2 => wipe σ2 vs = wipe σ vs ∧ tt σ2 H2 fun b H3 => byb b (te σ2 H3 fun y H4 => vPut D y H4 Next) (Next H3) := by
    funext σ2 H2
    congr 2
    funext b H3
    rw [byb_eq]
    congr 2
    funext y H4
    exact propext ⟨fun h => ⟨h⟩, fun h => h.run⟩
  rw [e]
  exact h
/-- over a list: P tells of the turn, of what was made so far and of the heap -/
theorem n_lcL (P : Addr → Nat → List V → Hp → Prop) (hx : SqL K H a xs) (hz : xs.length ≤ 1000000) (h0 : ∀ D H1, H D = none → Same H H1 → H1 D = some (.lst []) → P D 0 [] H1)
    (hs : ∀ D i x ys H1 (Next : Hp → Prop), xs[i]? = some x → H D = none → Same H H1 → H1 D = some (.lst ys) → P D i ys H1 → ys.length ≤ i → i < xs.length →
      (∀ ys' H2, Same H H2 → H2 D = some (.lst ys') → P D (i + 1) ys' H2 → ys'.length ≤ i + 1 → Next H2) → lcTurn g tt te vs σ D x H1 Next)
    (hd : ∀ D ys H1, H D = none → Same H H1 → H1 D = some (.lst ys) → P D xs.length ys H1 → ys.length ≤ xs.length → Q (.ref D) H1) : vLcL K (.ref a) g tt te vs σ H Q :=
  ⟨⟨a, rfl, ⟨xs, hx⟩, fun D hD => lc_list (xs := xs) (fun i H1 => ∃ ys, Same H H1 ∧ H1 D = some (.lst ys) ∧ P D i ys H1 ∧ ys.length ≤ i) ⟨[], same_upd hD, upd_same, h0 D _ hD (same_upd hD) upd_same, Nat.le_refl _⟩
    (fun i H1 _ ⟨ys, s, _, _, _⟩ => s.seq hx) (fun i x H1 hi ⟨ys, s, hy, p, l⟩ => turn_eq (hs D i x ys H1 _ hi hD s hy p l (List.getElem?_eq_some_iff.mp hi).1 fun ys' H2 s2 h2 p2 l2 => ⟨ys', s2, h2, p2, l2⟩))
    (fun H1 ⟨ys, s, hy, p, l⟩ => hd D ys H1 hD s hy p l)⟩⟩
theorem n_lcT (P : Addr → Nat → List V → Hp → Prop) (hx : SqT K H a xs) (hz : xs.length ≤ 1000000) (h0 : ∀ D H1, H D = none → Same H H1 → H1 D = some (.lst []) → P D 0 [] H1)
    (hs : ∀ D i x ys H1 (Next : Hp → Prop), xs[i]? = some x → H D = none → Same H H1 → H1 D = some (.lst ys) → P D i ys H1 → ys.length ≤ i → i < xs.length →
      (∀ ys' H2, Same H H2 → H2 D = some (.lst ys') → P D (i + 1) ys' H2 → ys'.length ≤ i + 1 → Next H2) → lcTurn g tt te vs σ D x H1 Next)
    (hd : ∀ D ys H1, H D = none → Same H H1 → H1 D = some (.lst ys) → P D xs.length ys H1 → ys.length ≤ xs.length → Q (.ref D) H1) : vLcT K (.ref a) g tt te vs σ H Q :=
  ⟨⟨a, rfl, ⟨xs, hx⟩, fun D hD => lc_tup (xs := xs) (fun i H1 => ∃ ys, Same H H1 ∧ H1 D = some (.lst ys) ∧ P D i ys H1 ∧ ys.length ≤ i) ⟨[], same_upd hD, upd_same, h0 D _ hD (same_upd hD) upd_same, Nat.le_refl _⟩
    (fun i H1 _ ⟨ys, s, _, _, _⟩ => sqt_same s hx) (fun i x H1 hi ⟨ys, s, hy, p, l⟩ => turn_eq (hs D i x ys H1 _ hi hD s hy p l (List.getElem?_eq_some_iff.mp hi).1 fun ys' H2 s2 h2 p2 l2 => ⟨ys', s2, h2, p2, l2⟩))
    (fun H1 ⟨ys, s, hy, p, l⟩ => hd D ys H1 hD s hy p l)⟩⟩
theorem n_lcR2 (P : Addr → Nat → List V → Hp → Prop) (h1 : -(2 ^ 62) ≤ i ∧ i < 2 ^ 62 ∧ -(2 ^ 62) ≤ j ∧ j < 2 ^ 62) (h0 : ∀ D H1, H D = none → Same H H1 → H1 D = some (.lst []) → P D 0 [] H1)
    (hs : ∀ D (k : Nat) ys H1 (Next : Hp → Prop), i + (k : Int) < j → H D = none → Same H H1 → H1 D = some (.lst ys) → P D k ys H1 → ys.length ≤ k →
      (∀ ys' H2, Same H H2 → H2 D = some (.lst ys') → P D (k + 1) ys' H2 → ys'.length ≤ k + 1 → Next H2) → lcTurn g tt te vs σ D (.int (i + (k : Int))) H1 Next)
    (hd : ∀ D ys H1, H D = none → Same H H1 → H1 D = some (.lst ys) → P D (j - i).toNat ys H1 → ys.length ≤ (j - i).toNat → Q (.ref D) H1) : vLcR2 [.int i, .int j] g tt te vs σ H Q :=
  ⟨⟨i, j, rfl, h1, fun D hD => lc_range (lo := i) (n := (j - i).toNat) (fun k H1 => ∃ ys, Same H H1 ∧ H1 D = some (.lst ys) ∧ P D k ys H1 ∧ ys.length ≤ k) ⟨[], same_upd hD, upd_same, h0 D _ hD (same_upd hD) upd_same, Nat.le_refl _⟩
    (fun k H1 hk ⟨ys, s, hy, p, l⟩ => turn_eq (hs D k ys H1 _ (by omega) hD s hy p l fun ys' H2 s2 h2 p2 l2 => ⟨ys', s2, h2, p2, l2⟩))
    (fun H1 ⟨ys, s, hy, p, l⟩ => hd D ys H1 hD s hy p l)⟩⟩
theorem n_lcR1 (P : Addr → Nat → List V → Hp → Prop) (h1 : -(2 ^ 62) ≤ j) (h2 : j < 2 ^ 62) (h0 : ∀ D H1, H D = none → Same H H1 → H1 D = some (.lst []) → P D 0 [] H1)
    (hs : ∀ D (k : Nat) ys H1 (Next : Hp → Prop), (k : Int) < j → H D = none → Same H H1 → H1 D = some (.lst ys) → P D k ys H1 → ys.length ≤ k →
      (∀ ys' H2, Same H H2 → H2 D = some (.lst ys') → P D (k + 1) ys' H2 → ys'.length ≤ k + 1 → Next H2) → lcTurn g tt te vs σ D (.int (k : Int)) H1 Next)
    (hd : ∀ D ys H1, H D = none → Same H H1 → H1 D = some (.lst ys) → P D j.toNat ys H1 → ys.length ≤ j.toNat → Q (.ref D) H1) : vLcR1 [.int j] g tt te vs σ H Q :=
  ⟨⟨j, rfl, h1, h2, fun D hD => lc_range (lo := 0) (n := j.toNat) (fun k H1 => ∃ ys, Same H H1 ∧ H1 D = some (.lst ys) ∧ P D k ys H1 ∧ ys.length ≤ k) ⟨[], same_upd hD, upd_same, h0 D _ hD (same_upd hD) upd_same, Nat.le_refl _⟩
    (fun k H1 hk ⟨ys, s, hy, p, l⟩ => by
      have e : (0 : Int) + (k : Int) = (k : Int) := Int.zero_add _
      rw [e]
      exact turn_eq (hs D k ys H1 _ (by omega) hD s hy p l fun ys' H2 s2 h2 p2 l2 => ⟨ys', s2, h2, p2, l2⟩))
    (fun H1 ⟨ys, s, hy, p, l⟩ => hd D ys H1 hD s hy p l)⟩⟩
/-- the element put -/
theorem n_put {D : Addr} {y : V} {ys : List V} {R : Hp → Prop} (h : H D = some (.lst ys)) (hl : ys.length < sizeLine) (q : ∀ H', But D H H' → H' D = some (.lst (ys ++ [y])) → R H') : vPut D y H R := ⟨⟨ys, h, hl, a_set q⟩⟩
theorem lt_line {n m : Nat} (h : n ≤ m) (hm : m < 1000000) : n < sizeLine := Nat.lt_of_lt_of_le (Nat.lt_of_le_of_lt h hm) (by decide)
end
end Z

namespace Z
open PySem PySem.Spec PyProof.Rows L2
section
variable {P : Program} {w : World} {K : PySem.W.Frag} {mg : Str → Option Value} {base : Heap} {A : Around} {k j : Nat} {H : Hp} {Q : VK} {a b C g dx dy : Addr} {fs gs : List (Str × V)} {sp : Sp}
/-- x op y, both instances of the class at C -/
theorem e_own (hr : Rm k A) {op : CmpOp} (hop : ∀ a b, compareOp op a b = richCompare op a b) (ea : H a = some (.ins C dx fs)) (eb : H b = some (.ins C dy gs)) (hm : Meth K C (cmpInfo op).2.1 g) (F : FnZ P w K mg base j g sp)
    (h : sp [.ref a, .ref b] H Q E0) (hj : j ≤ k := by decide) : vOp ⟨P, w, K, mg, base, A⟩ (compareOp op) (.ref a) (.ref b) H Q := by
  refine ⟨?_⟩
  rintro X ⟨rfl, rfl, rfl, rfl, rfl, hA, hc⟩ pins s σ v u I rv ru
  have hA : X.A = A := hA
  subst hA
  cases (show v = Value.ref a from rv)
  cases (show u = Value.ref b from ru)
  obtain ⟨mA, O, _, _, _, _⟩ := ins_get I.hok ea
  obtain ⟨mB, O', _, _, _, _⟩ := ins_get I.hok eb
  obtain ⟨od, J, _⟩ := O.look
  obtain ⟨od', J', _⟩ := O'.look
  obtain ⟨m, hF⟩ := I.fr
  rw [hop]
  refine PySem.W.cmp_K (op := op) (tb := .ref C) hr.units0 hF I.ok.mod.kin J J'.type (by simp [PySem.W.notFirst]) hm.at_ hm.fn ?_
  refine wpAny_mono (wpAny_call (run_z (us := [.ref a, .ref b]) (vs := [.ref a, .ref b]) F (hr.le hj) I (.cons rfl (.cons rfl .nil)) h)) (fun w s' z => ?_) fun _ _ x => x
  obtain ⟨z', H', I', rz, qz⟩ := z
  exact SlX.cmpback rz ⟨z', H', I', rz, qz⟩
end
/-! ### order of tuples of ints -/
def lexI (r : Int → Int → Bool) (z : Bool) (ns ms : List Int) : Bool := Ob.lexAt (fun j => decide (ns.getD j 0 = ms.getD j 0)) (fun j => r (ns.getD j 0) (ms.getD j 0)) z 0 (min ns.length ms.length)
section
variable {P : Program} {w : World} {K : PySem.W.Frag} {mg : Str → Option Value} {base : Heap} {A : Around} {k j : Nat} {H : Hp} {Q : VK} {a b : Addr} {ns ms : List Int}
theorem tup_facts {X : Cx} {pins : List (Addr × Obj)} {σ : L2.St} {s : Shared} (I : Inv X pins σ H s) (ha : SqT X.K H a (ns.map V.int)) : ∃ its : Array Value, s.heap.IsTuple a its ∧ its.size = ns.length ∧ ∀ j (h : j < its.size), ∃ t, its[j] = .int (ns.getD j 0) t := by
  obtain ⟨its, r1, p1, _⟩ := I.tuple ha
  have i1 : IntsAre its ns := Vals.ints r1
  exact ⟨_, p1, by rw [List.size_toArray]; exact i1.length, fun j h => PyProof.Rows.IntsAre.int_at i1 _ _ (by simp at h; simp [h])⟩
theorem eqAt_getD {A : Around} {s : Shared} {x y : Int} {t u : Tok} : SeqAt.EqAt A s (.int x t) (.int y u) (decide (x = y)) := by
  have z : (x == y) = decide (x = y) := by
    by_cases q : x = y
    · rw [decide_eq_true q]; exact beq_iff_eq.mpr q
    · rw [decide_eq_false q]; exact beq_eq_false_iff_ne.mpr q
  rw [← z]
  exact SeqAt.EqAt.int_int _ _ _ _
theorem e_ltT (hr : Rm k A) (ha : SqT K H a (ns.map V.int)) (hb : SqT K H b (ms.map V.int)) (q : Q (.bl (lexI (fun i j => decide (i < j)) (decide (ns.length < ms.length)) ns ms)) H) : vOp ⟨P, w, K, mg, base, A⟩ (compareOp .Lt) (.ref a) (.ref b) H Q := by
  refine ⟨?_⟩
  rintro X ⟨rfl, rfl, rfl, rfl, rfl, hA, hc⟩ pins s σ v u I rv ru
  have hA : X.A = A := hA
  subst hA
  cases (show v = Value.ref a from rv)
  cases (show u = Value.ref b from ru)
  obtain ⟨its, p1, z1, f1⟩ := tup_facts I ha
  obtain ⟨its2, p2, z2, f2⟩ := tup_facts I hb
  have R := Ob.RcOp.tuples_lt (A := X.A) (s := s) (e := fun j => decide (ns.getD j 0 = ms.getD j 0)) (r := fun j => decide (ns.getD j 0 < ms.getD j 0)) p1 p2 hr.units0 (fun j h1 h2 => by
    obtain ⟨t, et⟩ := f1 j h1
    obtain ⟨t', et'⟩ := f2 j h2
    rw [et, et']
    exact eqAt_getD) (fun j h1 h2 _ => by
    obtain ⟨t, et⟩ := f1 j h1
    obtain ⟨t', et'⟩ := f2 j h2
    rw [et, et']
    exact Ob.RcOp.lt_int _ _ _ _)
  rw [z1, z2] at R
  exact R _ _ _ _ ⟨.bl _, H, I, rfl, q⟩
theorem e_leT (hr : Rm k A) (ha : SqT K H a (ns.map V.int)) (hb : SqT K H b (ms.map V.int)) (q : Q (.bl (lexI (fun i j => decide (i ≤ j)) (decide (ns.length ≤ ms.length)) ns ms)) H) : vOp ⟨P, w, K, mg, base, A⟩ (compareOp .LtE) (.ref a) (.ref b) H Q := by
  refine ⟨?_⟩
  rintro X ⟨rfl, rfl, rfl, rfl, rfl, hA, hc⟩ pins s σ v u I rv ru
  have hA : X.A = A := hA
  subst hA
  cases (show v = Value.ref a from rv)
  cases (show u = Value.ref b from ru)
  obtain ⟨its, p1, z1, f1⟩ := tup_facts I ha
  obtain ⟨its2, p2, z2, f2⟩ := tup_facts I hb
  have R := Ob.RcOp.tuples_le (A := X.A) (s := s) (e := fun j => decide (ns.getD j 0 = ms.getD j 0)) (r := fun j => decide (ns.getD j 0 ≤ ms.getD j 0)) p1 p2 hr.units0 (fun j h1 h2 => by
    obtain ⟨t, et⟩ := f1 j h1
    obtain ⟨t', et'⟩ := f2 j h2
    rw [et, et']
    exact eqAt_getD) (fun j h1 h2 _ => by
    obtain ⟨t, et⟩ := f1 j h1
    obtain ⟨t', et'⟩ := f2 j h2
    rw [et, et']
    exact Ob.RcOp.le_int _ _ _ _)
  rw [z1, z2] at R
  exact R _ _ _ _ ⟨.bl _, H, I, rfl, q⟩
theorem e_gtT (hr : Rm k A) (ha : SqT K H a (ns.map V.int)) (hb : SqT K H b (ms.map V.int)) (q : Q (.bl (lexI (fun i j => decide (j < i)) (decide (ms.length < ns.length)) ns ms)) H) : vOp ⟨P, w, K, mg, base, A⟩ (compareOp .Gt) (.ref a) (.ref b) H Q := by
  refine ⟨?_⟩
  rintro X ⟨rfl, rfl, rfl, rfl, rfl, hA, hc⟩ pins s σ v u I rv ru
  have hA : X.A = A := hA
  subst hA
  cases (show v = Value.ref a from rv)
  cases (show u = Value.ref b from ru)
  obtain ⟨its, p1, z1, f1⟩ := tup_facts I ha
  obtain ⟨its2, p2, z2, f2⟩ := tup_facts I hb
  have R := Ob.RcOp.tuples_gt (A := X.A) (s := s) (e := fun j => decide (ns.getD j 0 = ms.getD j 0)) (r := fun j => decide (ms.getD j 0 < ns.getD j 0)) p1 p2 hr.units0 (fun j h1 h2 => by
    obtain ⟨t, et⟩ := f1 j h1
    obtain ⟨t', et'⟩ := f2 j h2
    rw [et, et']
    exact eqAt_getD) (fun j h1 h2 _ => by
    obtain ⟨t, et⟩ := f1 j h1
    obtain ⟨t', et'⟩ := f2 j h2
    rw [et, et']
    exact Ob.RcOp.gt_int _ _ _ _)
  rw [z1, z2] at R
  exact R _ _ _ _ ⟨.bl _, H, I, rfl, q⟩
theorem e_geT (hr : Rm k A) (ha : SqT K H a (ns.map V.int)) (hb : SqT K H b (ms.map V.int)) (q : Q (.bl (lexI (fun i j => decide (j ≤ i)) (decide (ms.length ≤ ns.length)) ns ms)) H) : vOp ⟨P, w, K, mg, base, A⟩ (compareOp .GtE) (.ref a) (.ref b) H Q := by
  refine ⟨?_⟩
  rintro X ⟨rfl, rfl, rfl, rfl, rfl, hA, hc⟩ pins s σ v u I rv ru
  have hA : X.A = A := hA
  subst hA
  cases (show v = Value.ref a from rv)
  cases (show u = Value.ref b from ru)
  obtain ⟨its, p1, z1, f1⟩ := tup_facts I ha
  obtain ⟨its2, p2, z2, f2⟩ := tup_facts I hb
  have R := Ob.RcOp.tuples_ge (A := X.A) (s := s) (e := fun j => decide (ns.getD j 0 = ms.getD j 0)) (r := fun j => decide (ms.getD j 0 ≤ ns.getD j 0)) p1 p2 hr.units0 (fun j h1 h2 => by
    obtain ⟨t, et⟩ := f1 j h1
    obtain ⟨t', et'⟩ := f2 j h2
    rw [et, et']
    exact eqAt_getD) (fun j h1 h2 _ => by
    obtain ⟨t, et⟩ := f1 j h1
    obtain ⟨t', et'⟩ := f2 j h2
    rw [et, et']
    exact Ob.RcOp.ge_int _ _ _ _)
  rw [z1, z2] at R
  exact R _ _ _ _ ⟨.bl _, H, I, rfl, q⟩
end
end Z

namespace Z
open PySem PySem.Spec PyProof.Rows L2
/-! ### the end: the law called by the caller -/
/-- the script's list, where the module does not own it -/
def scr (K : PySem.W.Frag) (a : Addr) (vs : List Value) (ns : List Int) : Hp := fun b => if b = a ∧ K.lookup a = none then some (.frz { cls := .type "list", data := .seq vs.toArray } (.lst (ns.map V.int))) else none
section
variable {P : Program} {w : World} {K : PySem.W.Frag} {mg mb : Str → Option Value} {k : Nat} {fa a : Addr} {sp : Sp} {s : Shared} {vs : List Value} {ns : List Int}
theorem scr_or (b : Addr) : scr K a vs ns b = none ∨ (b = a ∧ K.lookup a = none ∧ scr K a vs ns b = some (.frz { cls := .type "list", data := .seq vs.toArray } (.lst (ns.map V.int)))) := by
  by_cases c : b = a ∧ K.lookup a = none
  · exact .inr ⟨c.1, c.2, if_pos c⟩
  · exact .inl (if_neg c)
theorem law_z (kx : K.In s.heap) (hns : s.heap.Ns mainGlobals mg) (hb : s.heap.Ns builtinsNs mb) (hbb : ∀ x : Str, x ≠ "__name__" → mb x = bootBuiltins x) (nl : s.heap.NoLimit) (hg : s.gens = #[])
    (ha : s.heap.get? a = some { cls := .type "list", data := .seq vs.toArray }) (hi : IntsAre vs ns) (hl : ns.length ≤ sizeLine) (hr : Rm k callerA) (F : ∀ base : Heap, K.In base → base.Ns mainGlobals mg → FnZ P w K mg base k fa sp)
    (q : ∀ H : Hp, Only H → SqL K H a (ns.map V.int) → sp [.ref a] H (fun v _ => v = .bl true) E0) :
    codeAny (model P w) callerA (.call (.ref fa) ⟨[.ref a], []⟩) (fun r s' => r = .ok (.ret (.bool true)) ∧ OldK s.heap s'.heap ∧ s'.os = s.os ∧ AllBare s'.gens) s := by
  have rv : Vals (ns.map V.int) vs := vals_ints hi
  have len := hi.length
  have one : ∀ {b u}, scr K a vs ns b = some u → b = a ∧ K.lookup a = none ∧ u = .frz { cls := .type "list", data := .seq vs.toArray } (.lst (ns.map V.int)) := fun {b u} e => by
    rcases scr_or (K := K) (a := a) (vs := vs) (ns := ns) b with z | ⟨z1, z2, z3⟩
    · rw [z] at e; cases e
    · rw [z3] at e; cases e; exact ⟨z1, z2, rfl⟩
  have keep : ∀ {b : Addr} {o : Obj}, s.heap.get? b = some o → scr K a vs ns b = none → (hidT s.heap (scr K a vs ns)).get? b = some o := fun e n => hidT_get e n
  have dict : ∀ {b : Addr} {m : Str → Option Value}, s.heap.Ns b m → (hidT s.heap (scr K a vs ns)).Ns b m := fun {b m} ⟨o, es, ep, e, d, r⟩ => by
    refine ⟨o, es, ep, keep e ?_, d, r⟩
    rcases scr_or (K := K) (a := a) (vs := vs) (ns := ns) b with z | ⟨rfl, _, _⟩
    · exact z
    · rw [ha] at e
      cases e
      cases (show Data.seq vs.toArray _ = Data.dict es ep from d)
  have kb : K.In (hidT s.heap (scr K a vs ns)) := fun b o e => keep (kx b o e) (by
    rcases scr_or (K := K) (a := a) (vs := vs) (ns := ns) b with z | ⟨rfl, z, _⟩
    · exact z
    · rw [z] at e; cases e)
  have ok : HOk P w (scr K a vs ns) s.heap := fun b u e => by
    obtain ⟨rfl, _, rfl⟩ := one e
    exact ⟨ha, by rw [List.length_map]; exact hl, vs, _, rv, ha⟩
  have e0 : Env0 P w K mg (hidT s.heap (scr K a vs ns)) callerA [] s (scr K a vs ns) :=
    ⟨rfl, ⟨kb, dict hns, ⟨mb, dict hb, hbb⟩, nl.elim fun mc h => ⟨mc, dict h.1, h.2⟩⟩, fun b o e => of_hidT e, Nat.le_of_eq (hidT_size _ _), trivial, fun b z => (List.not_mem_nil z).elim, ok, .of_eq hg⟩
  have sq : SqL K (scr K a vs ns) a (ns.map V.int) := by
    cases e : K.lookup a with
    | none => exact .inl (.inr ⟨_, if_pos ⟨rfl, e⟩⟩)
    | some o =>
      have z := kx a o e
      rw [ha] at z
      cases z
      exact .inr ⟨_, vs.toArray, _, e, rfl, rfl, rfl, by rw [List.size_toArray, len]; exact hl, by simpa using rv⟩
  refine codeAny_mono (F _ kb (dict hns) callerA [] s (scr K a vs ns) [.ref a] [.ref a] _ E0 hr e0 (.cons rfl .nil) (q _ (fun b => ?_) sq)) fun r s' z => ?_
  · rcases scr_or (K := K) (a := a) (vs := vs) (ns := ns) b with z | ⟨_, _, z⟩
    · exact .inl z
    · exact .inr ⟨_, _, z⟩
  · match r, z with
    | .error e, ⟨_, _, _, _, _, _, _, _, _, _, _, _, z⟩ => exact z.elim
    | .ok (.ret u), ⟨v, H', os, bare, un, ok', r', e⟩ =>
      cases (show v = .bl true from e)
      cases (show u = Value.bool true from r')
      refine ⟨rfl, OldK.of_keep fun b o e => ?_, os, bare⟩
      rcases scr_or (K := K) (a := a) (vs := vs) (ns := ns) b with z | ⟨_, _, z⟩
      · exact un.keep b o e z (fun h => (List.not_mem_nil h).elim) (fun h => (List.not_mem_nil h).elim)
      · have y1 := (ok b _ z).1
        have y2 := (ok' b _ (un.frzs b _ _ z)).1
        rw [e] at y1
        cases y1
        exact y2
end
/-- the goal that the head leaves -/
theorem walk_z {l : PySem.W.OpenLaw} {n k : Nat} {p : Program} {loose : List Str} {XP : (Str → Option Value) → Heap → Prop} {YP : World → Heap → Prop} {d : DefRec} (hn : l.most = some n) (hn2 : n ≤ sizeLine) (hdf : d.params.defaults = []) (hr : Rm k callerA)
    (F : ∀ (w : World) (mg : Str → Option Value) (fa : Addr) (h : Heap), YP w h → h.Ns mainGlobals mg → mg d.name = some (.ref fa) → ∃ (K : PySem.W.Frag) (sp : Sp), K.In h ∧
      (∀ (H : Hp) (a : Addr) (ns : List Int), ns.length ≤ n → Only H → SqL K H a (ns.map V.int) → sp [.ref a] H (fun v _ => v = .bl true) E0) ∧ ∀ base : Heap, K.In base → base.Ns mainGlobals mg → FnZ l.prog w K mg base k fa sp) :
    PySem.W.WalkO p loose XP YP l.row.toRowW d [] (fun f vs => PySem.call f vs) := by
  refine Att.attach_call hn hdf fun w s₀ s₁ mg mb fa o pm cd doc a vs ns G Y _ _ _ hm ho hi hlen hg => ?_
  obtain ⟨K, sp, kx, q, G2⟩ := F w mg fa _ Y G.T.g hm
  exact law_z kx G.T.g G.T.b G.T.builtins G.T.nolimit hg ho hi (Nat.le_trans hlen hn2) hr G2 fun H o s => q H a ns hlen o s
end Z
namespace Z
open PySem PySem.Spec PyProof.Rows L2
/-! ### repr of data -/
section
variable {P : Program} {w : World} {K : PySem.W.Frag} {mg : Str → Option Value} {base : Heap} {A : Around} {k : Nat} {H : Hp} {Q : VK} {a : Addr} {d : PyData}
theorem e_repr (hr : Rm k A) (hx : Dp K H (.ref a) d) (hs : d.showable = true) (hn : d.hasDict = false) (hd : d.depth ≤ 60) (hz : d.shown.length ≤ sizeLine) (q : Q (.str d.shown) H) : vCB ⟨P, w, K, mg, base, A⟩ (.builtin "repr") [.ref a] H Q := by
  refine ⟨?_⟩
  rintro X ⟨rfl, rfl, rfl, rfl, rfl, hA, hc⟩ pins s σ us I r
  have hA : X.A = A := hA
  subst hA
  obtain ⟨u, rfl, ru⟩ := vals1 r
  cases (show u = Value.ref a from ru)
  obtain ⟨as, R⟩ := Dp.reads I d _ _ hx rfl
  refine repr_of_reads' R hs (PyData.noDict_hsm hn) hr.gs (by have := hr.units; omega) (fun _ _ e => e) (fun h' u tk kk => ?_) hz
  exact ⟨.str d.shown, H, I.kept kk, ⟨u, rfl⟩, q⟩
theorem bools_dp {K : PySem.W.Frag} {H : Hp} : ∀ bs : List Bool, DpAll K H (bs.map V.bl) (bs.map PyData.bool)
  | [] => .nil
  | b :: r => .cons (.bl b) (bools_dp r)
theorem bools_ok : ∀ bs : List Bool, PyData.showableAll (bs.map PyData.bool) = true ∧ PyData.hasDictAll (bs.map PyData.bool) = false ∧ PyData.leavesShortAll 8 (bs.map PyData.bool) = true ∧ PyData.bulkAll (bs.map PyData.bool) = bs.length ∧ PyData.depthAll (bs.map PyData.bool) = 0
  | [] => by simp [PyData.showableAll, PyData.hasDictAll, PyData.leavesShortAll, PyData.bulkAll, PyData.depthAll]
  | b :: r => by
    obtain ⟨h1, h2, h3, h4, h5⟩ := bools_ok r
    simp [PyData.showableAll, PyData.hasDictAll, PyData.leavesShortAll, PyData.bulkAll, PyData.depthAll, PyData.showable, PyData.hasDict, PyData.leavesShort, PyData.bulk, PyData.depth, h1, h2, h3, h4, h5]
    omega
/-- the text of a list of bools -/
def boolsText (bs : List Bool) : Str := (PyData.list (bs.map PyData.bool)).shown
theorem e_reprB (hr : Rm k A) {bs : List Bool} (hx : SqL K H a (bs.map V.bl)) (hl : bs.length ≤ 1000) (q : Q (.str (boolsText bs)) H) : vCB ⟨P, w, K, mg, base, A⟩ (.builtin "repr") [.ref a] H Q := by
  obtain ⟨h1, h2, h3, h4, h5⟩ := bools_ok bs
  refine e_repr (d := .list (bs.map PyData.bool)) hr (.lst hx (bools_dp bs)) (by rw [PyData.showable]; exact h1) (by rw [PyData.hasDict]; exact h2) (by rw [PyData.depth]; omega) (PyData.shown_fits_bulk (B := 8) (by omega) (by omega) (by rw [PyData.leavesShort]; exact h3) (by rw [PyData.bulk, h4]; omega)) q
end
end Z
namespace Z
open PySem PySem.Spec PyProof.Rows L2
/-- what isinstance asks of an own class that stands under object -/
structure Isi (K : PySem.W.Frag) (C : Addr) : Prop where
  ca : PySem.W.findIn K (.ref C) "__class__" = some (some (.builtin "object.__class__"))
  cn : PySem.W.specialIn K (.builtin "object.__class__") "__get__" = some (some (.builtin "getset_descriptor.__get__"))
  ct : PySem.W.takesIn K (.builtin "object.__class__") = some true
  cm : PySem.W.mroIn K C (.type "object") = some true
end Z

namespace Z
open PySem PySem.Spec PyProof.Rows L2
/-! ### the head, its facts as a list of Bools over the part of the heap that the module's names reach -/
abbrev AlZ : Type := Bool × List He.FnW
def obsZ (fn : List He5.DefA) (ex : PySem.W.Frag → List Bool) (K : PySem.W.Frag) : AlZ := ((ex K).all (fun b => b) && fn.all fun d => d.ok K, fn.map fun d => He5.fnA K (d.at_ K))
def valZ (fn : List He5.DefA) : AlZ := (true, fn.map He5.DefA.val)
def SaysZ (fn : List He5.DefA) (ex : PySem.W.Frag → List Bool) (K : PySem.W.Frag) : Prop := obsZ fn ex K = valZ fn
def obsZG (n : Nat) (fn : List He5.DefA) (ex : PySem.W.Frag → List Bool) (g : Addr → Option Obj) : AlZ := obsZ fn ex (He.frG g (He5.asA g n))
def hookZ (n : Nat) (fn : List He5.DefA) (ex : PySem.W.Frag → List Bool) : PySem.W.Hook where
  α := AlZ
  obs := fun s => obsZG n fn ex s.heap.get?
  val := fun _ => valZ fn
  says := fun _ h => ∃ K : PySem.W.Frag, K.In h ∧ SaysZ fn ex K
  of := fun _ _ e => ⟨_, He.frG_in, e⟩
  keeps := fun _ _ _ z k => z.elim fun K y => ⟨K, PySem.W.Frag.In.keeps y.1 k, y.2⟩
theorem obsZ_tree {n : Nat} {fn : List He5.DefA} {ex : PySem.W.Frag → List Bool} (s : PySem.W.SharedT) : obsZG n fn ex (HandSHeadRun.getT s) = (hookZ n fn ex).obs s.abs := by
  rw [show HandSHeadRun.getT s = s.abs.heap.get? from funext (HandSHeadRun.getT_eq s)] <;> rfl
section
variable {fn : List He5.DefA} {ex : PySem.W.Frag → List Bool} {K : PySem.W.Frag}
theorem SaysZ.two (c : SaysZ fn ex K) : (ex K).all (fun b => b) = true ∧ (fn.all fun d => d.ok K) = true := He.ba (congrArg Prod.fst c)
theorem SaysZ.b (c : SaysZ fn ex K) (i : Nat) {b : Bool} (h : (ex K)[i]? = some b) : b = true := List.all_eq_true.mp c.two.1 b (List.mem_of_getElem? h)
theorem SaysZ.d (c : SaysZ fn ex K) (i : Nat) {d : He5.DefA} (h : fn[i]? = some d) : ∃ fd, FunD K d.name d.qual d.params d.body d.scope (d.dvs K) (d.kws K) (d.at_ K) fd := by
  have e := congrArg (fun l : List He.FnW => l[i]?) (congrArg Prod.snd c)
  simp only [obsZ, valZ, List.getElem?_map, h, Option.map_some] at e
  exact He5.DefA.funD (Option.some.inj e) (List.all_eq_true.mp c.two.2 d (List.mem_of_getElem? h))
end
/-! ### more facts -/
section
variable {K : PySem.W.Frag} {C : Addr} {m : Str}
def isiB (K : PySem.W.Frag) (C : Addr) : Bool := He.eqO (PySem.W.findIn K (.ref C) "__class__") (some (some (.builtin "object.__class__"))) && He.eqO (PySem.W.specialIn K (.builtin "object.__class__") "__get__") (some (some (.builtin "getset_descriptor.__get__"))) &&
  decide (PySem.W.takesIn K (.builtin "object.__class__") = some true) && decide (PySem.W.mroIn K C (.type "object") = some true)
theorem isi_ok (h : isiB K C = true) : Isi K C := by
  obtain ⟨h, h4⟩ := He.ba h
  obtain ⟨h, h3⟩ := He.ba h
  obtain ⟨h1, h2⟩ := He.ba h
  exact ⟨He.eqO_ok h1, He.eqO_ok h2, of_decide_eq_true h3, of_decide_eq_true h4⟩
def propB (K : PySem.W.Frag) (C : Addr) (m : Str) : Bool := He.eqO (PySem.W.findIn K (.ref C) m) (some (some (.ref (He.ma K C m)))) && He.eqO (PySem.W.specialIn K (.ref (He.ma K C m)) "__get__") (some (some (.builtin "property.__get__"))) &&
  decide (PySem.W.takesIn K (.ref (He.ma K C m)) = some true) && (match PySem.W.recIn K (He.ma K C m) "property" with
    | some (.ref g :: _) => decide (g = He5.wf K C "property" m)
    | _ => false)
theorem prop_ok (h : propB K C m = true) : PropOf K C m (He.ma K C m) (He5.wf K C "property" m) := by
  obtain ⟨h, h4⟩ := He.ba h
  obtain ⟨h, h3⟩ := He.ba h
  obtain ⟨h1, h2⟩ := He.ba h
  refine ⟨He.eqO_ok h1, He.eqO_ok h2, of_decide_eq_true h3, ?_⟩
  split at h4
  · rename_i g r e
    rw [e, of_decide_eq_true h4]
    exact ⟨r, rfl⟩
  · cases h4
theorem noat_of (h : He.eqO (PySem.W.findIn K (.ref C) m) (some none) = true) : NoAttr K C m := He.eqO_ok h
end
end Z

namespace Z
open PySem PySem.Spec PyProof.Rows L2
/-! ### own dunders of plain instances -/
section
variable {P : Program} {w : World} {K : PySem.W.Frag} {mg : Str → Option Value} {base : Heap} {A : Around} {k j : Nat} {H : Hp} {Q : VK} {a C g dx : Addr} {fs : List (Str × V)} {sp : Sp} {vs : List V} {y : V} {tb : Value}
/-- a def's call at this context, at the one below a unit -/
theorem run_here {X : Cx} {pins : List (Addr × Obj)} {σ : L2.St} {s : Shared} {us : List Value} (F : FnZ X.prog X.w X.K X.mg X.base j g sp) (hr : Rm k X.A) (hj : j ≤ k) (I : Inv X pins σ H s) (r : Vals vs us) (h : sp vs H Q E0) :
    wpAny (model X.prog X.w) X.A (call (.ref g) us) (EP X pins σ Q) X.xe s :=
  wpAny_call (codeAny_mono (F X.A X.stack s H us vs Q E0 (hr.le hj) I.env0 r h) fun r s' z => match r, z with
    | .ok (.ret _), z => I.after z
    | .error _, ⟨_, _, _, _, _, _, _, _, _, _, _, _, z⟩ => z.elim)
theorem run_in1 {X : Cx} {pins : List (Addr × Obj)} {σ : L2.St} {s : Shared} {us : List Value} (F : FnZ X.prog X.w X.K X.mg X.base j g sp) (hr : Rm k X.A) (hj : j + 1 ≤ k) (I : Inv X pins σ H s) (r : Vals vs us) (h : sp vs H Q E0) :
    wpAny (model X.prog X.w) X.A.in1 (call (.ref g) us) (EP X pins σ Q) X.xe s :=
  wpAny_call (codeAny_mono (F X.A.in1 X.stack s H us vs Q E0 (hr.le hj).step I.env0.in1 r h) fun r s' z => match r, z with
    | .ok (.ret _), z => I.after z
    | .error _, ⟨_, _, _, _, _, _, _, _, _, _, _, _, z⟩ => z.elim)
def isStr (Q : VK) : VK := fun v H => match v with | .str t => Q (.str t) H | _ => False
def isBl (Q : Bool → Hp → Prop) : VK := fun v H => match v with | .bl b => Q b H | _ => False
theorem back_str {X : Cx} {pins : List (Addr × Obj)} {σ : L2.St} {v : Value} {s : Shared} (h : EP X pins σ (isStr Q) v s) : PySem.W.StrBack (EP X pins σ Q) v s := by
  obtain ⟨x, H1, I, rx, q⟩ := h
  cases x with
  | str t => obtain ⟨tk, rfl⟩ := rx; exact ⟨.str t, H1, I, ⟨tk, rfl⟩, q⟩
  | _ => exact q.elim
/-- repr(x), str(x) of an own class -/
theorem e_reprOwn (hr : Rm k A) (ea : H a = some (.ins C dx fs)) (m : Meth K C "__repr__" g) (F : FnZ P w K mg base j g sp) (h : sp [.ref a] H (isStr Q) E0) (hj : j + 1 ≤ k := by decide) : vCB ⟨P, w, K, mg, base, A⟩ (.builtin "repr") [.ref a] H Q := by
  refine ⟨?_⟩
  rintro X ⟨rfl, rfl, rfl, rfl, rfl, hA, hc⟩ pins s σ us I r
  have hA : X.A = A := hA
  subst hA
  obtain ⟨u, rfl, ru⟩ := vals1 r
  cases (show u = Value.ref a from ru)
  obtain ⟨mA, O, _, _, _, _⟩ := ins_get I.hok ea
  obtain ⟨od, J, _⟩ := O.look
  obtain ⟨mf, hF⟩ := I.fr
  exact PySem.W.repr_K (by have := hr.units; show X.A.units + 1 < _; omega) hF I.ok.mod.kin J m.at_ m.fn (wpAny_mono (run_in1 F hr hj I r h) (fun _ _ z => back_str z) fun _ _ z => z)
/-- len(x) -/
theorem e_lenOwn (hr : Rm k A) (ea : H a = some (.ins C dx fs)) (m : Meth K C "__len__" g) (F : FnZ P w K mg base j g sp) (h : sp [.ref a] H (fun v H' => ∃ i : Int, v = .int i ∧ 0 ≤ i ∧ i < 2 ^ 63 ∧ Q (.int i) H') E0) (hj : j + 1 ≤ k := by decide) : vCB ⟨P, w, K, mg, base, A⟩ (.builtin "len") [.ref a] H Q := by
  refine ⟨?_⟩
  rintro X ⟨rfl, rfl, rfl, rfl, rfl, hA, hc⟩ pins s σ us I r
  have hA : X.A = A := hA
  subst hA
  obtain ⟨u, rfl, ru⟩ := vals1 r
  cases (show u = Value.ref a from ru)
  obtain ⟨mA, O, _, _, _, _⟩ := ins_get I.hok ea
  obtain ⟨od, J, _⟩ := O.look
  obtain ⟨mf, hF⟩ := I.fr
  refine PySem.W.len_K hF I.ok.mod.kin J m.at_ m.fn (wpAny_mono (run_in1 F hr hj I r h) (fun v s' z => ?_) fun _ _ z => z)
  obtain ⟨x, H1, I1, rx, i, rfl, h0, h1, q⟩ := z
  obtain ⟨t, rfl⟩ := rx
  exact ⟨⟨h0, h1⟩, .int i, H1, I1.tok _, ⟨_, rfl⟩, q⟩
/-- truth by __bool__; without __bool__ and __len__ -/
theorem e_truOwn {R : Bool → Hp → Prop} (hr : Rm k A) (ea : H a = some (.ins C dx fs)) (m : Meth K C "__bool__" g) (F : FnZ P w K mg base j g sp) (h : sp [.ref a] H (isBl R) E0) (hj : j ≤ k := by decide) : vTru ⟨P, w, K, mg, base, A⟩ (.ref a) H R := by
  refine ⟨?_⟩
  rintro X ⟨rfl, rfl, rfl, rfl, rfl, hA, hc⟩ pins s σ u I r
  have hA : X.A = A := hA
  subst hA
  cases (show u = Value.ref a from r)
  obtain ⟨mA, O, _, _, _, _⟩ := ins_get I.hok ea
  obtain ⟨od, J, _⟩ := O.look
  obtain ⟨mf, hF⟩ := I.fr
  refine PySem.W.truthy_K hF I.ok.mod.kin J m.at_ m.fn (wpAny_mono (run_here F hr hj I (.cons r .nil) h) (fun v s' z => ?_) fun _ _ z => z)
  obtain ⟨x, H1, I1, rx, q⟩ := z
  cases x with
  | bl b => cases (show v = Value.bool b from rx); exact ⟨H1, I1, q⟩
  | _ => exact q.elim
theorem e_tru0 {n : En} {R : Bool → Hp → Prop} (ea : H a = some (.ins C dx fs)) (m : NoAttr n.K C "__bool__") (l : NoAttr n.K C "__len__") (q : R true H) : vTru n (.ref a) H R := by
  refine ⟨?_⟩
  intro X o pins s σ u I r
  cases (show u = Value.ref a from r)
  rw [← o.K] at m l
  obtain ⟨mA, O, _, _, _, _⟩ := ins_get I.hok ea
  obtain ⟨od, J, _⟩ := O.look
  obtain ⟨mf, hF⟩ := I.fr
  exact PySem.W.truthy_K0 hF I.ok.mod.kin J m l ⟨H, I, q⟩
theorem bool_meets0 {K : PySem.W.Frag} {C a : Addr} {ox : Obj} {od : Option Obj} (m : NoAttr K C "__bool__") (l : NoAttr K C "__len__") :
    Meets (Builtin.«bool.__new__» ⟨[.type "bool", .ref a], []⟩) (fun _ R s => (PySem.W.InstAt s.heap a ox C od ∧ ∃ (h0 : Heap) (L : Addr) (mm : Str → Option Value), K.In h0 ∧ Fr h0 L s.heap mm) ∧ R (.ok (.ret (.bool true))) s) :=
  Meets.of_wp fun prog w A R s hs => by
    obtain ⟨⟨hi, h0, L, mm, hk, hF⟩, hs⟩ := hs
    have f1 := F.conv_sub_bool
    have m1 : PySem.W.findIn K (.ref C) "__bool__" = some none := m
    have l1 : PySem.W.findIn K (.ref C) "__len__" = some none := l
    obtain ⟨hp, gg, d, tk, os⟩ := s
    repeat (any_goals (first | assumption | (with_reducible refine PySem.W.truthy_K0 hF hk hi m1 l1 ?_) | wp_step))
    all_goals first | exact ⟨_, rfl, hs⟩ | exact hs | skip
theorem e_bool0 {n : En} (ea : H a = some (.ins C dx fs)) (m : NoAttr n.K C "__bool__") (l : NoAttr n.K C "__len__") (q : Q (.bl true) H) : vCB n (.type "bool") [.ref a] H Q := by
  refine ⟨?_⟩
  intro X o pins s σ us I r
  obtain ⟨u, rfl, ru⟩ := vals1 r
  cases (show u = Value.ref a from ru)
  rw [← o.K] at m l
  obtain ⟨mA, O, _, _, _, _⟩ := ins_get I.hok ea
  obtain ⟨od, J, _⟩ := O.look
  obtain ⟨mf, hF⟩ := I.fr
  exact call_bool_1 (bool_meets0 m l) ⟨⟨J, _, _, mf, I.ok.mod.kin, hF⟩, rfl, .bl true, H, I, rfl, q⟩
end
end Z

namespace Z
open PySem PySem.Spec PyProof.Rows L2
section
variable {P : Program} {w : World} {K : PySem.W.Frag} {mg : Str → Option Value} {base : Heap} {A : Around} {k j : Nat} {H : Hp} {Q : VK} {a C g dx : Addr} {fs : List (Str × V)} {sp : Sp} {vs : List V} {y : V} {tb : Value}
/-- x op y, x of an own class with the dunder, y of a type that is no class under x's -/
theorem e_cmpX (hr : Rm k A) {op : CmpOp} (hop : ∀ a b, compareOp op a b = richCompare op a b) (ea : H a = some (.ins C dx fs)) (ty : TyX K H y tb) (hn : PySem.W.notFirst K C tb = true) (hm : Meth K C (cmpInfo op).2.1 g) (F : FnZ P w K mg base j g sp)
    (h : sp [.ref a, y] H Q E0) (hj : j ≤ k := by decide) : vOp ⟨P, w, K, mg, base, A⟩ (compareOp op) (.ref a) y H Q := by
  refine ⟨?_⟩
  rintro X ⟨rfl, rfl, rfl, rfl, rfl, hA, hc⟩ pins s σ v u I rv ru
  have hA : X.A = A := hA
  subst hA
  cases (show v = Value.ref a from rv)
  obtain ⟨mA, O, _, _, _, _⟩ := ins_get I.hok ea
  obtain ⟨od, J, _⟩ := O.look
  obtain ⟨Pt, kit, hP, _⟩ := kit_of I ru ty
  obtain ⟨m, hF⟩ := I.fr
  rw [hop]
  refine PySem.W.cmp_K (op := op) (tb := tb) hr.units0 hF I.ok.mod.kin J (kit.ty _ _ I.kIn hP) hn hm.at_ hm.fn ?_
  refine wpAny_mono (run_here (us := [.ref a, u]) (vs := [.ref a, y]) F hr hj I (.cons rfl (.cons ru .nil)) h) (fun w s' z => ?_) fun _ _ x => x
  obtain ⟨z', H', I', rz, qz⟩ := z
  exact SlX.cmpback rz ⟨z', H', I', rz, qz⟩
/-- x != y by __eq__ alone -/
theorem ne_run {prog : Program} {s : Shared} {E : Value → Shared → Prop} {h₀ : Heap} {L : Addr} {m : Str → Option Value} {ox : Obj} {od : Option Obj} {b : Value} {R : Value → Shared → Prop} (hu : A.in1.units + 1 < cLine) (F : Fr h₀ L s.heap m) (X₀ : K.In h₀) (I : PySem.W.InstAt s.heap a ox C od)
    (hb : PySem.W.Looks (model prog w) s.heap (typeOf b) tb) (hn : PySem.W.notFirst K C tb = true) (hs : PySem.W.findIn K (.ref C) "__ne__" = some (some (.builtin "object.__ne__"))) (hm : PySem.W.mroIn K C (.type "object") = some true)
    (he : PySem.W.findIn K (.ref C) "__eq__" = some (some (.ref g))) (hf : PySem.W.isFn K (.ref g) = true)
    (h : wpAny (model prog w) A.in1 (call (.ref g) [.ref a, b]) (fun v s' => ∃ c, v = .bool c ∧ R (.bool (!c)) s') E s) : wpAny (model prog w) A (richCompare .NotEq (.ref a) b) R E s := by
  have X := X₀.keeps F.keep
  have inner : wpAny (model prog w) A (call (.builtin "object.__ne__") [.ref a, b]) (fun v s' => (∃ c, v = .bool c) ∧ R v s') E s := by
    refine wpAny_call (codeAny_call_builtin (by decide +kernel) PySem.F.cmpEntry_ne (PySem.W.check_slot (i := "object.__ne__") (owner := "object") (n := "__ne__") PySem.F.cmpKind_ne PySem.F.cmpSplit_ne (I.type.andThen (PySem.W.looks_mroIn X hm)) (PySem.F.cmpArgs_ne _ _) ?_))
    unfold Builtin.«object.__ne__»
    refine wpAny_bind (m := slotArgs "__ne__" 1 _) (wpAny_pure ?_)
    refine wpAny_bind (m := cRoomFor _ _) (wpAny_cRoomFor (by omega) ?_)
    refine wpAny_bind (m := callSpecialIfBound? (.ref a) (Str.ofString "__eq__") _) (PySem.W.ifBound_K X I he hf (wpAny_mono h (fun v s' hq => ?_) fun _ _ y => y))
    obtain ⟨c, rfl, q⟩ := hq
    exact wpAny_bind (m := truthy (.bool c)) (wpAny_pure (wpAny_pure ⟨⟨_, rfl⟩, q⟩))
  have one : wpAny (model prog w) A (tryCompare (.ref a) "__ne__" b) (fun r s' => ∃ v, r = some v ∧ R v s') E s := by
    unfold tryCompare
    refine wpAny_bind ?_
    simp only [callSpecialIfBound?, bindSpecialIfBound?]
    refine wpAny_holding (wpAny_bind (wpAny_bind (wpAny_bind (I.type.here ((PySem.W.looks_findIn X hs).here ?_)))))
    refine wpAny_bind (wpAny_askSetting (wpAny_ite ?_))
    have bnd : bindSpecial (.builtin "object.__ne__") (.ref a) = pure (.builtin "object.__ne__", [.ref a]) := by first | rfl | kernel_rfl | decide +kernel
    have fin : ∀ Z : Option Value → Shared → Prop, (∀ v s', (∃ c, v = .bool c) ∧ R v s' → Z (some v) s') → wpAny (model prog w) A (call (.builtin "object.__ne__") ([.ref a] ++ [b]) >>= fun v => pure (some v)) Z E s :=
      fun Z hz => wpAny_bind (wpAny_mono inner (fun v s' z => wpAny_pure (hz v s' z)) fun _ _ h' => h')
    split
    · rw [bnd]
      refine wpAny_bind (wpAny_pure (wpAny_pure (fin _ fun v s' z => ?_)))
      obtain ⟨⟨c, rfl⟩, q⟩ := z
      exact wpAny_pure ⟨_, rfl, q⟩
    · rw [bnd]
      refine wpAny_tryCatch (wpAny_bind (wpAny_pure (wpAny_pure (fin _ fun v s' z => ?_))))
      obtain ⟨⟨c, rfl⟩, q⟩ := z
      exact wpAny_pure ⟨_, rfl, q⟩
  unfold richCompare
  simp only [oneThing_ref]
  refine wpAny_holding (wpAny_bind (wpAny_cRoomFor (by have : A.units ≤ A.in1.units := Nat.le_succ _; omega) ?_))
  refine wpAny_bind (I.type.here (wpAny_bind (hb.here ?_)))
  have fin : wpAny (model prog w) A (tryCompare (.ref a) "__ne__" b) (fun r s' => ∃ v, r = some v ∧ R v s') E s := one
  split
  · rename_i q
    have e : PySem.W.subIn K tb (.ref C) = some false := by
      rcases Bool.or_eq_true_iff.mp hn with e | e
      · rw [beq_iff_eq.mp e] at q; simp at q
      · exact beq_iff_eq.mp e
    refine wpAny_bind ((PySem.W.looks_subIn X e).here ?_)
    simp only [Bool.false_eq_true, if_false]
    refine wpAny_bind (wpAny_mono fin (fun r s' z => ?_) fun _ _ e => e)
    obtain ⟨v, rfl, hq⟩ := z
    exact wpAny_pure hq
  · refine wpAny_bind (wpAny_pure ?_)
    simp only [Bool.false_eq_true, if_false]
    refine wpAny_bind (wpAny_mono fin (fun r s' z => ?_) fun _ _ e => e)
    obtain ⟨v, rfl, hq⟩ := z
    exact wpAny_pure hq
/-- what != asks of an own class without __ne__ -/
structure NeC (K : PySem.W.Frag) (C : Addr) : Prop where
  at_ : PySem.W.findIn K (.ref C) "__ne__" = some (some (.builtin "object.__ne__"))
  ob : PySem.W.mroIn K C (.type "object") = some true
def neB (K : PySem.W.Frag) (C : Addr) : Bool := He.eqO (PySem.W.findIn K (.ref C) "__ne__") (some (some (.builtin "object.__ne__"))) && decide (PySem.W.mroIn K C (.type "object") = some true)
theorem ne_ok {K : PySem.W.Frag} {C : Addr} (h : neB K C = true) : NeC K C := ⟨He.eqO_ok (He.ba h).1, of_decide_eq_true (He.ba h).2⟩
theorem e_neX (hr : Rm k A) (ea : H a = some (.ins C dx fs)) (ty : TyX K H y tb) (hn : PySem.W.notFirst K C tb = true) (hc : NeC K C) (hm : Meth K C "__eq__" g) (F : FnZ P w K mg base j g sp)
    (h : sp [.ref a, y] H (isBl fun b H' => Q (.bl (!b)) H') E0) (hj : j + 1 ≤ k := by decide) : vOp ⟨P, w, K, mg, base, A⟩ (compareOp .NotEq) (.ref a) y H Q := by
  refine ⟨?_⟩
  rintro X ⟨rfl, rfl, rfl, rfl, rfl, hA, hcalm⟩ pins s σ v u I rv ru
  have hA : X.A = A := hA
  subst hA
  cases (show v = Value.ref a from rv)
  obtain ⟨mA, O, _, _, _, _⟩ := ins_get I.hok ea
  obtain ⟨od, J, _⟩ := O.look
  obtain ⟨Pt, kit, hP, _⟩ := kit_of I ru ty
  obtain ⟨m, hF⟩ := I.fr
  show wpAny _ _ (richCompare .NotEq (.ref a) u) _ _ _
  refine ne_run (tb := tb) (by have := hr.units; show X.A.units + 1 + 1 < _; omega) hF I.ok.mod.kin J (kit.ty _ _ I.kIn hP) hn hc.at_ hc.ob hm.at_ hm.fn ?_
  refine wpAny_mono (run_in1 (us := [.ref a, u]) (vs := [.ref a, y]) F hr hj I (.cons rfl (.cons ru .nil)) h) (fun w s' z => ?_) fun _ _ x => x
  obtain ⟨z', H', I', rz, qz⟩ := z
  cases z' with
  | bl b => cases (show w = Value.bool b from rz); exact ⟨b, rfl, .bl (!b), H', I', rfl, qz⟩
  | _ => exact qz.elim
end
end Z

namespace Z
open PySem PySem.Spec PyProof.Rows L2
/-! ### calls with keywords -/
structure KBz (K : PySem.W.Frag) (fd : FuncData) (ps : List Str) (n : Nat) (ks : List Str) (g : ∀ {α : Type}, List α → List α → List α) : Prop where
  to : ∀ (s : Shared) (us ws : List Value), us.length = n → ws.length = ks.length → BindsTo s fd ⟨us, ks.zip ws⟩ (ps.zip (g us ws))
  rel : ∀ {vs : List V} {us : List Value} {zs : List V} {ws : List Value}, vs.length = n → zs.length = ks.length → Vals vs us → Vals zs ws → Vals (g vs zs) (g us ws)
theorem kb_of {K : PySem.W.Frag} {x qual : Str} {st : Stmt} {kws : List (Str × V)} {f : Addr} {fd : FuncData} {ps : List Str} {n : Nat} {ks : List Str} {g : ∀ {α : Type}, List α → List α → List α} (F : FunD K x qual (defArgs st) (defBody st) (defScope st) [] kws f fd)
    (h : ∀ (kV doc pm : Value) (an : Option Addr) (cdv ct : Value) (us ws : List Value), us.length = n → ws.length = ks.length → bindArgs (PySem.W.fnOf x qual (defArgs st) (defBody st) (defScope st) .none kV doc pm an cdv ct) ⟨us, ks.zip ws⟩ = pure (ps.zip (g us ws)))
    (r : ∀ {vs : List V} {us : List Value} {zs : List V} {ws : List Value}, vs.length = n → zs.length = ks.length → Vals vs us → Vals zs ws → Vals (g vs zs) (g us ws)) : KBz K fd ps n ks g := by
  obtain ⟨oc, od, dV, kV, doc, pm, an, cdv, ct, osl, rfl, lk, hcd, hD, hK⟩ := F.ex
  rcases hD with ⟨_, rfl⟩ | ⟨e, _⟩
  · exact ⟨fun s us ws l1 l2 => .of_eq (h kV doc pm an cdv ct us ws l1 l2), r⟩
  · exact absurd rfl e
structure vCallK (e : En) (f : Value) (ks : List Str) (xs zs : List V) (W : XK) (H : Hp) (Q : VK) : Prop where
  run : ∀ (X : Cx), Of e X → ∀ (pins : List (Addr × Obj)) (s : Shared) (σ : L2.St) (us ws : List Value), (∀ cls d H', W cls d H' → xw X σ cls d H') → Inv X pins σ H s → Vals xs us → Vals zs ws → wpAny (model X.prog X.w) X.A (call f us (ks.zip ws)) (EP X pins σ Q) X.xe s
def tCallK (e : En) (W : WX) (u : Value) (ks : List Str) (t tk : TA) : TE := fun σ H Q => t σ H fun vs H1 => tk σ H1 fun zs H2 => vCallK e u ks vs zs (fun c d H' => W c d σ H') H2 Q
section
variable {n : En} {X : Cx} {W : WX} {e : Expr} {es : List Expr} {kws : List Keyword} {t tk' : TA} {pos p : Pos} {x : Str} {ks : List Str}
theorem z_callK (o : Of n X) (tk : Takes X W) {u : Value} (hm : X.mg x = some u) (hk : PySem.W.keepIn X.K u = true) (ha : PA X (e :: es) t) (hkw : PK X kws tk') (hg : Gl X x := by rfl) (hdb : (x == ("__debug__" : Str)) = false := by decide)
    (hall : (backToKw pos (keywordEach kws X.env)).all (·.1.isSome) = true := by rfl) (hks : (backToKw pos (keywordEach kws X.env)).filterMap (·.1) = ks := by rfl) (he : starEach (e :: es) X.env = (false, eval e X.env) :: starEach es X.env := by rfl)
    (hpl : ((backTo pos (starEach (e :: es) X.env)).any (·.1) || (backToKw pos (keywordEach kws X.env)).any (·.1.isNone)) = false := by rfl) : PE X (.Call (.Name x p) (e :: es) kws pos) (tCallK n W u ks t tk') := by
  refine ⟨fun pins s σ H Q I h => ?_⟩
  refine wpAny_Call_Name_kw (ld_glob I hg hm ?_ hdb)
  refine PySem.W.callWith_KW (h₀ := X.base) I.ok.mod.kin hk hall (thn (ha.run pos pins s σ H _ I h) fun us s1 ⟨vs, H1, I1, r, q⟩ => ?_) hpl he
  refine thn (hkw.run pos pins s1 σ H1 _ I1 q) fun ws s2 ⟨zs, H2, I2, rz, q2⟩ => ⟨I2.kIn, ?_⟩
  rw [hks]
  exact q2.run X o pins s2 σ us ws (fun _ _ _ w => xw_of tk w) I2 r rz
theorem z_callK0 (o : Of n X) (tk : Takes X W) {u : Value} (hm : X.mg x = some u) (hk : PySem.W.keepIn X.K u = true) (hkw : PK X kws tk') (hg : Gl X x := by rfl) (hdb : (x == ("__debug__" : Str)) = false := by decide)
    (hall : (backToKw pos (keywordEach kws X.env)).all (·.1.isSome) = true := by rfl) (hks : (backToKw pos (keywordEach kws X.env)).filterMap (·.1) = ks := by rfl)
    (hpl : ((backTo pos (starEach [] X.env)).any (·.1) || (backToKw pos (keywordEach kws X.env)).any (·.1.isNone)) = false := by rfl) : PE X (.Call (.Name x p) [] kws pos) (tCallK n W u ks tNil tk') := by
  refine ⟨fun pins s σ H Q I h => ?_⟩
  refine wpAny_Call_Name_kw (ld_glob I hg hm ?_ hdb)
  refine PySem.W.callWith_KW0 (h₀ := X.base) I.ok.mod.kin hk hall ?_ hpl
  refine thn (hkw.run pos pins s σ H _ I h) fun ws s2 ⟨zs, H2, I2, rz, q2⟩ => ⟨I2.kIn, ?_⟩
  rw [hks]
  exact q2.run X o pins s2 σ [] ws (fun _ _ _ w => xw_of tk w) I2 .nil rz
end
section
variable {P : Program} {w : World} {K : PySem.W.Frag} {mg : Str → Option Value} {base : Heap} {A : Around} {k j m : Nat} {E W : XK} {f C : Addr} {fd : FuncData} {ps ks : List Str} {sp : Sp} {vs zs : List V} {H : Hp} {Q : VK} {g : ∀ {α : Type}, List α → List α → List α}
theorem callk_z (hr : Rm k A) (F : FnB P w K mg base j f fd ps sp) (B : KBz K fd ps m ks g) (l1 : vs.length = m) (l2 : zs.length = ks.length) (h : sp (g vs zs) H Q W) (hj : j ≤ k := by decide) : vCallK ⟨P, w, K, mg, base, A⟩ (.ref f) ks vs zs W H Q := by
  refine ⟨?_⟩
  rintro X ⟨rfl, rfl, rfl, rfl, rfl, hA, hc⟩ pins s σ us ws hW I r rz
  have hA : X.A = A := hA
  subst hA
  refine wpAny_call (codeAny_mono (F X.A X.stack s H ⟨us, ks.zip ws⟩ (g us ws) (g vs zs) Q W (hr.le hj) I.env0 (B.to s us ws (r.length.symm.trans l1) (rz.length.symm.trans l2)) (B.rel l1 l2 r rz) h) fun r s' hq => ?_)
  match r, hq with
  | .error e, ⟨a, B, H', cls, d, e1, fl, hok, ub, na, os, ag, hE⟩ => exact takes_w e s' (XE.of_call (W := fun cls d σ H => xw X σ cls d H) (E := xw X σ) I (fun cls d H' h => h) ⟨a, B, H', cls, d, e1, fl, hok, ub, na, os, ag, hW _ _ _ hE⟩)
  | .ok (.ret u), hq => exact I.after hq
theorem guards_make (C : Addr) (us : List Value) (kw : List (Str × Value)) : Code.guards (.builtin "type.__call__" ⟨.ref C :: us, kw⟩) = [] :=
  if_neg (by rw [show Code.isGuard (.builtin "type.__call__" ⟨.ref C :: us, kw⟩) = false from (by decide +kernel : guardIds.contains "type.__call__" = false)]; decide)
theorem guards_under_make {A : Around} {C : Addr} {us : List Value} {kw : List (Str × Value)} (h : A.guards = some []) : (A.under (.builtin "type.__call__" ⟨.ref C :: us, kw⟩)).guards = some [] := by
  show pushGuards (Code.guards (.builtin "type.__call__" ⟨.ref C :: us, kw⟩)) A.guards = some []
  rw [guards_make]
  exact h
theorem makek_z {fI : Addr} (hr : Rm k A) (M : Mk K C fI) (F : FnB P w K mg base j fI fd ps sp) (B : KBz K fd ps (m + 1) ks g) (l1 : vs.length = m) (l2 : zs.length = ks.length)
    (h : ∀ x dx, H x = none → H dx = none → dx ≠ x → sp (g (.ref x :: vs) zs) (upd (upd H dx (.own x)) x (.ins C dx [])) (fun v H2 => v = .non ∧ Q (.ref x) H2) W) (hj : j + 1 ≤ k := by decide) : vCallK ⟨P, w, K, mg, base, A⟩ (.ref C) ks vs zs W H Q := by
  refine ⟨?_⟩
  rintro X ⟨rfl, rfl, rfl, rfl, rfl, hA, hc⟩ pins s σ us ws hW I r rz
  have hA : X.A = A := hA
  subst hA
  have hq := h (s.heap.objs.size + 1) s.heap.objs.size (I.hok.fresh (Nat.le_succ _)) (I.hok.fresh (Nat.le_refl _)) (Nat.ne_of_lt (Nat.lt_succ_self _))
  have I2 := Inv.made (C := C) I
  have r1 : Vals (V.ref (s.heap.objs.size + 1) :: vs) (Value.ref (s.heap.objs.size + 1) :: us) := .cons rfl r
  have n1 : (Value.ref (s.heap.objs.size + 1) :: us).length = m + 1 := by rw [List.length_cons, ← r.length, l1]
  have hrm : Rm j (X.A.under (.builtin "type.__call__" ⟨.ref C :: us, ks.zip ws⟩)) := ⟨(hr.le hj).toRoom.make C us (ks.zip ws), guards_under_make hr.gs⟩
  refine wpAny_call (make_map (f := fI) I.kIn M.makes M.init (beq_iff_eq.mp M.fn) (codeAny_mono (F _ X.stack _ _ ⟨Value.ref (s.heap.objs.size + 1) :: us, ks.zip ws⟩ (g (Value.ref (s.heap.objs.size + 1) :: us) ws) _ _ W hrm
    (I2.env0.make C us (ks.zip ws)) (B.to _ _ ws n1 (rz.length.symm.trans l2)) (B.rel (by rw [List.length_cons, l1]) l2 r1 rz) hq) fun r s' hq' => ?_))
  match r, hq' with
  | .error e, ⟨a, B, H', cls, d, e1, fl, hok, ub, na, os, ag, hE⟩ => exact takes_w e s' (XE.of_call (W := fun cls d σ H => xw X σ cls d H) (E := xw X σ) I2 (fun cls d H' h => h) ⟨a, B, H', cls, d, e1, fl, hok, ub, na, os, ag, hW _ _ _ hE⟩)
  | .ok (.ret u), hq' =>
    obtain ⟨v, H', I3, rv, ev, q3⟩ := I2.after hq'
    subst ev
    exact ⟨rv, ⟨V.ref (s.heap.objs.size + 1), H', I3, rfl, q3⟩⟩
end
/-! ### f-strings, texts -/
structure vFmt (x : V) (H : Hp) (Q : VK) : Prop where
  run : (∃ y : Str, x = .str y ∧ y.length ≤ sizeLine ∧ Q (.str y) H) ∨ ∃ i : Int, x = .int i ∧ i.natAbs.log2 < 1920 ∧ Q (.str (toString i)) H
def uFmt (te : TE) : TE := fun σ H Q => te σ H fun x H1 => vFmt x H1 Q
theorem z_fmt {X : Cx} {e : Expr} {te : TE} {pos : Pos} (he : PE X e te) : PE X (.FormattedValue e (-1) none pos) (uFmt te) := by
  have e : uFmt te = tFmt te := by funext σ H Q; exact congrArg (te σ H) (funext fun x => funext fun H1 => propext ⟨fun h => h.run, fun h => ⟨h⟩⟩)
  rw [e]; exact pe_fmt he
/-- the parts of a text put together -/
structure vCat (acc : Str) (x : V) (R : Str → Prop) : Prop where
  run : ∃ y : Str, x = .str y ∧ (acc ++ y).length ≤ sizeLine ∧ R (acc ++ y)
def uJs : List TE → Str → L2.St → Hp → (Str → Hp → Prop) → Prop
  | [], acc, _, H, Q => Q acc H
  | t :: ts, acc, σ, H, Q => t σ H fun x H1 => vCat acc x fun z => uJs ts z σ H1 Q
theorem uJs_eq : ∀ (ts : List TE) (acc : Str) (σ : L2.St) (H : Hp) (Q : Str → Hp → Prop), uJs ts acc σ H Q = tJs ts acc σ H Q
  | [], _, _, _, _ => rfl
  | t :: ts, acc, σ, H, Q => by
    show t σ H _ = t σ H _
    congr 1
    funext x H1
    refine propext ⟨fun h => ?_, fun h => ?_⟩
    · obtain ⟨y, e, l, q⟩ := h.run
      rw [uJs_eq] at q
      exact ⟨y, e, l, q⟩
    · obtain ⟨y, e, l, q⟩ := h
      refine ⟨y, e, l, ?_⟩
      show uJs ts _ σ H1 Q
      rw [uJs_eq]; exact q
def uJoin (ts : List TE) : TE := fun σ H Q => uJs ts Str.empty σ H fun out H1 => Q (.str out) H1
theorem z_joined {X : Cx} {v1 v2 : Expr} {rest : List Expr} {ts : List TE} {pos : Pos} (h : PJ X (v1 :: v2 :: rest) ts) : PE X (.JoinedStr (v1 :: v2 :: rest) pos) (uJoin ts) := by
  have e : uJoin ts = fun σ H Q => tJs ts Str.empty σ H fun out H1 => Q (.str out) H1 := by funext σ H Q; exact uJs_eq _ _ _ _ _
  rw [e]; exact pe_joined h
section
variable {n : En} {H : Hp} {Q : VK} {x y : V} {i : Int} {t u : Str} {R : Str → Prop}
theorem e_fmtI (h : i.natAbs.log2 < 1920) (q : Q (.str (toString i)) H) : vFmt (.int i) H Q := ⟨.inr ⟨i, rfl, h, q⟩⟩
theorem e_fmtS (h : t.length ≤ sizeLine) (q : Q (.str t) H) : vFmt (.str t) H Q := ⟨.inl ⟨t, rfl, h, q⟩⟩
theorem e_part (h : (t ++ u).length ≤ sizeLine) (q : R (t ++ u)) : vCat t (.str u) R := ⟨u, rfl, h, q⟩
theorem e_strI (h : i.natAbs.log2 < 1920) (q : Q (.str (toString i)) H) : vCB n (.type "str") [.int i] H Q := vCB_of (fun _ _ => call_str_int) ⟨i, rfl, h, q⟩
theorem e_strS (q : Q (.str t) H) : vCB n (.type "str") [.str t] H Q := vCB_of (fun _ _ => SkE.call_str_str) ⟨t, rfl, q⟩
theorem e_addS (h : t.length + u.length ≤ sizeLine) (q : Q (.str (t ++ u)) H) : vOp n (binaryOp .Add) (.str t) (.str u) H Q := vOp_of (fun _ _ => op_add_str) ⟨t, u, rfl, rfl, h, q⟩
theorem e_reprI (h : i.natAbs.log2 < 1920) (q : Q (.str (toString i)) H) : vCB n (.builtin "repr") [.int i] H Q := vCB_of (fun _ _ => SkE.call_repr_int) ⟨i, rfl, h, q⟩
theorem e_reprBl {b : Bool} (q : Q (.str (if b then Str.ofString "True" else Str.ofString "False")) H) : vCB n (.builtin "repr") [.bl b] H Q := by
  refine ⟨fun X o pins s σ us I r => ?_⟩
  obtain ⟨v, rfl, rv⟩ := vals1 r
  cases (show v = Value.bool b from rv)
  exact PySem.P.repr_of_bool ⟨.str _, H, I.tok _, ⟨_, rfl⟩, q⟩
theorem e_reprN (q : Q (.str (Str.ofString "None")) H) : vCB n (.builtin "repr") [.non] H Q := by
  refine ⟨fun X o pins s σ us I r => ?_⟩
  obtain ⟨v, rfl, rv⟩ := vals1 r
  cases (show v = Value.none from rv)
  exact PySem.P.repr_of_none ⟨.str _, H, I.tok _, ⟨_, rfl⟩, q⟩
theorem e_reprS (h : (reprText t).length ≤ sizeLine) (q : Q (.str (reprText t)) H) : vCB n (.builtin "repr") [.str t] H Q := by
  refine ⟨fun X o pins s σ us I r => ?_⟩
  obtain ⟨v, rfl, tk, rfl⟩ := vals1 r
  exact PySem.P.repr_of_str ⟨.str _, H, I.tok _, ⟨_, rfl⟩, q⟩ h
theorem e_bool {b : Bool} (q : Q (.bl b) H) : vCB n (.type "bool") [.bl b] H Q := vCB_of (fun _ _ => call_bool1) (.inr ⟨b, rfl, q⟩)
theorem e_boolI (q : Q (.bl (i != 0)) H) : vCB n (.type "bool") [.int i] H Q := vCB_of (fun _ _ => call_bool1) (.inl ⟨i, rfl, q⟩)
end
end Z

namespace Z
open PySem PySem.Spec PyProof.Rows L2
theorem FnB.z0 {P : Program} {w : World} {K : PySem.W.Frag} {mg : Str → Option Value} {base : Heap} {k : Nat} {f : Addr} {fd : FuncData} {ps : List Str} {sp : Sp} (F : FnB P w K mg base k f fd ps sp) (hb : Binds K fd ps []) (len : ∀ vs H Q E, sp vs H Q E → vs.length = ps.length) : FnZ P w K mg base k f sp :=
  F.z (dvs := []) hb .nil (fun vs H Q E h => by rw [List.append_nil]; exact len _ _ _ _ h) fun vs H Q E h => by rw [List.append_nil]; exact h
/-! ### comprehensions whose turns change elder objects -/
section
variable {K : PySem.W.Frag} {g : TG} {tt : TT} {te : TE} {vs : List Nat} {σ : L2.St} {H : Hp} {Q : VK} {a : Addr} {xs : List V} {i j : Int}
theorem m_lcR1 (P : Addr → Nat → List V → Hp → Prop) (h1 : -(2 ^ 62) ≤ j) (h2 : j < 2 ^ 62) (h0 : ∀ D H1, H D = none → Same H H1 → H1 D = some (.lst []) → P D 0 [] H1)
    (hs : ∀ D (k : Nat) ys H1 (Next : Hp → Prop), (k : Int) < j → H D = none → H1 D = some (.lst ys) → P D k ys H1 → ys.length ≤ k → (∀ ys' H2, H2 D = some (.lst ys') → P D (k + 1) ys' H2 → ys'.length ≤ k + 1 → Next H2) → lcTurn g tt te vs σ D (.int (k : Int)) H1 Next)
    (hd : ∀ D ys H1, H D = none → H1 D = some (.lst ys) → P D j.toNat ys H1 → ys.length ≤ j.toNat → Q (.ref D) H1) : vLcR1 [.int j] g tt te vs σ H Q :=
  ⟨⟨j, rfl, h1, h2, fun D hD => lc_range (lo := 0) (n := j.toNat) (fun k H1 => ∃ ys, H1 D = some (.lst ys) ∧ P D k ys H1 ∧ ys.length ≤ k) ⟨[], upd_same, h0 D _ hD (same_upd hD) upd_same, Nat.le_refl _⟩
    (fun k H1 hk ⟨ys, hy, p, l⟩ => by
      have e : (0 : Int) + (k : Int) = (k : Int) := Int.zero_add _
      rw [e]
      exact turn_eq (hs D k ys H1 _ (by omega) hD hy p l fun ys' H2 h2 p2 l2 => ⟨ys', h2, p2, l2⟩))
    (fun H1 ⟨ys, hy, p, l⟩ => hd D ys H1 hD hy p l)⟩⟩
theorem m_lcR2 (P : Addr → Nat → List V → Hp → Prop) (h1 : -(2 ^ 62) ≤ i ∧ i < 2 ^ 62 ∧ -(2 ^ 62) ≤ j ∧ j < 2 ^ 62) (h0 : ∀ D H1, H D = none → Same H H1 → H1 D = some (.lst []) → P D 0 [] H1)
    (hs : ∀ D (k : Nat) ys H1 (Next : Hp → Prop), i + (k : Int) < j → H D = none → H1 D = some (.lst ys) → P D k ys H1 → ys.length ≤ k → (∀ ys' H2, H2 D = some (.lst ys') → P D (k + 1) ys' H2 → ys'.length ≤ k + 1 → Next H2) → lcTurn g tt te vs σ D (.int (i + (k : Int))) H1 Next)
    (hd : ∀ D ys H1, H D = none → H1 D = some (.lst ys) → P D (j - i).toNat ys H1 → ys.length ≤ (j - i).toNat → Q (.ref D) H1) : vLcR2 [.int i, .int j] g tt te vs σ H Q :=
  ⟨⟨i, j, rfl, h1, fun D hD => lc_range (lo := i) (n := (j - i).toNat) (fun k H1 => ∃ ys, H1 D = some (.lst ys) ∧ P D k ys H1 ∧ ys.length ≤ k) ⟨[], upd_same, h0 D _ hD (same_upd hD) upd_same, Nat.le_refl _⟩
    (fun k H1 hk ⟨ys, hy, p, l⟩ => turn_eq (hs D k ys H1 _ (by omega) hD hy p l fun ys' H2 h2 p2 l2 => ⟨ys', h2, p2, l2⟩))
    (fun H1 ⟨ys, hy, p, l⟩ => hd D ys H1 hD hy p l)⟩⟩
theorem m_lcL (P : Addr → Nat → List V → Hp → Prop) (hx : SqL K H a xs) (hz : xs.length ≤ 1000000) (h0 : ∀ D H1, H D = none → Same H H1 → H1 D = some (.lst []) → P D 0 [] H1) (hl : ∀ D i ys H1, H D = none → P D i ys H1 → SqL K H1 a xs)
    (hs : ∀ D i x ys H1 (Next : Hp → Prop), xs[i]? = some x → H D = none → H1 D = some (.lst ys) → P D i ys H1 → ys.length ≤ i → i < xs.length → (∀ ys' H2, H2 D = some (.lst ys') → P D (i + 1) ys' H2 → ys'.length ≤ i + 1 → Next H2) → lcTurn g tt te vs σ D x H1 Next)
    (hd : ∀ D ys H1, H D = none → H1 D = some (.lst ys) → P D xs.length ys H1 → ys.length ≤ xs.length → Q (.ref D) H1) : vLcL K (.ref a) g tt te vs σ H Q :=
  ⟨⟨a, rfl, ⟨xs, hx⟩, fun D hD => lc_list (xs := xs) (fun i H1 => ∃ ys, H1 D = some (.lst ys) ∧ P D i ys H1 ∧ ys.length ≤ i) ⟨[], upd_same, h0 D _ hD (same_upd hD) upd_same, Nat.le_refl _⟩
    (fun i H1 _ ⟨ys, _, p, _⟩ => hl D i ys H1 hD p) (fun i x H1 hi ⟨ys, hy, p, l⟩ => turn_eq (hs D i x ys H1 _ hi hD hy p l (List.getElem?_eq_some_iff.mp hi).1 fun ys' H2 h2 p2 l2 => ⟨ys', h2, p2, l2⟩))
    (fun H1 ⟨ys, hy, p, l⟩ => hd D ys H1 hD hy p l)⟩⟩
theorem m_lcT (P : Addr → Nat → List V → Hp → Prop) (hx : SqT K H a xs) (hz : xs.length ≤ 1000000) (h0 : ∀ D H1, H D = none → Same H H1 → H1 D = some (.lst []) → P D 0 [] H1) (hl : ∀ D i ys H1, H D = none → P D i ys H1 → SqT K H1 a xs)
    (hs : ∀ D i x ys H1 (Next : Hp → Prop), xs[i]? = some x → H D = none → H1 D = some (.lst ys) → P D i ys H1 → ys.length ≤ i → i < xs.length → (∀ ys' H2, H2 D = some (.lst ys') → P D (i + 1) ys' H2 → ys'.length ≤ i + 1 → Next H2) → lcTurn g tt te vs σ D x H1 Next)
    (hd : ∀ D ys H1, H D = none → H1 D = some (.lst ys) → P D xs.length ys H1 → ys.length ≤ xs.length → Q (.ref D) H1) : vLcT K (.ref a) g tt te vs σ H Q :=
  ⟨⟨a, rfl, ⟨xs, hx⟩, fun D hD => lc_tup (xs := xs) (fun i H1 => ∃ ys, H1 D = some (.lst ys) ∧ P D i ys H1 ∧ ys.length ≤ i) ⟨[], upd_same, h0 D _ hD (same_upd hD) upd_same, Nat.le_refl _⟩
    (fun i H1 _ ⟨ys, _, p, _⟩ => hl D i ys H1 hD p) (fun i x H1 hi ⟨ys, hy, p, l⟩ => turn_eq (hs D i x ys H1 _ hi hD hy p l (List.getElem?_eq_some_iff.mp hi).1 fun ys' H2 h2 p2 l2 => ⟨ys', h2, p2, l2⟩))
    (fun H1 ⟨ys, hy, p, l⟩ => hd D ys H1 hD hy p l)⟩⟩
end
end Z

namespace ZE
open PySem PySem.W PySem.Calls PyProof.Rows PySem.HandSPX
/-! ### own exceptions whose __init__ calls super().__init__() and stores its arguments -/
section
open Builtin Builtin.ObjectAttr
variable {prog : Program} {w : World} {A : Around} {E : Value → Shared → Prop} {R : Result → Shared → Prop} {hp : Heap} {g : Array GenState} {d : Drawn} {t : Nat} {os : OsState} {K : Frag} {B : String} {bmB : List Value} {x C dx : Addr} {name : Str} {tk : Tok} {v : Value} {fv : Array Value}
theorem put1 (SF : StoreFacts B bmB "object.__setattr__" "object") (X : K.In hp) (hx : hp.get? x = some { cls := .ref C, data := .fields fv }) (ov : excOver K C bmB = true) (ht : takerIn K C name = some none) (hh : hasDictIn K C = true)
    (hq : ∀ h' tk' dx, (∀ b o, b ≠ x → hp.get? b = some o → h'.get? b = some o) → hp.objs.size ≤ dx → dx ≠ x → h'.get? x = some { cls := .ref C, dict := some dx, data := .fields fv } → h'.Ns1 dx (fun y => if y = name then some v else none) → R (.ok (.ret .none)) ⟨h', g, d, tk', os⟩) :
    codeAny (model prog w) A (.call (.builtin "object.__setattr__") ⟨[.ref x, .str name tk, v], []⟩) R ⟨hp, g, d, t, os⟩ := by
  refine osa_openX (s := ⟨hp, g, d, t, os⟩) (od := none) SF X ⟨hx, rfl, rfl, trivial⟩ ov ht fun b => ?_
  obtain ⟨cd, hc, hd'⟩ := any_some hh
  have hcls : W.Looks (model prog w) hp (classData C) cd := W.looks_clsIn X hc
  have hxs : x ≠ hp.objs.size := Nat.ne_of_lt (Heap.lt_size hx)
  obtain ⟨nm, bs, mro, ns, qn, hdc, sn, sb, ab, col, del⟩ := cd
  dsimp only at hd'
  subst hd'
  show wpAny _ _ (storeInOwnDict (.ref x) (.ref C) (.str name tk) name v b) _ _ _
  unfold storeInOwnDict ownDictForStores
  repeat (first | with_reducible refine store_in_new ?_ ?_ | with_reducible refine wpAny_loadPart_at hx ?_ | with_reducible refine hcls.at ?_ | wp_step)
  · exact ⟨_, #[], _, (Heap.get?_update_ne _ _ _ _ hxs.symm).trans (Heap.get?_push_at rfl rfl), rfl, fun e he => absurd he (by simp), fun _ => rfl⟩
  · intro h' tk' hn' hs
    have hx₁ : (hp.push { cls := .type "dict", data := .dict #[] }).get? x = some { cls := .ref C, data := .fields fv } := Heap.get?_push_of_some _ hx
    exact hq h' tk' hp.objs.size (fun b o hb ho => (hs.2 b (Nat.ne_of_lt (Heap.lt_size ho))).trans ((Heap.get?_update_ne _ _ _ _ hb).trans (Heap.get?_push_of_some _ ho))) (Nat.le_refl _) hxs.symm ((hs.2 x hxs).trans (Heap.get?_update_self _ hx₁ rfl)) hn'
theorem put2 {m0 : Str → Option Value} {nl : List Str} (SF : StoreFacts B bmB "object.__setattr__" "object") (X : K.In hp) (hx : hp.get? x = some { cls := .ref C, dict := some dx, data := .fields fv }) (hns : hp.Ns1 dx m0) (hw : Within m0 nl) (hz : nl.length ≤ 1000)
    (ov : excOver K C bmB = true) (ht : takerIn K C name = some none) (hh : hasDictIn K C = true)
    (hq : ∀ h' tk', (∀ b o, b ≠ dx → hp.get? b = some o → h'.get? b = some o) → h'.Ns1 dx (fun y => if y = name then some v else m0 y) → R (.ok (.ret .none)) ⟨h', g, d, tk', os⟩) :
    codeAny (model prog w) A (.call (.builtin "object.__setattr__") ⟨[.ref x, .str name tk, v], []⟩) R ⟨hp, g, d, t, os⟩ := by
  obtain ⟨oD, esD, epD, hoD, hdD, _⟩ := hns.count hw
  refine osa_openX (s := ⟨hp, g, d, t, os⟩) (od := some oD) SF X ⟨hx, rfl, rfl, hoD⟩ ov ht fun b => ?_
  obtain ⟨cd, hc, hd'⟩ := any_some hh
  have hcls : W.Looks (model prog w) hp (classData C) cd := W.looks_clsIn X hc
  obtain ⟨nm, bs, mro, ns, qn, hdc, sn, sb, ab, col, del⟩ := cd
  dsimp only at hd'
  subst hd'
  show wpAny _ _ (storeInOwnDict (.ref x) (.ref C) (.str name tk) name v b) _ _ _
  unfold storeInOwnDict ownDictForStores
  repeat (first | with_reducible refine OEX.store_in_old hns hw hz ?_ | with_reducible refine wpAny_loadPart_at hx ?_ | with_reducible refine hcls.at ?_ | wp_step)
  intro h' tk' hn' hs
  exact hq h' tk' (fun b o hb ho => (hs.2 b hb).trans ho) hn'
end
/-! ### the text of __init__ -/
/-- self.f = x, one behind the other -/
inductive Asg : List Stmt → List (Str × Str) → Prop
  | nil : Asg [] []
  | cons {f x : Str} {q1 q2 q3 q4 : Pos} {r : List Stmt} {l : List (Str × Str)} (h : Asg r l) : Asg (.Assign [.Attribute (.Name "self" q1) f q2] (.Name x q3) q4 :: r) ((f, x) :: l)
/-- what the fields come to -/
def put (m : Str → Option Value) (f : Str) (v : Value) : Str → Option Value := fun y => if y = f then some v else m y
def puts (m : Str → Option Value) : List (Str × Value) → Str → Option Value
  | [] => m
  | (f, v) :: r => puts (put m f v) r
/-- in the midst of __init__ -/
structure Mid (K : Frag) (h0 h : Heap) (x C t1 : Addr) (od : Option Addr) (m : Str → Option Value) (nl : List Str) : Prop where
  keep : ∀ b o, b ≠ x → h0.get? b = some o → h.get? b = some o
  sz : h0.objs.size ≤ h.objs.size
  obj : h.get? x = some { cls := .ref C, dict := od, data := .fields #[.ref t1, .none, .none, .none, .bool false, .none] }
  dict : match od with
    | none => m = fun _ => none
    | some dx => h0.objs.size ≤ dx ∧ dx ≠ x ∧ h.Ns1 dx m ∧ Within m nl
section
variable {prog : Program} {w : World} {A : Around} {E : Value → Shared → Prop} {K : Frag} {B : String} {bmB : List Value} {x C t1 L : Addr} {h0 : Heap} {fd : FuncData} {fI : Addr} {loc : Str → Option Value}
theorem asg_run (SF : StoreFacts B bmB "object.__setattr__" "object") (ov : excOver K C bmB = true) (hh : hasDictIn K C = true) (sa : findIn K (.ref C) "__setattr__" = some (some (.builtin "object.__setattr__"))) (X0 : K.In h0) (hnx : K.lookup x = none) (hk : fd.scope.kind = .function)
    (hL : h0.Ns L loc) (xL : L ≠ x) (hs : loc "self" = some (.ref x)) (ks : (callEnv fd L fI).kindOf "self" = some .local) : ∀ {body : List Stmt} {l : List (Str × Str)}, Asg body l → ∀ (fs : List (Str × Value)) (s : Shared) (od : Option Addr) (m : Str → Option Value) (nl : List Str) (Q : Flow → Shared → Prop),
    nl.length + l.length ≤ 1000 → Mid K h0 s.heap x C t1 od m nl → Paired (fun (p : Str × Str) (q : Str × Value) => p.1 = q.1 ∧ loc p.2 = some q.2 ∧ (callEnv fd L fI).kindOf p.2 = some .local ∧ takerIn K C p.1 = some none ∧ (p.2 == ("__debug__" : Str)) = false) l fs →
    (∀ h' tk od' nl', Mid K h0 h' x C t1 od' (puts m fs) nl' → (l ≠ [] → od'.isSome = true) → (l = [] → od' = od) → Q .next { s with heap := h', toks := tk }) → wpAny (model prog w) A (execs body (callEnv fd L fI)) Q E s := by
  intro body l h
  induction h with
  | nil =>
    intro fs s od m nl Q hz M P hq
    cases P
    exact wpAny_execs_nil (hq s.heap s.toks od nl M (fun z => absurd rfl z) fun _ => rfl)
  | @cons f y q1 q2 q3 q4 r l h ih =>
    intro fs s od m nl Q hz M P hq
    cases P with
    | @cons _ q _ fs' p P =>
      obtain ⟨f', v⟩ := q
      obtain ⟨rfl, hv, kv, ht, hd⟩ := p
      dsimp only at hv kv ht hd ⊢
      have kL : s.heap.Ns L loc := by
        obtain ⟨o, es, ep, e, rest⟩ := hL
        exact ⟨o, es, ep, M.keep _ _ xL e, rest⟩
      have X : K.In s.heap := fun a o e => M.keep a o (fun z => by rw [z, hnx] at e; cases e) (X0 a o e)
      obtain ⟨hp, g, dr, tk, os⟩ := s
      refine wpAny_execs_cons (plainObj_wpAny_Assign_Attribute ?_)
      refine ldc hk kv kL hv (ldc hk ks kL hs ?_) hd
      cases od with
      | none =>
        refine set_plain X (ox := { cls := .ref C, dict := none, data := .fields #[.ref t1, .none, .none, .none, .bool false, .none] }) (od := none) ⟨M.obj, rfl, rfl, trivial⟩ sa ?_
        refine put1 SF X M.obj ov ht hh fun h' tk' dx kk dz dn ox nn => ?_
        have hm : m = fun _ => none := M.dict
        subst hm
        have z0 : h0.objs.size ≤ dx := Nat.le_trans M.sz dz
        have z1 : dx < h'.objs.size := by
          obtain ⟨o, _, _, e, _⟩ := nn.count (Within.cons f v Within.nil)
          exact Heap.lt_size e
        refine ih fs' ⟨h', g, dr, tk', os⟩ (some dx) (put (fun _ => none) f v) [f] Q (by simp only [List.length_cons, List.length_nil] at hz ⊢; omega) ⟨fun b o hb ho => kk b o hb (M.keep b o hb ho), Nat.le_trans z0 (Nat.le_of_lt z1), ox, z0, dn, nn, Within.cons f v Within.nil⟩ P fun h2 tk2 od2 nl2 M2 z1 z2 => ?_
        · refine hq h2 tk2 od2 nl2 M2 (fun _ => ?_) (fun z => by cases z)
          cases l with
          | nil => rw [z2 rfl]; rfl
          | cons _ _ => exact z1 (by simp)
      | some dx =>
        obtain ⟨dz, dn, nn, hw⟩ := M.dict
        obtain ⟨oD, esD, epD, hoD, hdD, _⟩ := nn.count hw
        refine set_plain X (ox := { cls := .ref C, dict := some dx, data := .fields #[.ref t1, .none, .none, .none, .bool false, .none] }) (od := some oD) ⟨M.obj, rfl, rfl, hoD⟩ sa ?_
        refine put2 SF X M.obj nn hw (by simp only [List.length_cons] at hz; omega) ov ht hh fun h' tk' kk nn' => ?_
        refine ih fs' ⟨h', g, dr, tk', os⟩ (some dx) (put m f v) (f :: nl) Q (by simp only [List.length_cons] at hz ⊢; omega) ⟨fun b o hb ho => kk b o (fun z => ?_) (M.keep b o hb ho), ?_, kk _ _ dn.symm M.obj, dz, dn, nn', Within.cons f v hw⟩ P fun h2 tk2 od2 nl2 M2 z1 z2 => ?_
        · rw [z] at ho
          exact absurd (Heap.lt_size ho) (Nat.not_lt.mpr dz)
        · obtain ⟨o, _, _, e, _⟩ := nn'.count (Within.cons f v hw)
          exact Nat.le_trans dz (Nat.le_of_lt (Heap.lt_size e))
        · refine hq h2 tk2 od2 nl2 M2 (fun _ => ?_) (fun z => by cases z)
          cases l with
          | nil => rw [z2 rfl]; rfl
          | cons _ _ => exact z1 (by simp)
end
end ZE

namespace ZE
open PySem PySem.W PySem.Calls PyProof.Rows PySem.HandSPX L2
/-- the text: super().__init__(), then the stores -/
structure ExS (st : Stmt) (qual : Str) (ps : List Str) (l : List (Str × Str)) : Prop where
  body : ∃ p0 p1 p2 p3 p4 rest, defBody st = .Expr (.Call (.Attribute (.Call (.Name "super" p0) [] [] p1) "__init__" p2) [] [] p3) p4 :: rest ∧ Asg rest l ∧
    ∀ env : Env, ∃ pl : Sem Bool, eval (.Call (.Attribute (.Call (.Name "super" p0) [] [] p1) "__init__" p2) [] [] p3) env = (do
      let ov ← attributeBase (.Call (.Name "super" p0) [] [] p1) "__init__" env (eval (.Call (.Name "super" p0) [] [] p1) env)
      standAt p2.atName
      let (f, first) ← holding [ov] (getMethod ov "__init__" pl)
      callWith p3 f first (backTo p3 (starEach [] env)) [])
  hd : ∃ ar, ((defArgs st).posonlyargs ++ (defArgs st).args).head? = some ar ∧ ar.arg = ("self" : Str)
  sup : (defScope st).names.lookup ("super" : Str) = some .globalImplicit
  cls : (defScope st).names.lookup ("__class__" : Str) = some .free
  loc : ∀ p ∈ ps, (defScope st).names.lookup p = some .local
  cel : ∀ x ∈ (defScope st).names, x.2 ≠ .cell
  kind : (defScope st).kind = .function
  co : (defScope st).isCoroutine = false
  gen : (defScope st).isGenerator = false
  nd : ps.Nodup
  self : ∃ r, ps = ("self" : Str) :: r
  dbg : ∀ p ∈ ps, (p == ("__debug__" : Str)) = false
  mem : ∀ q ∈ l, q.2 ∈ ps
  bind : ∀ (kV doc pm : Value) (an : Option Addr) (cdv ct : Value) (cl : List (Str × Addr)) (us : List Value), us.length = ps.length → bindArgs (fnX "__init__" qual (defArgs st) (defBody st) (defScope st) cl .none kV doc pm an cdv ct) ⟨us, []⟩ = pure (ps.zip us)
/-- what the written part says of the class at C, its __init__ at fI -/
structure ExT (P : Program) (K : Frag) (st : Stmt) (qual : Str) (C fI : Addr) (fs : List Str) (B newId i : String) (bmB : List Value) : Prop where
  FB : ExcBaseFacts B newId i bmB
  SF : StoreFacts B bmB "object.__setattr__" "object"
  KF : KxsFacts B i
  q : excInitIn K C bmB newId = true
  ov : excOver K C bmB = true
  sa : findIn K (.ref C) "__setattr__" = some (some (.builtin "object.__setattr__"))
  hd : hasDictIn K C = true
  tk : ∀ f ∈ fs, takerIn K C f = some none
  ini : findIn K (.ref C) "__init__" = some (some (.ref fI))
  fty : typeIn K (.ref fI) = some (.type "function")
  kC : keepIn K (.ref C) = true
  exC : subIn K (.ref C) (.type "BaseException") = some true
  tyC : typeIn K (.ref C) = some (.type "type")
  sup : ks_superIn K C C "__init__" = some (some (.builtin i))
  subB : subIn K (.ref C) (.type B) = some true
  msf : mroIn K C (.ref C) = some true
  op : nsIn K cStatics "thirdparty.any" = some none
  top : (P.main.scope.names.lookup ("super" : Str)).isSome = false
  fn : ∃ (oc : Value) (od : Option Addr) (osl : Array (Option Value)) (kV doc pm : Value) (an : Option Addr) (ct : Value) (cda cc : Addr) (vs : Array Value) (file : Str) (tf : Tok) (ccl : Value) (cdd : Option Addr) (ccs : Array (Option Value)) (cl : Value) (cld : Option Addr) (csl : Array (Option Value)),
    K.lookup fI = some ⟨oc, od, .func (fnX "__init__" qual (defArgs st) (defBody st) (defScope st) [("__class__", cc)] .none kV doc pm an (.ref cda) ct), osl⟩ ∧ codeIn K (.ref cda) qual = true ∧ K.lookup cda = some ⟨ccl, cdd, .fields vs, ccs⟩ ∧ vs[2]? = some (.str file tf) ∧
    ((P.main.file : Str) == file) = true ∧ K.lookup cc = some ⟨cl, cld, .cell (some (.ref C)), csl⟩
/-- what the call leaves of a fresh exception at x -/
structure InitZ (h h' : Heap) (x C dx t1 : Addr) (m : Str → Option Value) : Prop where
  keep : ∀ b o, b ≠ x → h.get? b = some o → h'.get? b = some o
  obj : h'.get? x = some { cls := .ref C, dict := some dx, data := .fields #[.ref t1, .none, .none, .none, .bool false, .none] }
  dbig : h.objs.size ≤ dx
  dne : dx ≠ x
  ns : h'.Ns1 dx m
section
variable {P : Program} {w : World} {A : Around} {R : Result → Shared → Prop} {K : Frag} {st : Stmt} {qual : Str} {C fI : Addr} {fs ps : List Str} {B newId i : String} {bmB : List Value} {l : List (Str × Str)} {mg mb : Str → Option Value}
theorem zip_look : ∀ {ps : List Str} {us : List Value} {j : Nat} {p : Str} {v : Value}, ps.Nodup → ps[j]? = some p → us[j]? = some v → us.length = ps.length → (ps.zip us).reverse.lookup p = some v := by
  intro ps us j p v nd hp hu hl
  have key : (ps.zip us).lookup p = some v := by
    induction ps generalizing us j with
    | nil => simp at hp
    | cons a r ih =>
      cases us with
      | nil => simp at hu
      | cons b t =>
        cases j with
        | zero =>
          simp at hp hu
          subst hp hu
          simp [List.lookup]
        | succ j =>
          simp at hp hu hl
          have hne : (p == a) = false := by
            rw [List.nodup_cons] at nd
            refine beq_eq_false_iff_ne.mpr fun z => nd.1 ?_
            rw [← z]
            exact List.mem_of_getElem? hp
          simp only [List.zip_cons_cons, List.lookup, hne]
          exact ih nd.of_cons hp hu hl
  have ndz : ((ps.zip us).map (·.1)).Nodup := by
    have : (ps.zip us).map (·.1) = ps := by
      rw [List.map_fst_zip]
      omega
    rw [this]; exact nd
  have mem : (p, v) ∈ ps.zip us := by
    clear ndz
    generalize ps.zip us = z at key
    induction z with
    | nil => cases key
    | cons q r ih =>
      obtain ⟨a, b⟩ := q
      simp only [List.lookup] at key
      split at key
      · rename_i e
        cases key
        rw [beq_iff_eq.mp e]
        exact List.mem_cons_self
      · exact List.mem_cons_of_mem _ (ih key)
  have ndr : ((ps.zip us).reverse.map (·.1)).Nodup := by rw [List.map_reverse]; exact List.pairwise_reverse.mpr (ndz.imp fun h => Ne.symm h)
  have memr : (p, v) ∈ (ps.zip us).reverse := List.mem_reverse.mpr mem
  generalize (ps.zip us).reverse = z at ndr memr
  induction z with
  | nil => cases memr
  | cons q r ih =>
    obtain ⟨a, b⟩ := q
    rcases List.mem_cons.mp memr with e | e
    · cases e
      simp [List.lookup]
    · simp only [List.map_cons, List.nodup_cons] at ndr
      have hne : (p == a) = false := by
        refine beq_eq_false_iff_ne.mpr fun z => ndr.1 ?_
        rw [← z]
        exact List.mem_map.mpr ⟨_, e, rfl⟩
      simp only [List.lookup, hne]
      exact ih ndr.2 e
theorem paired_imp {α β : Type} {R R' : α → β → Prop} : ∀ {l : List α} {m : List β}, (∀ a ∈ l, ∀ b, R a b → R' a b) → Paired R l m → Paired R' l m
  | [], [], _, _ => .nil
  | a :: l, b :: m, h, .cons r p => .cons (h a List.mem_cons_self b r) (paired_imp (fun a ha => h a (List.mem_cons_of_mem _ ha)) p)
/-- super().__init__() of the exception at x -/
theorem exc_super {s : Shared} {x u t0 : Addr} {A : Around} {E : Value → Shared → Prop} {Q : Value → Shared → Prop} (FB : ExcBaseFacts B newId i bmB) (X : K.In s.heap) (q : excInitIn K C bmB newId = true) (hu : s.heap.get? u = some (kxs_mw i x)) (he : s.heap.get? x = some (excObj C t0 none .none))
    (h : ∀ h', (∀ b o, b ≠ x → s.heap.get? b = some o → h'.get? b = some o) → h'.get? x = some (excObj C s.heap.objs.size none .none) → h'.get? s.heap.objs.size = some (excTup []) → Q .none { s with heap := h' }) : wpAny (model P w) A (call (.ref u) []) Q E s := by
  obtain ⟨nm, N', qn, bs, bm, hdct, sn, sub, ab, col, dd, k0, k1, k2, k3, k5, hC, hT⟩ := excInit_of X q
  obtain ⟨hh, g, d, tk, os⟩ := s
  refine wpAny_call (codeAny_of_tree ?_)
  show wpAny _ A.in1 (callAny (.ref u) ⟨[], []⟩) _ _ _
  simp only [callAny]
  refine wpAny_bind (wpAny_load hu ?_)
  simp only [kxs_mw, show (Value.type "method-wrapper" == Value.type "method" || Value.type "method-wrapper" == Value.type "builtin_function_or_method" || Value.type "method-wrapper" == Value.type "method-wrapper") = true by decide, if_true]
  refine KFB.if_so (by decide) ?_
  refine wpAny_bind (check_bound_init FB.toExcCallFacts hC he rfl ?_)
  refine wpAny_bind (wpAny_pure (wpAny_pure ?_))
  refine ⟨plainId_quiet FB.init.plain _, codeAny_builtin FB.initEntry ?_⟩
  exact exc_init_tree (cls := .ref C) (t0 := t0) (dv := none) (c2 := .none) (c3 := .none) (b4 := .bool false) he (Nat.zero_le _) h
theorem exc_init (S : ExS st qual ps l) (T : ExT P K st qual C fI fs B newId i bmB) {x t0 : Addr} {us : List Value} {vs : List (Str × Value)} {s : Shared} (X : K.In s.heap) (hg : s.heap.Ns mainGlobals mg) (hsu : mg "super" = none) (hb : s.heap.Ns builtinsNs mb) (hbb : mb "super" = bootBuiltins "super") (hlim : s.heap.NoLimit)
    (hx : s.heap.get? x = some (excO C t0)) (hnx : K.lookup x = none) (hroom : A.depth < recursionLimit) (hl : us.length + 1 = ps.length) (hll : l.length ≤ 100)
    (hv : Paired (fun (p : Str × Str) (q : Str × Value) => p.1 = q.1 ∧ p.1 ∈ fs ∧ ∃ j : Nat, ps[j]? = some p.2 ∧ (Value.ref x :: us)[j]? = some q.2) l vs) (hne : l ≠ [])
    (hq : ∀ h' tk dx t1, InitZ s.heap h' x C dx t1 (puts (fun _ => none) vs) → R (.ok (.ret .none)) { s with heap := h', toks := tk }) : codeAny (model P w) A (.call (.ref fI) ⟨.ref x :: us, []⟩) R s := by
  obtain ⟨oc, od, osl, kV, doc, pm, an, ct, cda, cc, vs', file, tf, ccl, cdd, ccs, cl, cld, csl, lk, hcd, lkc, hvs, hfile, lkcc⟩ := T.fn
  obtain ⟨p0, p1, p2, p3, p4, rest, hbody, hasg, hev⟩ := S.body
  obtain ⟨r, hps⟩ := S.self
  have hlen : (Value.ref x :: us).length = ps.length := by rw [List.length_cons]; omega
  refine ks_codeAny_call_defAt (binds := ps.zip (.ref x :: us)) hroom (X _ _ lk) rfl hlim (codeRec_of X hcd) rfl (BindsTo.of_eq (S.bind _ _ _ _ _ _ _ _ hlen)) S.cel (fun y hy => S.loc _ (List.of_mem_zip hy).1) (fun h₁ hns hk₁ => ?_) S.co S.gen S.kind
  have loc : ∀ {j : Nat} {p : Str} {v : Value}, ps[j]? = some p → (Value.ref x :: us)[j]? = some v → (ps.zip (Value.ref x :: us)).reverse.lookup p = some v := fun h1 h2 => zip_look S.nd h1 h2 hlen
  have hself : (ps.zip (Value.ref x :: us)).reverse.lookup ("self" : Str) = some (Value.ref x) := loc (j := 0) (by rw [hps]; rfl) rfl
  have kself : (defScope st).names.lookup ("self" : Str) = some .local := S.loc _ (by rw [hps]; exact List.mem_cons_self)
  have X₁ : K.In h₁ := X.keeps hk₁
  obtain ⟨hp, g, dr, tk, os⟩ := s
  obtain ⟨ar, har, har2⟩ := S.hd
  have hx₁ := hk₁ _ _ hx
  obtain ⟨oD, cdD, hD1, hD2, hDc⟩ : ∃ oD cdD, h₁.get? C = some oD ∧ oD.data = .cls cdD ∧ clsIn K C = some cdD := by
    obtain ⟨cd, hc, _⟩ := any_some T.hd
    unfold clsIn at hc
    split at hc
    · rename_i c d cd' sl ho
      cases hc
      refine ⟨_, _, X₁ _ _ ho, rfl, ?_⟩
      unfold clsIn
      rw [ho] <;> rfl
    · cases hc
  rw [show defBody st = _ from hbody]
  obtain ⟨pl, hev⟩ := hev (callEnv (fnX "__init__" qual (defArgs st) (defBody st) (defScope st) [("__class__", cc)] .none kV doc pm an (.ref cda) ct) hp.objs.size fI)
  rw [hbody] at hev
  refine ks_wpAt_execs_cons (ks_wpAt_Expr_any (ks_wpAt_MethodCall (pl := pl) ?_ hev) (by show ((defScope st).kind == .module && _) = false; rw [S.kind]; rfl))
  refine ks_wpAt_super_base (env := callEnv (fnX "__init__" qual (defArgs st) (defBody st) (defScope st) [("__class__", cc)] .none kV doc pm an (.ref cda) ct) hp.objs.size fI) S.sup S.cls (by decide) rfl (X₁ _ _ lk) rfl har rfl (X₁ _ _ lkc) rfl hvs hfile T.top ?_
  refine ks_loadName_global S.kind S.sup (loadGlobal_builtin (hg.keeps hk₁) hsu (hb.keeps hk₁) (hbb.trans (by decide +kernel : bootBuiltins "super" = some (.type "super"))) ⟨rfl, ?_⟩)
  refine wpAny_loadName_free S.kind S.cls rfl ⟨_, X₁ _ _ lkcc, rfl⟩ ?_
  rw [har2]
  refine wpAny_loadName_local S.kind kself hns hself ?_
  refine ks_wpAny_isType_cls hD1 hD2 ⟨rfl, ?_⟩
  refine ks_wpAny_call_super hD1 hD2 hx₁ rfl (fun c e => nomatch e) (looks_mroIn X₁ T.msf) (fun h2 e2 k2 => ?_)
  have X2 : K.In h2 := X₁.keeps k2
  have hx2 := k2 _ _ hx₁
  have I2 : InstAt h2 x (excObj C t0 none .none) C none := ⟨hx2, rfl, rfl, trivial⟩
  have hsup := T.sup
  unfold ks_superIn at hsup
  rw [hDc] at hsup
  have xC : x ≠ C := fun z => by
    have y := X2 C
    obtain ⟨cd, hc, _⟩ := any_some T.hd
    unfold clsIn at hc
    rw [← z, hnx] at hc
    cases hc
  refine kxs_getMethod T.KF e2 (looks_opaque X2 T.op) (l₀ := cdD.mro) (fun A Q E s k q => wpAny_bind ((looks_clsIn X2 hDc) A _ E s k (wpAny_pure q))) rfl X2 hsup (I2.type.andThen (looks_subIn X2 T.subB)) xC (by decide) ?_
  refine kxs_callWith (i := i) (x := x) rfl (evalArgs_empty ⟨Heap.get?_push_at rfl rfl, ?_⟩)
  have k3 : ∀ b o, h2.get? b = some o → (h2.push (kxs_mw i x)).get? b = some o := fun b o e => Heap.get?_push_of_some _ e
  refine exc_super T.FB (X2.keeps k3) T.q (Heap.get?_push_at rfl rfl) (k3 _ _ hx2) fun h4 k4 hx4 ht4 => ?_
  refine wpAt_of_wpAny ?_
  have kk : ∀ b o, b ≠ x → h₁.get? b = some o → h4.get? b = some o := fun b o hb e => k4 b o hb (k3 _ _ (k2 _ _ e))
  have xL : hp.objs.size ≠ x := Nat.ne_of_gt (Heap.lt_size hx)
  have sz : h₁.objs.size ≤ h4.objs.size := by
    have z1 : h₁.objs.size < h2.objs.size := Heap.lt_size e2
    have z2 : (h2.push (kxs_mw i x)).objs.size < h4.objs.size := Heap.lt_size ht4
    have z3 : (h2.push (kxs_mw i x)).objs.size = h2.objs.size + 1 := Heap.size_push _ _
    rw [z3] at z2
    omega
  refine asg_run (h0 := h₁) (fd := fnX "__init__" qual (defArgs st) (defBody st) (defScope st) [("__class__", cc)] .none kV doc pm an (.ref cda) ct) (fI := fI) (t1 := (h2.push (kxs_mw i x)).objs.size) T.SF T.ov T.hd T.sa X₁ hnx S.kind hns xL hself kself hasg vs _ none (fun _ => none) [] _ (by simp; omega) ⟨kk, sz, hx4, rfl⟩ ?_ fun h' tk' od' nl' M z1 z2 => ?_
  · refine paired_imp (fun p hp q ⟨h1, h2, j, h3, h4⟩ => ⟨h1, loc h3 h4, S.loc _ (S.mem _ hp), T.tk _ h2, S.dbg _ (S.mem _ hp)⟩) hv
  · have z3 := z1 hne
    cases od' with
    | none => cases z3
    | some dx =>
      obtain ⟨y1, y2, y3, y4⟩ := M.dict
      refine hq h' tk' dx _ ⟨fun b o hb e => M.keep b o hb (hk₁ _ _ e), M.obj, ?_, y2, y3⟩
      exact Nat.le_trans (Nat.le_of_lt hns.lt) y1
end
end ZE

namespace ZE
open PySem PySem.W PySem.Calls PyProof.Rows PySem.HandSPX L2
/-- a made exception -/
structure Made (h h' : Heap) (e C d : Addr) (m : Str → Option Value) : Prop where
  keep : ∀ b o, h.get? b = some o → h'.get? b = some o
  new : h.objs.size ≤ e
  obj : ∃ t1, h'.get? e = some { cls := .ref C, dict := some d, data := .fields #[.ref t1, .none, .none, .none, .bool false, .none] }
  dbig : h.objs.size ≤ d
  dne : d ≠ e
  ns : h'.Ns1 d m
/-- the fields by the arguments -/
structure ExF (ps : List Str) (l : List (Str × Str)) (fs : List Str) (fl : ∀ {α : Type}, List α → List (Str × α)) : Prop where
  val : ∀ (x : Addr) (us : List Value), us.length + 1 = ps.length → Paired (fun (p : Str × Str) (q : Str × Value) => p.1 = q.1 ∧ p.1 ∈ fs ∧ ∃ j : Nat, ps[j]? = some p.2 ∧ (Value.ref x :: us)[j]? = some q.2) l (fl us)
  rel : ∀ (vs : List V) (us : List Value), vs.length + 1 = ps.length → Vals vs us → Paired (fun (p : Str × V) (q : Str × Value) => p.1 = q.1 ∧ RelV p.2 q.2) (fl vs) (fl us)
  nd : ∀ vs : List V, ((fl vs).map (·.1)).Nodup
  len : l ≠ [] ∧ l.length ≤ 100 ∧ ps.length ≤ 100
theorem puts_off : ∀ {vs : List (Str × Value)} {m : Str → Option Value} {y : Str}, y ∉ vs.map (·.1) → puts m vs y = m y
  | [], _, _, _ => rfl
  | (f, v) :: r, m, y, h => by
    simp only [List.map_cons, List.mem_cons, not_or] at h
    rw [puts, puts_off h.2]
    exact if_neg h.1
theorem relo_puts : ∀ {zs : List (Str × V)} {vs : List (Str × Value)} {m : Str → Option Value}, Paired (fun (p : Str × V) (q : Str × Value) => p.1 = q.1 ∧ RelV p.2 q.2) zs vs → (zs.map (·.1)).Nodup → (∀ f, m f = none) → ∀ f, RelO (zs.lookup f) (puts m vs f)
  | [], [], m, _, _, hm, f => by
    show RelO none (m f)
    rw [hm f]
    trivial
  | (k, z) :: r, (k', v) :: r', m, .cons p P, nd, hm, f => by
    obtain ⟨e, rz⟩ := p
    dsimp only at e rz
    subst e
    simp only [List.map_cons, List.nodup_cons] at nd
    have keys : ∀ {r : List (Str × V)} {r' : List (Str × Value)}, Paired (fun (p : Str × V) (q : Str × Value) => p.1 = q.1 ∧ RelV p.2 q.2) r r' → r'.map (·.1) = r.map (·.1) := by
      intro r r' P
      induction P with
      | nil => rfl
      | cons p _ ih => simp only [List.map_cons, ih, p.1]
    by_cases hf : f = k
    · subst hf
      rw [puts, puts_off (by rw [keys P]; exact nd.1)]
      have : List.lookup f ((f, z) :: r) = some z := by simp [List.lookup]
      rw [this]
      show RelO (some z) (put m f v f)
      rw [show put m f v f = some v from if_pos rfl]
      exact rz
    · have h2 : (f == k) = false := beq_eq_false_iff_ne.mpr hf
      have : List.lookup f ((k, z) :: r) = List.lookup f r := by simp [List.lookup, h2]
      rw [this, puts]
      -- the further fields over the one put
      have gen : ∀ {r : List (Str × V)} {r' : List (Str × Value)} {m : Str → Option Value}, Paired (fun (p : Str × V) (q : Str × Value) => p.1 = q.1 ∧ RelV p.2 q.2) r r' → (r.map (·.1)).Nodup → m f = none → RelO (r.lookup f) (puts m r' f) := by
        intro r r' m P
        induction P generalizing m with
        | nil => intro _ hm; show RelO none (m f); rw [hm]; trivial
        | @cons p q r r' hpq P ih =>
          intro nd hm
          obtain ⟨k1, z1⟩ := p
          obtain ⟨k2, v2⟩ := q
          obtain ⟨e, rz⟩ := hpq
          dsimp only at e rz
          subst e
          simp only [List.map_cons, List.nodup_cons] at nd
          by_cases hk : f = k1
          · subst hk
            rw [puts, puts_off (by rw [keys P]; exact nd.1)]
            have e1 : List.lookup f ((f, z1) :: r) = some z1 := by simp [List.lookup]
            rw [e1, show put m f v2 f = some v2 from if_pos rfl]
            exact rz
          · have e2 : (f == k1) = false := beq_eq_false_iff_ne.mpr hk
            have e1 : List.lookup f ((k1, z1) :: r) = List.lookup f r := by simp [List.lookup, e2]
            rw [e1, puts]
            exact ih nd.2 ((if_neg hk).trans hm)
      exact gen P nd.2 ((if_neg hf).trans (hm f))
section
variable {P : Program} {w : World} {A : Around} {R : Result → Shared → Prop} {K : Frag} {st : Stmt} {qual : Str} {C fI : Addr} {fs ps : List Str} {B newId i : String} {bmB : List Value} {l : List (Str × Str)} {mg mb : Str → Option Value} {fl : ∀ {α : Type}, List α → List (Str × α)}
theorem exc_made (S : ExS st qual ps l) (T : ExT P K st qual C fI fs B newId i bmB) (Fl : ExF ps l fs fl) {us : List Value} {s : Shared} (X : K.In s.heap) (hg : s.heap.Ns mainGlobals mg) (hsu : mg "super" = none) (hb : s.heap.Ns builtinsNs mb) (hbb : mb "super" = bootBuiltins "super") (hlim : s.heap.NoLimit)
    (hroom : A.depth + 1 < recursionLimit) (hl : us.length + 1 = ps.length)
    (hq : ∀ h' tk e d, Made s.heap h' e C d (puts (fun _ => none) (fl us)) → R (.ok (.ret (.ref e))) { s with heap := h', toks := tk }) : codeAny (model P w) A (.call (.ref C) ⟨us, []⟩) R s := by
  obtain ⟨nm, N', qn, bs, bm, hdct, sn, sub, ab, col, dd, k0, k1, k2, k3, k5, hC, hT⟩ := excInit_of X T.q
  obtain ⟨hp, g, dr, tk, os⟩ := s
  have up : ∀ b o, hp.get? b = some o → ((hp.push (kdv_tup us)).push (excO C hp.objs.size)).get? b = some o := fun b o z => Heap.get?_push_of_some _ (Heap.get?_push_of_some _ z)
  have at1 : ((hp.push (kdv_tup us)).push (excO C hp.objs.size)).get? (hp.objs.size + 1) = some (excO C hp.objs.size) := by heap_get
  have off : K.lookup (hp.objs.size + 1) = none := by
    cases z : K.lookup (hp.objs.size + 1) with
    | none => rfl
    | some o => exact absurd (Nat.lt_of_succ_lt (Heap.lt_size (show hp.get? (hp.objs.size + 1) = some o from X _ _ z))) (Nat.lt_irrefl _)
  have small : us.length ≤ sizeLine := by have := Fl.len; rw [sizeLine_eq]; omega
  refine call_own T.FB hT hC (looks_findIn X T.ini) (fun self => bind_fn X self T.fty) small ?_
  refine exc_init (s := ⟨(hp.push (kdv_tup us)).push (excO C hp.objs.size), g, dr, tk, os⟩) (A := A.under (.builtin "type.__call__" ⟨.ref C :: us, []⟩)) S T (X.keeps up) (hg.keeps up) hsu (hb.keeps up) hbb (hlim.keeps up) at1 off ?_ hl Fl.len.2.1 (Fl.val _ us hl) Fl.len.1 fun h' tk' dx t1 Z => ?_
  · rw [L2.make_depth]; exact hroom
  · have sz : ((hp.push (kdv_tup us)).push (excO C hp.objs.size)).objs.size = hp.objs.size + 1 + 1 := by rw [Heap.size_push, Heap.size_push]
    have db : ((hp.push (kdv_tup us)).push (excO C hp.objs.size)).objs.size ≤ dx := Z.dbig
    refine ⟨rfl, hq h' tk' (hp.objs.size + 1) dx ⟨fun b o z => Z.keep b o (fun y => ?_) (up b o z), Nat.le_succ _, ⟨t1, Z.obj⟩, by show hp.objs.size ≤ dx; omega, Z.dne, Z.ns⟩⟩
    rw [y] at z
    exact absurd (Nat.lt_of_succ_lt (Heap.lt_size z)) (Nat.lt_irrefl _)
end
/-- the reading of raise C(e, ..) -/
def tRaiseU (W : WX) (C : Addr) (m : Nat) (fl : ∀ {α : Type}, List α → List (Str × α)) (ta : TA) : TS := fun _ σ H => ta σ H fun vs H1 => vs.length = m ∧ ∀ d H2, H1 d = none → Same H1 H2 → H2 d = some (.xd (fl vs)) → W (.ref C) (some d) σ H2
section
variable {n : Z.En} {X : Cx} {W : WX} {st : Stmt} {qual : Str} {C fI : Addr} {fs ps : List Str} {B newId i : String} {bmB : List Value} {l : List (Str × Str)} {fl : ∀ {α : Type}, List α → List (Str × α)} {x : Str} {p pos pos2 : Pos} {e : Expr} {es : List Expr} {ta : TA}
theorem z_raise (o : Z.Of n X) (tk : Takes X W) (S : ExS st qual ps l) (T : ExT n.P n.K st qual C fI fs B newId i bmB) (Fl : ExF ps l fs fl) {m : Nat} (hm : m + 1 = ps.length) (gC : X.mg x = some (.ref C)) (gS : X.mg "super" = none) (ha : PA X (e :: es) ta)
    (hc : X.calm = true := by rfl) (hg : Gl X x := by rfl) (hdb : (x == ("__debug__" : Str)) = false := by decide) (he : starEach (e :: es) X.env = (false, eval e X.env) :: starEach es X.env := by rfl) (hpl : (backTo pos (starEach es X.env)).any (·.1) = false := by rfl) :
    PS X (.Raise (some (.Call (.Name x p) (e :: es) [] pos)) none pos2) (tRaiseU W C m fl ta) := by
  refine ps_raise (t := fun σ H Q => ta σ H fun vs H1 => vs.length = m ∧ ∀ d H2, H1 d = none → Same H1 H2 → H2 d = some (.xd (fl vs)) → Q (.ref C) (some d) H2) hc tk ?_
  intro pins s σ H Q I h
  rw [← o.P, ← o.K] at T
  refine wpAny_Call_Name_kw (ld_glob I hg gC ?_ hdb)
  refine callWith_K (h₀ := X.base) I.ok.mod.kin T.kC (thn (ha.run pos pins s σ H _ I h) fun us s1 ⟨vs, H1, I1, r1, lv, q1⟩ => ⟨I1.kIn, ?_⟩) he hpl
  have hl : us.length + 1 = ps.length := by rw [← r1.length, lv]; exact hm
  obtain ⟨mb, nb, bb⟩ := I1.ok.mod.blt
  have upb := fun b o z => (I1.env0.bs b o z).1
  have hgl := I1.ok.mod.glob.keeps upb
  have hbl := nb.keeps upb
  have lim := I1.nolimit
  obtain ⟨hp, g, dr, tk', os⟩ := s1
  refine wpAny_call (exc_made (mg := X.mg) (mb := mb) S T Fl I1.kIn hgl gS hbl (bb _ (by decide)) lim (by have := o.dp; rw [o.A]; omega) hl fun h' tk2 e' d M => ?_)
  · obtain ⟨t1, ho⟩ := M.obj
    obtain ⟨G, g1, g2⟩ := restrict h' fun b => decide (b ≠ e')
    have same : ∀ b, b ≠ e' → G.get? b = h'.get? b := fun b hb => g1 b (decide_eq_true hb)
    have gone : G.get? e' = none := g2 e' (by simp)
    have up : ∀ b o, hp.get? b = some o → G.get? b = some o := fun b o z => (same b (Nat.ne_of_lt (Nat.lt_of_lt_of_le (Heap.lt_size z) M.new))).trans (M.keep b o z)
    have fd : H1 d = none := I1.hok.fresh M.dbig
    have J : Inv X pins σ (upd H1 d (.xd (fl vs))) ⟨G, g, dr, tk2, os⟩ := I1.laid (t' := tk2) up M.dbig ⟨_, M.ns.at (fun o z => (same d M.dne).trans z), fun f => relo_puts (Fl.rel vs us (by omega) r1) (Fl.nd vs) (fun _ => rfl) f⟩
    refine ⟨e', _, _, ⟨G, g, dr, tk2, os⟩, _, .ref C, some d, rfl, J, fun b o z => ?_, gone, ho, ⟨rfl, rfl⟩, rfl, rfl, ?_, rfl, I1.bare, raises_own T.exC T.tyC, q1 d _ fd (Z.same_upd fd) upd_same⟩
    · by_cases hb : b = e'
      · rw [hb] at z
        rw [show G.get? e' = some o from z] at gone
        cases gone
      · exact (same b hb).symm.trans z
    · rw [upd_ne (Ne.symm M.dne)]
      exact I1.hok.fresh M.new
end
end ZE

namespace Z
open PySem PySem.Spec PyProof.Rows L2
/-! ### try: .. except X as e: .. -/
def En.su (n : En) (a : Addr) : En := { n with A := n.A.mark (some (.ref a)) }
theorem of_su {n : En} {X : Cx} (o : Of n X) (a : Addr) (pn : List (Addr × Obj)) : Of (n.su a) (X.suite a pn) :=
  ⟨o.P, o.w, o.K, o.mg, o.base, by show X.A.mark _ = n.A.mark _; rw [o.A], fun h => (by cases h), o.dp⟩
structure vCatch (K : PySem.W.Frag) (cls c : Value) (p q : Prop) : Prop where
  run : ∃ b, PySem.W.exmOne K cls c = some b ∧ (b = true → p) ∧ (b = false → q)
theorem n_hit {K : PySem.W.Frag} {cls c : Value} {p q : Prop} (h : PySem.W.exmOne K cls c = some true) (k : p) : vCatch K cls c p q := ⟨true, h, fun _ => k, fun z => by cases z⟩
theorem n_miss {K : PySem.W.Frag} {cls c : Value} {p q : Prop} (h : PySem.W.exmOne K cls c = some false) (k : q) : vCatch K cls c p q := ⟨false, h, fun z => (by cases z), fun _ => k⟩
def uAs (K : PySem.W.Frag) (c : Value) (i : Nat) (ts : Addr → Value → Option Addr → TS) (Wout : WX) (D : Ends) : WX := fun cls d σ H =>
  vCatch K cls c (∀ a, H a = none → ts a cls d { nx := fun σ' H' => D.nx (σ'.set i none) H', rt := D.rt, bk := fun σ' H' => D.bk (σ'.set i none) H', ct := fun σ' H' => D.ct (σ'.set i none) H' } (σ.set i (some (.ref a))) H) (Wout cls d σ H)
theorem uAs_eq (K : PySem.W.Frag) (c : Value) (i : Nat) (ts : Addr → Value → Option Addr → TS) (Wout : WX) (D : Ends) : uAs K c i ts Wout D = wAs K c i ts Wout D := by
  funext cls d σ H
  exact propext ⟨fun h => h.run, fun h => ⟨h⟩⟩
def uTryAs (K : PySem.W.Frag) (c : Value) (i : Nat) (W : WX) (tb : WX → TS) (ts : Addr → Value → Option Addr → TS) : TS := fun D σ H => tb (uAs K c i ts W D) D σ H
section
variable {n : En} {X : Cx} {x nm : Str} {c : Value} {i : Nat} {body suite : List Stmt} {b₀ : Stmt} {np pos pos' : Pos} {tb : WX → TS} {ts : Addr → Value → Option Addr → TS} {W : WX}
theorem z_tryAs (o : Of n X) (hs : X.stack = X.env :: X.outer) (hf : X.env.frame = some X.env.locals) (hN : X.N.Nodup) (hi : X.N[i]? = some nm) (hln : X.env.kindOf nm = some .local) (hm : X.mg x = some c) (hg : Gl X x) (tk : Takes X W)
    (hb : ∀ (W : WX) (pn : List (Addr × Obj)) (xe : Value → Shared → Prop), Takes (X.tr pn xe) W → PassesOwn (model X.prog X.w) X.A X.env xe → PSs (X.tr pn xe) body (tb W))
    (hsu : ∀ (a : Addr) (oe : Obj) (cls : Value) (d : Option Addr) (pn : List (Addr × Obj)), Zc cls d oe → (∃ vs, oe.data = .fields vs) → PSs (X.suite a ((a, oe) :: pn)) (b₀ :: suite) (ts a cls d)) (hdb : (x == ("__debug__" : Str)) = false := by decide) :
    PS X (.Try body [.ExceptHandler (some (.Name x np)) (some nm) (b₀ :: suite) pos'] [] [] pos) (uTryAs n.K c i W tb ts) := by
  have h := ps_try_as (np := np) (pos := pos) (pos' := pos') (Wout := W) hs hf hN hi hln (c := c) (x := x) ⟨hg, hdb, .inl hm⟩ tk hb hsu
  have e : uTryAs n.K c i W tb ts = fun D σ H => tb (wAs X.K c i ts W D) D σ H := by
    funext D σ H
    show tb (uAs n.K c i ts W D) D σ H = _
    rw [uAs_eq, o.K]
  rw [e]
  exact h
end
/-! ### a field of the exception that a suite holds -/
structure ExRead (K : PySem.W.Frag) (C : Addr) (f : Str) : Prop where
  ga : PySem.W.findIn K (.ref C) "__getattribute__" = some (some (.builtin "BaseException.__getattribute__"))
  gg : PySem.W.findIn K (.ref C) "__getattr__" = some none
  ex : PySem.W.subIn K (.ref C) (.type "BaseException") = some true
  hd : PySem.W.hasDictIn K C = true
  no : PySem.W.findIn K (.ref C) f = some none
structure vByE (K : PySem.W.Frag) (a : Addr) (cls : Value) (d : Option Addr) (f : Str) (x : V) (H : Hp) (Q : VK) : Prop where
  run : ∃ (C dd : Addr) (fs : List (Str × V)) (v : V), x = .ref a ∧ cls = .ref C ∧ ExRead K C f ∧ d = some dd ∧ H dd = some (.xd fs) ∧ fs.lookup f = some v ∧ Q v H
theorem n_byE {K : PySem.W.Frag} {a C dd : Addr} {f : Str} {H : Hp} {Q : VK} {fs : List (Str × V)} {v : V} (r : ExRead K C f) (h : H dd = some (.xd fs)) (l : fs.lookup f = some v) (q : Q v H) : vByE K a (.ref C) (some dd) f (.ref a) H Q := ⟨C, dd, fs, v, rfl, rfl, r, rfl, h, l, q⟩
def tByE (K : PySem.W.Frag) (a : Addr) (cls : Value) (d : Option Addr) (f : Str) (te : TE) : TE := fun σ H Q => te σ H fun x H1 => vByE K a cls d f x H1 Q
theorem z_byE {K : PySem.W.Frag} {X : Cx} {a : Addr} {oe : Obj} {cls : Value} {d : Option Addr} {pn : List (Addr × Obj)} {e : Expr} {te : TE} {pos : Pos} {f : Str} (hK : X.K = K) (hz : Zc cls d oe) (hf : ∃ vs, oe.data = .fields vs) (he : PE (X.suite a ((a, oe) :: pn)) e te)
    (hb : attributeBase e f X.env (eval e X.env) = eval e X.env := by rfl) : PE (X.suite a ((a, oe) :: pn)) (.Attribute e f pos) (tByE K a cls d f te) := by
  refine ⟨fun pins s σ H Q I h => attr_of hb (thn (he.run pins s σ H _ I h) fun u s1 hh => ?_)⟩
  obtain ⟨x, H1, I1, rx, ⟨C, dd, fs, v, ex, ec, R, ed, ea, l, q⟩⟩ := hh
  subst ex ec ed
  cases (show u = Value.ref a from rx)
  rw [← hK] at R
  obtain ⟨at1, _⟩ := I1.pin (a, oe) (List.mem_append_left _ List.mem_cons_self)
  obtain ⟨vs, hd⟩ := hf
  obtain ⟨mA, hns, hr⟩ := (show ObjOk X.prog X.w H1 s1.heap dd (.xd fs) from I1.hok dd _ ea)
  obtain ⟨od, ho, hl⟩ := lookIn_ns hns
  obtain ⟨w', hw, rw'⟩ := RelO.some_of (v := v) (o := mA f) (by rw [← l]; exact hr f)
  have J : PySem.W.InstAt s1.heap a oe C (some od) := ⟨at1, hz.1, by unfold PySem.W.notCls; rw [hd] <;> rfl, by rw [hz.2]; exact ho⟩
  exact HandSPX.exc_get I1.kIn J R.ga R.gg R.ex (PySem.W.findObj_own R.hd R.no rfl (by rw [hl, hw])) (handed_of rw') ⟨v, H1, I1.tok _, rw', q⟩
/-! ### o.m(.., k = e) -/
def tMethK (e : En) (W : WX) (m : Str) (ks : List Str) (ta : TE) (t tk : TA) : TE := fun σ H Q => ta σ H fun x H1 => ∃ a C dx fs g, x = .ref a ∧ H1 a = some (.ins C dx fs) ∧ Cls e.K C ∧ Meth e.K C m g ∧ fs.lookup m = none ∧
  t σ H1 fun vs H2 => tk σ H2 fun zs H3 => vCallK e (.ref g) ks (.ref a :: vs) zs (fun c d H' => W c d σ H') H3 Q
theorem z_methK0 {n : En} {X : Cx} {W : WX} {o : Expr} {m : Str} {apos pos : Pos} {kws : List Keyword} {ks : List Str} {ta : TE} {tk' : TA} {pl : Sem Bool} (oo : Of n X) (tk : Takes X W) (he : PE X o ta) (hkw : PK X kws tk')
    (hall : (backToKw pos (keywordEach kws X.env)).all (·.1.isSome) = true := by rfl) (hks : (backToKw pos (keywordEach kws X.env)).filterMap (·.1) = ks := by rfl) (hpl : ((backTo pos (starEach [] X.env)).any (·.1) || (backToKw pos (keywordEach kws X.env)).any (·.1.isNone)) = false := by rfl)
    (ht : eval (.Call (.Attribute o m apos) [] kws pos) X.env = (do
      let ov ← eval o X.env
      standAt apos.atName
      let (f, first) ← holding [ov] (getMethod ov m pl)
      callWith pos f first (backTo pos (starEach [] X.env)) (backToKw pos (keywordEach kws X.env))) := by rfl) : PE X (.Call (.Attribute o m apos) [] kws pos) (tMethK n W m ks ta tNil tk') := by
  refine ⟨fun pins s σ H Q I h => PySem.W.methodCall_KW (pl := pl) (thn (he.run pins s σ H _ I h) fun u s1 ⟨x, H1, I1, rx, a, C, dx, fs, g, ex, ea, c, hm, l, q⟩ => ?_) ht⟩
  subst ex
  cases (show u = Value.ref a from rx)
  rw [← oo.K] at c hm
  refine getmeth_ok I1 ea c hm l (PySem.W.callWith_KW0 (first := [.ref a]) (h₀ := X.base) I.ok.mod.kin hm.kp hall ?_ hpl)
  refine thn (hkw.run pos pins s1 σ H1 _ I1 q) fun ws s2 ⟨zs, H2, I2, rz, q2⟩ => ⟨I2.kIn, ?_⟩
  rw [hks]
  exact q2.run X oo pins s2 σ [.ref a] ws (fun _ _ _ w => xw_of tk w) I2 (.cons rfl .nil) rz
end Z

namespace ZE
open PySem PySem.Spec PyProof.Rows L2 Z
/-! ### the head's facts of exceptions -/
abbrev FnY : Type := Option (Str × Str × Arguments × FuncBody × Scope × Addr × List Str × Addr)
def fnY (K : PySem.W.Frag) (a : Addr) : FnY := match K.lookup a with
  | some ⟨_, _, .func fd, _⟩ => some (fd.name, fd.qualname, fd.params, fd.body, fd.scope, fd.globals, fd.closure.map (·.1), fd.builtins)
  | _ => none
structure DefY where
  at_ : PySem.W.Frag → Addr
  qual : Str
  st : Stmt
def DefY.val (d : DefY) : FnY := some ("__init__", d.qual, defArgs d.st, .stmts (defBody d.st), defScope d.st, mainGlobals, ["__class__"], builtinsNs)
abbrev AlE : Type := AlZ × List FnY
def obsE (fn : List He5.DefA) (ex : PySem.W.Frag → List Bool) (fy : List DefY) (K : PySem.W.Frag) : AlE := (obsZ fn ex K, fy.map fun d => fnY K (d.at_ K))
def valE (fn : List He5.DefA) (fy : List DefY) : AlE := (valZ fn, fy.map DefY.val)
def SaysE (fn : List He5.DefA) (ex : PySem.W.Frag → List Bool) (fy : List DefY) (K : PySem.W.Frag) : Prop := obsE fn ex fy K = valE fn fy
def obsEG (n : Nat) (fn : List He5.DefA) (ex : PySem.W.Frag → List Bool) (fy : List DefY) (g : Addr → Option Obj) : AlE := obsE fn ex fy (He.frG g (He5.asA g n))
def hookE (n : Nat) (fn : List He5.DefA) (ex : PySem.W.Frag → List Bool) (fy : List DefY) : PySem.W.Hook where
  α := AlE
  obs := fun s => obsEG n fn ex fy s.heap.get?
  val := fun _ => valE fn fy
  says := fun _ h => ∃ K : PySem.W.Frag, K.In h ∧ SaysE fn ex fy K
  of := fun _ _ e => ⟨_, He.frG_in, e⟩
  keeps := fun _ _ _ z k => z.elim fun K y => ⟨K, PySem.W.Frag.In.keeps y.1 k, y.2⟩
theorem obsE_tree {n : Nat} {fn : List He5.DefA} {ex : PySem.W.Frag → List Bool} {fy : List DefY} (s : PySem.W.SharedT) : obsEG n fn ex fy (HandSHeadRun.getT s) = (hookE n fn ex fy).obs s.abs := by
  rw [show HandSHeadRun.getT s = s.abs.heap.get? from funext (HandSHeadRun.getT_eq s)] <;> rfl
section
variable {fn : List He5.DefA} {ex : PySem.W.Frag → List Bool} {fy : List DefY} {K : PySem.W.Frag}
theorem SaysE.z (c : SaysE fn ex fy K) : SaysZ fn ex K := congrArg Prod.fst c
theorem SaysE.b (c : SaysE fn ex fy K) (i : Nat) {b : Bool} (h : (ex K)[i]? = some b) : b = true := c.z.b i h
theorem SaysE.d (c : SaysE fn ex fy K) (i : Nat) {d : He5.DefA} (h : fn[i]? = some d) : ∃ fd, FunD K d.name d.qual d.params d.body d.scope (d.dvs K) (d.kws K) (d.at_ K) fd := c.z.d i h
theorem SaysE.y (c : SaysE fn ex fy K) (i : Nat) {d : DefY} (h : fy[i]? = some d) : fnY K (d.at_ K) = d.val := by
  have e := congrArg (fun l : List FnY => l[i]?) (congrArg Prod.snd c)
  simp only [obsE, valE, List.getElem?_map, h, Option.map_some] at e
  exact Option.some.inj e
end
/-- a family of built-in exceptions -/
structure Fam where
  B : String
  newId : String
  i : String
  bm : List Value
structure FamOk (f : Fam) : Prop where
  FB : PySem.ExcBaseFacts f.B f.newId f.i f.bm
  SF : PySem.StoreFacts f.B f.bm "object.__setattr__" "object"
  KF : PySem.W.KxsFacts f.B f.i
def famVE : Fam := ⟨"ValueError", "ValueError.__new__", "ValueError.__init__", [.type "ValueError", .type "Exception", .type "BaseException", .type "object"]⟩
theorem famVE_ok : FamOk famVE := ⟨PySem.F.excBase_ValueError, PySem.F.store_ValueError, PySem.W.kxs_ValueError⟩
def famLE : Fam := ⟨"LookupError", "LookupError.__new__", "LookupError.__init__", [.type "LookupError", .type "Exception", .type "BaseException", .type "object"]⟩
theorem famLE_ok : FamOk famLE := ⟨PySem.F.excBase_LookupError, PySem.F.store_LookupError, PySem.W.kxs_LookupError⟩
def famAE : Fam := ⟨"ArithmeticError", "ArithmeticError.__new__", "ArithmeticError.__init__", [.type "ArithmeticError", .type "Exception", .type "BaseException", .type "object"]⟩
theorem famAE_ok : FamOk famAE := ⟨PySem.F.excBase_ArithmeticError, PySem.F.store_ArithmeticError, PySem.W.kxs_ArithmeticError⟩
def cellB (P : Program) (K : PySem.W.Frag) (C fI : Addr) (qual : Str) : Bool := match K.lookup fI with
  | some ⟨_, _, .func fd, _⟩ => (match fd.defaults, fd.closure, fd.code with
    | .none, [(_, cc)], .ref cda => PySem.W.codeIn K (.ref cda) qual && (match K.lookup cc with
      | some ⟨_, _, .cell (some (.ref D)), _⟩ => D == C
      | _ => false) && (match K.lookup cda with
      | some ⟨_, _, .fields vs, _⟩ => (match (vs[2]? : Option Value) with
        | some (Value.str file _) => ((P.main.file : Str) == file)
        | _ => false)
      | _ => false)
    | _, _, _ => false)
  | _ => false
def extB (P : Program) (K : PySem.W.Frag) (C fI : Addr) (qual : Str) (fs : List Str) (f : Fam) : Bool :=
  [PySem.W.excInitIn K C f.bm f.newId, PySem.W.excOver K C f.bm, He.eqO (PySem.W.findIn K (.ref C) "__setattr__") (some (some (.builtin "object.__setattr__"))), PySem.W.hasDictIn K C,
   fs.all fun n => decide (PySem.W.takerIn K C n = some none), He.eqO (PySem.W.findIn K (.ref C) "__init__") (some (some (.ref fI))), decide (PySem.W.typeIn K (.ref fI) = some (.type "function")), PySem.W.keepIn K (.ref C),
   decide (PySem.W.subIn K (.ref C) (.type "BaseException") = some true), decide (PySem.W.typeIn K (.ref C) = some (.type "type")), He.eqO (PySem.W.ks_superIn K C C "__init__") (some (some (.builtin f.i))), decide (PySem.W.subIn K (.ref C) (.type f.B) = some true),
   decide (PySem.W.mroIn K C (.ref C) = some true), He.eqO (PySem.W.nsIn K cStatics "thirdparty.any") (some none), !(P.main.scope.names.lookup ("super" : Str)).isSome, cellB P K C fI qual].all fun b => b
theorem ext_ok {P : Program} {K : PySem.W.Frag} {st : Stmt} {C fI : Addr} {qual : Str} {fs : List Str} {f : Fam} (fo : FamOk f) (h : extB P K C fI qual fs f = true) (y : fnY K fI = (DefY.mk (fun _ => fI) qual st).val) : ExT P K st qual C fI fs f.B f.newId f.i f.bm := by
  simp only [extB, List.all_cons, List.all_nil, Bool.and_true, Bool.and_eq_true] at h
  obtain ⟨h1, h2, h3, h4, h5, h6, h7, h8, h9, h10, h11, h12, h13, h14, h15, h16⟩ := h
  refine ⟨fo.FB, fo.SF, fo.KF, h1, h2, He.eqO_ok h3, h4, fun n hn => of_decide_eq_true (List.all_eq_true.mp h5 n hn), He.eqO_ok h6, of_decide_eq_true h7, h8, of_decide_eq_true h9, of_decide_eq_true h10, He.eqO_ok h11, of_decide_eq_true h12, of_decide_eq_true h13, He.eqO_ok h14, by simpa using h15, ?_⟩
  unfold cellB at h16
  unfold fnY at y
  split at h16
  · rename_i oc od fd osl lk
    rw [lk] at y
    obtain ⟨n1, n2, n3, n4, n5, n6, n7, n8, n9, n10, n11, n12, n13, n14, n15⟩ := fd
    simp only [DefY.val, Option.some.injEq, Prod.mk.injEq] at y
    obtain ⟨e1, e2, e3, e4, e5, e6, e7, e8⟩ := y
    subst e1 e2 e3 e4 e5 e6 e8
    split at h16
    · rename_i q cc cda h17 h18 h19
      dsimp only at h17 h18 h19
      subst h17 h18 h19
      simp only [List.map_cons, List.map_nil, List.cons.injEq, and_true] at e7
      subst e7
      simp only [Bool.and_eq_true] at h16
      obtain ⟨⟨h20, h21⟩, h22⟩ := h16
      split at h21
      · rename_i cl cld D csl lc
        cases (beq_iff_eq.mp h21)
        split at h22
        · rename_i ccl cdd vs ccs lcd
          split at h22
          · rename_i file tf hv
            exact ⟨oc, od, osl, _, _, _, _, _, cda, cc, vs, file, tf, ccl, cdd, ccs, cl, cld, csl, lk, h20, lcd, hv, h22, lc⟩
          · cases h22
        · cases h22
      · cases h21
    · cases h16
  · cases h16
def readB (K : PySem.W.Frag) (C : Addr) (f : Str) : Bool := He.eqO (PySem.W.findIn K (.ref C) "__getattribute__") (some (some (.builtin "BaseException.__getattribute__"))) && (He.eqO (PySem.W.findIn K (.ref C) "__getattr__") (some none) && (decide (PySem.W.subIn K (.ref C) (.type "BaseException") = some true) &&
  (PySem.W.hasDictIn K C && He.eqO (PySem.W.findIn K (.ref C) f) (some none))))
theorem read_ok {K : PySem.W.Frag} {C : Addr} {f : Str} (h : readB K C f = true) : ExRead K C f := by
  obtain ⟨h1, h⟩ := He.ba h
  obtain ⟨h2, h⟩ := He.ba h
  obtain ⟨h3, h⟩ := He.ba h
  obtain ⟨h4, h5⟩ := He.ba h
  exact ⟨He.eqO_ok h1, He.eqO_ok h2, of_decide_eq_true h3, h4, He.eqO_ok h5⟩
end ZE

namespace Z
open PySem PySem.Spec PyProof.Rows L2
/-! ### repr of what is drawn -/
mutual
theorem dp_same {K : PySem.W.Frag} {H H' : Hp} (s : Same H H') : ∀ {v : V} {d : PyData}, Dp K H v d → Dp K H' v d
  | _, _, .non => .non
  | _, _, .bl b => .bl b
  | _, _, .int i => .int i
  | _, _, .str x => .str x
  | _, _, .lst h a => .lst (sql_same s h) (dpAll_same s a)
  | _, _, .tup h a => .tup (sqt_same s h) (dpAll_same s a)
theorem dpAll_same {K : PySem.W.Frag} {H H' : Hp} (s : Same H H') : ∀ {vs : List V} {ds : List PyData}, DpAll K H vs ds → DpAll K H' vs ds
  | _, _, .nil => .nil
  | _, _, .cons h a => .cons (dp_same s h) (dpAll_same s a)
end
/-- the text of a value -/
inductive Shw (K : PySem.W.Frag) (H : Hp) : V → Str → Prop
  | int (i : Int) (h : i.natAbs.log2 < 1920) : Shw K H (.int i) (Str.ofString (toString i))
  | bl (b : Bool) : Shw K H (.bl b) (if b then Str.ofString "True" else Str.ofString "False")
  | non : Shw K H .non (Str.ofString "None")
  | str (t : Str) (h : (reprText t).length ≤ sizeLine) : Shw K H (.str t) (reprText t)
  | data {a : Addr} {d : PyData} (h : Dp K H (.ref a) d) (h1 : d.showable = true) (h2 : d.hasDict = false) (h3 : d.depth ≤ 60) (h4 : d.shown.length ≤ sizeLine) : Shw K H (.ref a) d.shown
  | emp {a : Addr} (h : H a = some (.dK [])) : Shw K H (.ref a) (PyData.dict []).shown
theorem Shw.same {K : PySem.W.Frag} {H H' : Hp} (s : Same H H') {v : V} {t : Str} : Shw K H v t → Shw K H' v t
  | .int i h => .int i h
  | .bl b => .bl b
  | .non => .non
  | .str t h => .str t h
  | .data h h1 h2 h3 h4 => .data (dp_same s h) h1 h2 h3 h4
  | .emp h => .emp (s _ _ h)
theorem e_shw {n : En} {H : Hp} {Q : VK} {x : V} {t : Str} (hg : n.A.guards = some []) (hu : n.A.units + 64 < cLine) (h : Shw n.K H x t) (q : Q (.str t) H) : vCB n (.builtin "repr") [x] H Q := by
  cases h with
  | int i h => exact e_reprI h q
  | bl b => exact e_reprBl q
  | non => exact e_reprN q
  | str t h => exact e_reprS h q
  | @data a d h h1 h2 h3 h4 =>
    refine ⟨fun X o pins s σ us I r => ?_⟩
    obtain ⟨u, rfl, ru⟩ := vals1 r
    cases (show u = Value.ref a from ru)
    rw [← o.K] at h
    obtain ⟨as, R⟩ := Dp.reads I d _ _ h rfl
    exact repr_of_reads' R h1 (PyData.noDict_hsm h2) (by rw [o.A]; exact hg) (by rw [o.A]; omega) (fun _ _ e => e) (fun h' u tk kk => ⟨.str d.shown, H, I.kept kk, ⟨u, rfl⟩, q⟩) h4
  | @emp a h =>
    refine ⟨fun X o pins s σ us I r => ?_⟩
    obtain ⟨u, rfl, ru⟩ := vals1 r
    cases (show u = Value.ref a from ru)
    obtain ⟨_, ns, vs, kv, ob, es, ep, e1, e2, e3, e4, e5, e6⟩ := (show ObjOk X.prog X.w H s.heap a (.dK []) from I.hok a _ h)
    cases kv
    generalize hl : es.toList = l at e5
    cases e5
    have R : Reads s.heap (.ref a) (.dict []) (a :: [] ++ []) := .dict e1 e2.1 e3 (by rw [hl]; exact .nil) (by rw [hl]; exact .nil)
    refine repr_of_reads' R (by simp [PyData.showable, PyData.showableKv]) (fun _ hm => ?_) (by rw [o.A]; exact hg) (by rw [o.A, PyData.depth, PyData.depthKv]; omega) (fun _ _ e => e) (fun h' u tk kk => ⟨.str _, H, I.kept kk, ⟨u, rfl⟩, q⟩) (by decide)
    simp only [List.append_nil, List.mem_singleton] at hm
    rw [hm] at ns
    simp at ns
theorem Rm.units' {k : Nat} {A : Around} (r : Rm k A) : A.units + 64 < cLine := r.toRoom.units
/-- {} -/
structure vDic (H : Hp) (Q : VK) : Prop where
  run : ∀ p, H p = none → Q (.ref p) (upd H p (.dK []))
def uDic : TE := fun _ H Q => vDic H Q
theorem z_dic {X : Cx} {pos : Pos} : PE X (.Dict [] [] pos) uDic := pe_imp pe_dnewK fun _ _ _ h => h.run
theorem n_dic {H : Hp} {Q : VK} (q : ∀ p H', H p = none → Same H H' → H' p = some (.dK []) → Q (.ref p) H') : vDic H Q := ⟨a_new q⟩
/-! ### lists of texts -/
theorem strOk_of (s : String) : PyData.strOk (Str.ofString s) = true := by
  unfold PyData.strOk
  rw [← Array.all_toList, List.all_eq_true]
  intro c hc
  rw [PyProof.Rows.signs_ofString] at hc
  obtain ⟨d, _, rfl⟩ := List.mem_map.mp hc
  have := d.valid
  simp only [decide_eq_true_eq]
  rcases this with h | ⟨_, h⟩
  · exact Nat.lt_trans h (by decide)
  · exact h
theorem canStrs : ∀ xs : List Str, (∀ x ∈ xs, PyData.strOk x = true) → PyData.canLayAll0 (xs.map PyData.str) = true
  | [], _ => by simp [PyData.canLayAll0]
  | n :: r, h => by simp [PyData.canLayAll0, PyData.canLay0, canStrs r (fun x hx => h x (List.mem_cons_of_mem _ hx)), h n List.mem_cons_self]
theorem depStrs : ∀ xs : List Str, PyData.depthAll (xs.map PyData.str) = 0
  | [] => by simp [PyData.depthAll]
  | n :: r => by simp [PyData.depthAll, PyData.depth, depStrs r]
theorem shLS (xs : List Str) (h : ∀ x ∈ xs, PyData.strOk x = true) : SeqAt.shaped (.list (xs.map PyData.str)) = true := by simp [SeqAt.shaped, PyData.canLay0, PyData.depth, canStrs xs h, depStrs]
theorem dpStrs {K : PySem.W.Frag} {H : Hp} : ∀ xs : List Str, DpAll K H (xs.map V.str) (xs.map PyData.str)
  | [] => .nil
  | n :: r => .cons (.str n) (dpStrs r)
theorem eqvStrs : ∀ xs ys : List Str, PyData.eqvAll (xs.map PyData.str) (ys.map PyData.str) = decide (xs = ys)
  | [], [] => by simp [PyData.eqvAll]
  | [], y :: ys => by simp [PyData.eqvAll]
  | x :: xs, [] => by simp [PyData.eqvAll]
  | x :: xs, y :: ys => by
    simp only [List.map_cons, PyData.eqvAll, PyData.eqv, eqvStrs xs ys, List.cons.injEq, Bool.decide_and]
    by_cases h : x = y
    · simp [h]
    · simp [h]
theorem e_neLS {P : Program} {w : World} {K : PySem.W.Frag} {mg : Str → Option Value} {base : Heap} {A : Around} {k : Nat} {H : Hp} {Q : VK} {a b : Addr} {xs ys : List Str} (hr : Rm k A) (hx : SqL K H a (xs.map V.str)) (hy : SqL K H b (ys.map V.str)) (ox : ∀ x ∈ xs, PyData.strOk x = true) (oy : ∀ x ∈ ys, PyData.strOk x = true) (q : Q (.bl (!decide (xs = ys))) H) :
    vOp ⟨P, w, K, mg, base, A⟩ (compareOp .NotEq) (.ref a) (.ref b) H Q :=
  e_neD hr (.lst hx (dpStrs xs)) (.lst hy (dpStrs ys)) (shLS xs ox) (shLS ys oy) (by simpa [PyData.eqv, eqvStrs] using q)
theorem two_ok {x y : Str} (h1 : PyData.strOk x = true) (h2 : PyData.strOk y = true) : ∀ z ∈ [x, y], PyData.strOk z = true := by
  intro z hz
  simp only [List.mem_cons, List.not_mem_nil, or_false] at hz
  rcases hz with rfl | rfl
  · exact h1
  · exact h2
end Z

namespace Z
open PySem PySem.Spec PyProof.Rows L2
/-! ### try: .. except X as e: .. except Y as e: .. -/
abbrev Cl : Type := Value × Nat × (Addr → Value → Option Addr → TS)
def wM (K : PySem.W.Frag) (W : WX) (D : Ends) : List Cl → WX
  | [] => W
  | (c, i, ts) :: l => uAs K c i ts (wM K W D l) D
inductive HdA (X : Cx) : List ExceptHandler → List Cl → Prop
  | nil : HdA X [] []
  | cons {x nm : Str} {c : Value} {i : Nat} {ts : Addr → Value → Option Addr → TS} {b0 : Stmt} {su : List Stmt} {np pos' : Pos} {hs : List ExceptHandler} {l : List Cl} (hm : X.mg x = some c) (hg : Gl X x) (hdb : (x == ("__debug__" : Str)) = false) (hi : X.N[i]? = some nm) (hln : X.env.kindOf nm = some .local)
      (hsu : ∀ (a : Addr) (oe : Obj) (cls : Value) (d : Option Addr) (pn : List (Addr × Obj)), Zc cls d oe → (∃ vs, oe.data = .fields vs) → PSs (X.suite a ((a, oe) :: pn)) (b0 :: su) (ts a cls d)) (r : HdA X hs l) :
      HdA X (.ExceptHandler (some (.Name x np)) (some nm) (b0 :: su) pos' :: hs) ((c, i, ts) :: l)
def uTryM (K : PySem.W.Frag) (l : List Cl) (W : WX) (tb : WX → TS) : TS := fun D σ H => tb (wM K W D l) D σ H
theorem z_tryM {n : En} {X : Cx} {body : List Stmt} {h0 : ExceptHandler} {hds : List ExceptHandler} {l : List Cl} {pos : Pos} {tb : WX → TS} {W : WX} (o : Of n X) (hs : X.stack = X.env :: X.outer) (hf : X.env.frame = some X.env.locals) (hN : X.N.Nodup) (tk : Takes X W)
    (hb : ∀ (W : WX) (pn : List (Addr × Obj)) (xe : Value → Shared → Prop), Takes (X.tr pn xe) W → PassesOwn (model X.prog X.w) X.A X.env xe → PSs (X.tr pn xe) body (tb W)) (hh : HdA X (h0 :: hds) l) : PS X (.Try body (h0 :: hds) [] [] pos) (uTryM n.K l W tb) := by
  rw [← o.K]
  refine ⟨fun pins s σ H D I h => wpAny_Try_except ?_⟩
  have ok := I.ok
  have fr : X.A.frames = some (X.env :: X.outer) := ok.frames.trans (by rw [hs])
  let after : Value → Shared → Prop := fun e s1 => wpAny (model X.prog X.w) X.A (noteFrame e X.env) (fun _ s2 => wpAny (model X.prog X.w) X.A (setFlight e none) (fun _ s3 => wpAny (model X.prog X.w) X.A (handleBy e X.env (h0 :: hds)) (SP X pins D) X.xe s3) X.xe s2) X.xe s1
  refine wpAny_mono ((hb (wM X.K W D l) (X.pn ++ pins) after (fun u s' xx => ?_) PassesOwn.looking).run [] s σ H D (I.toTry _) h) (fun f s1 z => ?_) (fun e s1 z => z)
  · obtain ⟨a, B, sI, pins', σ', H', cls, d, rfl, J', nb, up, sky, na, os, ag, w⟩ := xx
    have J : Inv X pins σ' H' sI := J'.ofTry ok
    show wpAny (model X.prog X.w) X.A (noteFrame (.ref a) X.env) _ _ _
    refine Sky.land Zc.steady fr hf (by rw [← hs]; exact sky) fun h3 fl up3 => ?_
    have J3 : Inv X pins σ' H' { s' with heap := h3 } := J.landed nb fl.1 (up.trans up3) os ag
    obtain ⟨oe, vs, he, hz, hd⟩ := fl.there
    have off : a ∉ frs (X.env :: X.outer) := fun hm => by
      obtain ⟨_, o', e', hn⟩ := fl.2.2.1.mem hm
      rw [he] at e'
      cases e'
      exact hn _ hd
    have nL : a ≠ X.env.locals := fun y => off (List.mem_filterMap.mpr ⟨X.env, List.mem_cons_self, by rw [hf, y]⟩)
    have nF : a ∉ X.fs := fun hm => by
      obtain ⟨e, h1, h2⟩ := List.mem_filterMap.mp hm
      exact off (List.mem_filterMap.mpr ⟨e, List.mem_cons_of_mem _ h1, h2⟩)
    have S3 := J3.suite he hd na nL nF
    have LT : PySem.W.Looks (model X.prog X.w) h3 (typeOf (.ref a)) cls := fun A Q E s k q => wpAny_typeOf_ref (k _ _ he) (by rw [hz.1]; exact q)
    have go : ∀ {hds' : List ExceptHandler} {l' : List Cl}, HdA X hds' l' → wM X.K W D l' cls d σ' H' → wpAny (model X.prog X.w) X.A (handleBy (.ref a) X.env hds') (SP X pins D) X.xe { s' with heap := h3 } := by
      intro hds' l' hk
      induction hk with
      | nil =>
        intro w
        refine wpAny_handleBy_nil ?_
        obtain ⟨_, _, _, oe', vs', T, oT, ts', he', _, hd', h1, _⟩ := id fl
        unfold PySem.passOn
        refine wpAny_bind (wpAny_field he' hd' h1 ?_)
        rw [if_neg (show ¬ ((Value.ref T == Value.none) = true) from by simp)]
        have out : wpAny (model X.prog X.w) X.A (setFlight (.ref a) X.env.frame) (fun _ s4 => wpAny (model X.prog X.w) X.A (throw (.ref a) : Sem Flow) (SP X pins D) X.xe s4) X.xe { s' with heap := h3 } := by
          rw [hf]
          exact HandSPX.setFlight_upZ fl fun h4 hh4 up4 => wpAny_throw (tk _ _ ⟨a, B, sI, pins, σ', H', cls, d, rfl, J, nb, (up.trans up3).trans up4, .inr (.inr (by rw [hs]; exact hh4)), na, os, ag, w⟩)
        first
          | exact wpAny_bind (wpAny_pure (wpAny_bind out))
          | exact wpAny_bind out
      | @cons x nm c i ts b0 su np pos' hs2 l2 hm hg hdb hi hln hsu r ih =>
        intro w
        obtain ⟨b, hb1, hyes, hno⟩ := w.run
        refine wpAny_handleBy_cons (codeAny_handlers_test ?_) (by intro q; cases q)
        have LM := PySem.W.exm_one (M := model X.prog X.w) J3.kIn LT hb1
        refine ld_glob (X := X.suite a ((a, oe) :: (X.pn ++ pins))) S3 hg hm (LM.here ?_) hdb
        cases b with
        | true =>
          refine codeAny_handlers_suite_as (HandSPX.lands_againZ fl fun h4 fl4 up4 => ?_)
          have J4 : Inv X pins σ' H' { s' with heap := h4 } := J.landed nb fl4.1 ((up.trans up3).trans up4) os ag
          obtain ⟨oe4, vs4, he4, hz4, hd4⟩ := fl4.there
          refine store_ok (X := X.suite a ((a, oe4) :: (X.pn ++ pins))) (v := .ref a) (J4.suite he4 hd4 na nL nF) hN hi (.inl hln) rfl (fun s5 S5 => ?_) (.inr hln)
          refine wpAny_mono ((hsu a oe4 cls d (X.pn ++ pins) hz4 ⟨_, hd4⟩).run [] s5 _ H' _ S5 (hyes rfl a na)) (fun f s6 y => ?_) (fun _ _ z => False.elim z)
          have fin : ∀ {σ6 : L2.St} {H6 : Hp} {R : Shared → Prop}, Inv (X.suite a ((a, oe4) :: (X.pn ++ pins))) [] σ6 H6 s6 → (∀ s7, Inv X pins (σ6.set i none) H6 s7 → R s7) → wpAny (model X.prog X.w) X.A (do bindName X.env nm .none; unbindBehindTheSuite X.env nm pos') (fun _ s7 => R s7) X.xe s6 :=
            fun S6 hq => gone_ok (S6.unsuite ok) hN hi hln hq
          cases f with
          | next => obtain ⟨σ6, H6, S6, q⟩ := y; exact fin S6 fun s7 J7 => ⟨_, _, J7, q⟩
          | brk => obtain ⟨σ6, H6, S6, q⟩ := y; exact fin S6 fun s7 J7 => ⟨_, _, J7, q⟩
          | cont => obtain ⟨σ6, H6, S6, q⟩ := y; exact fin S6 fun s7 J7 => ⟨_, _, J7, q⟩
          | ret u => obtain ⟨v6, σ6, H6, S6, r6, q⟩ := y; exact fin S6 fun s7 J7 => ⟨_, _, _, J7, r6, q⟩
        | false =>
          show wpAny _ X.A (handleBy (.ref a) X.env hs2) _ _ _
          exact ih (hno rfl)
    exact go hh w
  · cases f with
    | next => obtain ⟨σ', H', J', q⟩ := z; exact wpAny_execs_nil ⟨σ', H', J'.ofTry ok, q⟩
    | brk => obtain ⟨σ', H', J', q⟩ := z; exact ⟨σ', H', J'.ofTry ok, q⟩
    | cont => obtain ⟨σ', H', J', q⟩ := z; exact ⟨σ', H', J'.ofTry ok, q⟩
    | ret u => obtain ⟨v, σ', H', J', r, q⟩ := z; exact ⟨v, σ', H', J'.ofTry ok, r, q⟩
end Z
namespace Z
open PySem PySem.Spec PyProof.Rows L2
theorem tyo_same {K : PySem.W.Frag} {H H' : Hp} (s : Same H H') {x : V} {t : Value} : TyOf K H x t → TyOf K H' x t
  | .non => .non
  | .bl b => .bl b
  | .int i => .int i
  | .str i => .str i
  | .flt i => .flt i
  | .lst e => .lst (s _ _ e)
  | .frz e => .frz (s _ _ e)
  | .tup e => .tup (s _ _ e)
  | .dK e => .dK (s _ _ e)
  | .dT e => .dT (s _ _ e)
  | .ins e c h1 h2 h3 h4 => .ins (s _ _ e) c h1 h2 h3 h4
theorem tyx_same {K : PySem.W.Frag} {H H' : Hp} (s : Same H H') {x : V} {t : Value} : TyX K H x t → TyX K H' x t
  | .base h => .base (tyo_same s h)
  | .byt b => .byt b
  | .set e => .set (s _ _ e)
  | .kList e c => .kList e c
  | .kTuple e c => .kTuple e c
  | .kDict e c => .kDict e c
  | .fTuple e => .fTuple (s _ _ e)
  | .fDict e => .fDict (s _ _ e)
end Z

namespace Z
open PySem PySem.Spec PyProof.Rows L2
/-! ### data: what a value stands for, while only the objects in M change -/
/-- what is not in N stays; nothing goes -/
structure Lk (N : List Addr) (H H' : Hp) : Prop where
  keep : ∀ a o, a ∉ N → H a = some o → H' a = some o
  dom : ∀ a, H a ≠ none → H' a ≠ none
/-- what is in M is there -/
def Al (M : List Addr) (H : Hp) : Prop := ∀ a, a ∈ M → H a ≠ none
section
variable {M N N' : List Addr} {H H1 H2 H' : Hp} {a p s : Addr} {o : HO}
theorem Lk.refl : Lk N H H := ⟨fun _ _ _ h => h, fun _ h => h⟩
theorem Lk.trans (x : Lk N H H1) (y : Lk N H1 H2) : Lk N H H2 := ⟨fun a o n h => y.keep a o n (x.keep a o n h), fun a h => y.dom a (x.dom a h)⟩
theorem Lk.sub (l : Lk N H H') (s : N ⊆ N') : Lk N' H H' := ⟨fun a o n h => l.keep a o (fun z => n (s z)) h, l.dom⟩
theorem Lk.step (l : Lk N' H1 H') (s : N' ⊆ N) (x : Lk N H H1) : Lk N H H' := x.trans (l.sub s)
theorem Lk.same (s : Same H H') : Lk N H H' := ⟨fun a o _ h => s a o h, fun a h e => by
  cases q : H a with
  | none => exact h q
  | some o => rw [s a o q] at e; cases e⟩
theorem Lk.but (b : But s H H') (h : H' s ≠ none) : Lk [s] H H' := ⟨fun a o n e => b a o (fun z => n (by rw [z]; exact List.mem_singleton_self _)) e, fun a n e => by
  by_cases z : a = s
  · rw [z] at e; exact h e
  · cases q : H a with
    | none => exact n q
    | some o => rw [b a o z q] at e; cases e⟩
theorem Lk.to_but (l : Lk [s] H H') : But s H H' := fun b o n e => l.keep b o (fun z => n (List.mem_singleton.mp z)) e
theorem Lk.get (l : Lk N H H') (n : a ∉ N) (h : H a = some o) : H' a = some o := l.keep a o n h
theorem Lk.less (l : Lk (p :: N) H H') (n : H p = none) : Lk N H H' := ⟨fun a o m e => l.keep a o (fun z => (List.mem_cons.mp z).elim (fun z => by rw [z, n] at e; cases e) m) e, l.dom⟩
theorem Lk.same' (l : Lk [] H H') : Same H H' := fun a o h => l.keep a o (by simp) h
theorem Lk.free (l : Lk N H H') (n : H' p = none) : H p = none := by
  cases q : H p with
  | none => rfl
  | some o => exact absurd n (l.dom p (by rw [q]; simp))
theorem Al.lk (l : Lk N H H') (x : Al M H) : Al M H' := fun a m => l.dom a (x a m)
theorem Al.ad (x : Al M H) (h : H p ≠ none) : Al (p :: M) H := fun a m => (List.mem_cons.mp m).elim (fun z => by rw [z]; exact h) (x a)
theorem Al.less (x : Al (p :: M) H) : Al M H := fun a m => x a (List.mem_cons_of_mem _ m)
theorem Al.nil : Al [] H := fun _ z => by cases z
theorem Al.off (x : Al M H) (n : H p = none) : p ∉ M := fun m => x p m n
end
/-- a list, a tuple that does not change -/
def SqTm (M : List Addr) (K : PySem.W.Frag) (H : Hp) (a : Addr) (xs : List V) : Prop := (a ∉ M ∧ SqT K H a xs) ∨ ∀ H, SqT K H a xs
section
variable {M N : List Addr} {K : PySem.W.Frag} {H H' : Hp} {a p : Addr} {xs : List V}
theorem SqTm.sq (h : SqTm M K H a xs) : SqT K H a xs := h.elim (·.2) (· H)
theorem sql_lk (l : Lk N H H') (sb : N ⊆ M) (n : a ∉ M) (h : SqL K H a xs) : SqL K H' a xs := by
  rcases h with (h | ⟨o, h⟩) | h
  · exact .inl (.inl (l.keep _ _ (fun z => n (sb z)) h))
  · exact .inl (.inr ⟨o, l.keep _ _ (fun z => n (sb z)) h⟩)
  · exact .inr h
theorem sqt_lk (l : Lk N H H') (sb : N ⊆ M) (n : a ∉ M) (h : SqT K H a xs) : SqT K H' a xs := by
  rcases h with (h | ⟨o, h⟩) | h
  · exact .inl (.inl (l.keep _ _ (fun z => n (sb z)) h))
  · exact .inl (.inr ⟨o, l.keep _ _ (fun z => n (sb z)) h⟩)
  · exact .inr h
theorem SqTm.lk (l : Lk N H H') (sb : N ⊆ M) (h : SqTm M K H a xs) : SqTm M K H' a xs := h.imp (fun h => ⟨h.1, sqt_lk l sb h.1 h.2⟩) id
theorem SqTm.less (s : N ⊆ M) (h : SqTm M K H a xs) : SqTm N K H a xs := h.imp (fun h => ⟨fun z => h.1 (s z), h.2⟩) id
theorem ne_of_sql (n : H p = none) (h : SqL K H a xs) : a = p → ∀ H, SqL K H a xs := by
  rintro rfl
  rcases h with (h | ⟨o, h⟩) | h
  · rw [n] at h; cases h
  · rw [n] at h; cases h
  · exact fun H => .inr h
theorem ne_of_sqt (n : H p = none) (h : SqT K H a xs) : a = p → ∀ H, SqT K H a xs := by
  rintro rfl
  rcases h with (h | ⟨o, h⟩) | h
  · rw [n] at h; cases h
  · rw [n] at h; cases h
  · exact fun H => .inr h
theorem SqTm.more (n : H p = none) (h : SqTm M K H a xs) : SqTm (p :: M) K H a xs := by
  rcases h with ⟨h, q⟩ | h
  · by_cases e : a = p
    · exact .inr (ne_of_sqt n q e)
    · exact .inl ⟨fun z => (List.mem_cons.mp z).elim e h, q⟩
  · exact .inr h
end
/-- an instance as data -/
abbrev objD (C : Addr) (fs : List (PyData × PyData)) : PyData := .dict ((.int (C : Int), .none) :: fs)
mutual
inductive Kd (M : List Addr) (K : PySem.W.Frag) (H : Hp) : V → PyData → Prop
  | non : Kd M K H .non .none
  | bl (b : Bool) : Kd M K H (.bl b) (.bool b)
  | int (i : Int) : Kd M K H (.int i) (.int i)
  | str (x : Str) : Kd M K H (.str x) (.str x)
  | lst {a : Addr} {xs : List V} {ds : List PyData} (n : a ∉ M) (h : H a = some (.lst xs)) (r : KdL M K H xs ds) : Kd M K H (.ref a) (.list ds)
  | tup {a : Addr} {xs : List V} {ds : List PyData} (h : SqTm M K H a xs) (r : KdL M K H xs ds) : Kd M K H (.ref a) (.tuple ds)
  | obj {a C dx : Addr} {ws : List (Str × V)} {fs : List (PyData × PyData)} (n : a ∉ M) (h : H a = some (.ins C dx ws)) (r : KdF M K H ws fs) : Kd M K H (.ref a) (objD C fs)
  | emp {a : Addr} (n : a ∉ M) (h : H a = some (.dK [])) : Kd M K H (.ref a) (.dict [])
inductive KdL (M : List Addr) (K : PySem.W.Frag) (H : Hp) : List V → List PyData → Prop
  | nil : KdL M K H [] []
  | cons {v : V} {vs : List V} {d : PyData} {ds : List PyData} (h : Kd M K H v d) (r : KdL M K H vs ds) : KdL M K H (v :: vs) (d :: ds)
inductive KdF (M : List Addr) (K : PySem.W.Frag) (H : Hp) : List (Str × V) → List (PyData × PyData) → Prop
  | nil : KdF M K H [] []
  | cons {k : Str} {v : V} {vs : List (Str × V)} {d : PyData} {ds : List (PyData × PyData)} (h : Kd M K H v d) (r : KdF M K H vs ds) : KdF M K H ((k, v) :: vs) ((.str k, d) :: ds)
end
section
variable {M N : List Addr} {K : PySem.W.Frag} {H H' : Hp} {a p : Addr} {xs : List V} {ds : List PyData}
mutual
theorem Kd.lk (l : Lk N H H') (sb : N ⊆ M) : ∀ {v : V} {d : PyData}, Kd M K H v d → Kd M K H' v d
  | _, _, .non => .non
  | _, _, .bl b => .bl b
  | _, _, .int i => .int i
  | _, _, .str x => .str x
  | _, _, .lst n h r => .lst n (l.keep _ _ (fun z => n (sb z)) h) (KdL.lk l sb r)
  | _, _, .tup h r => .tup (h.lk l sb) (KdL.lk l sb r)
  | _, _, .obj n h r => .obj n (l.keep _ _ (fun z => n (sb z)) h) (KdF.lk l sb r)
  | _, _, .emp n h => .emp n (l.keep _ _ (fun z => n (sb z)) h)
theorem KdL.lk (l : Lk N H H') (sb : N ⊆ M) : ∀ {v : List V} {d : List PyData}, KdL M K H v d → KdL M K H' v d
  | _, _, .nil => .nil
  | _, _, .cons h r => .cons (Kd.lk l sb h) (KdL.lk l sb r)
theorem KdF.lk (l : Lk N H H') (sb : N ⊆ M) : ∀ {v : List (Str × V)} {d : List (PyData × PyData)}, KdF M K H v d → KdF M K H' v d
  | _, _, .nil => .nil
  | _, _, .cons h r => .cons (Kd.lk l sb h) (KdF.lk l sb r)
end
mutual
theorem Kd.sub (l : N ⊆ M) : ∀ {v : V} {d : PyData}, Kd M K H v d → Kd N K H v d
  | _, _, .non => .non
  | _, _, .bl b => .bl b
  | _, _, .int i => .int i
  | _, _, .str x => .str x
  | _, _, .lst n h r => .lst (fun z => n (l z)) h (KdL.sub l r)
  | _, _, .tup h r => .tup (h.less l) (KdL.sub l r)
  | _, _, .obj n h r => .obj (fun z => n (l z)) h (KdF.sub l r)
  | _, _, .emp n h => .emp (fun z => n (l z)) h
theorem KdL.sub (l : N ⊆ M) : ∀ {v : List V} {d : List PyData}, KdL M K H v d → KdL N K H v d
  | _, _, .nil => .nil
  | _, _, .cons h r => .cons (Kd.sub l h) (KdL.sub l r)
theorem KdF.sub (l : N ⊆ M) : ∀ {v : List (Str × V)} {d : List (PyData × PyData)}, KdF M K H v d → KdF N K H v d
  | _, _, .nil => .nil
  | _, _, .cons h r => .cons (Kd.sub l h) (KdF.sub l r)
end
mutual
theorem Kd.new (n : H p = none) : ∀ {v : V} {d : PyData}, Kd M K H v d → Kd (p :: M) K H v d
  | _, _, .non => .non
  | _, _, .bl b => .bl b
  | _, _, .int i => .int i
  | _, _, .str x => .str x
  | _, _, .lst m h r => .lst (fun z => (List.mem_cons.mp z).elim (fun e => by rw [e, n] at h; cases h) m) h (KdL.new n r)
  | _, _, .tup h r => .tup (h.more n) (KdL.new n r)
  | _, _, .obj m h r => .obj (fun z => (List.mem_cons.mp z).elim (fun e => by rw [e, n] at h; cases h) m) h (KdF.new n r)
  | _, _, .emp m h => .emp (fun z => (List.mem_cons.mp z).elim (fun e => by rw [e, n] at h; cases h) m) h
theorem KdL.new (n : H p = none) : ∀ {v : List V} {d : List PyData}, KdL M K H v d → KdL (p :: M) K H v d
  | _, _, .nil => .nil
  | _, _, .cons h r => .cons (Kd.new n h) (KdL.new n r)
theorem KdF.new (n : H p = none) : ∀ {v : List (Str × V)} {d : List (PyData × PyData)}, KdF M K H v d → KdF (p :: M) K H v d
  | _, _, .nil => .nil
  | _, _, .cons h r => .cons (Kd.new n h) (KdF.new n r)
end
theorem Kd.less {v : V} {d : PyData} (h : Kd (p :: M) K H v d) : Kd M K H v d := h.sub (List.subset_cons_self _ _)
theorem KdL.less {v : List V} {d : List PyData} (h : KdL (p :: M) K H v d) : KdL M K H v d := h.sub (List.subset_cons_self _ _)
mutual
theorem Kd.dp : ∀ {v : V} {d : PyData}, d.hasDict = false → Kd M K H v d → Dp K H v d
  | _, _, _, .non => .non
  | _, _, _, .bl b => .bl b
  | _, _, _, .int i => .int i
  | _, _, _, .str x => .str x
  | _, _, e, .lst n h r => .lst (.of h) (KdL.dp (by rw [PyData.hasDict] at e; exact e) r)
  | _, _, e, .tup h r => .tup h.sq (KdL.dp (by rw [PyData.hasDict] at e; exact e) r)
  | _, _, e, .obj n h r => by simp [PyData.hasDict] at e
  | _, _, e, .emp n h => by simp [PyData.hasDict] at e
theorem KdL.dp : ∀ {v : List V} {d : List PyData}, PyData.hasDictAll d = false → KdL M K H v d → DpAll K H v d
  | _, _, _, .nil => .nil
  | _, _, e, .cons h r => by
    rw [PyData.hasDictAll, Bool.or_eq_false_iff] at e
    exact .cons (Kd.dp e.1 h) (KdL.dp e.2 r)
end
theorem KdL.length : ∀ {v : List V} {d : List PyData}, KdL M K H v d → v.length = d.length
  | _, _, .nil => rfl
  | _, _, .cons _ r => by rw [List.length_cons, List.length_cons, KdL.length r]
theorem KdL.get : ∀ {vs : List V} {ds : List PyData} {i : Nat} {d : PyData}, KdL M K H vs ds → ds[i]? = some d → ∃ v, vs[i]? = some v ∧ Kd M K H v d
  | _, _, _, _, .nil, e => by simp at e
  | _, _, 0, _, .cons h _, e => by simp at e; subst e; exact ⟨_, rfl, h⟩
  | _, _, i + 1, _, .cons _ r, e => by
    obtain ⟨v, h1, h2⟩ := KdL.get (i := i) r (by simpa using e)
    exact ⟨v, by simpa using h1, h2⟩
theorem KdL.getV : ∀ {vs : List V} {ds : List PyData} {i : Nat} {v : V}, KdL M K H vs ds → vs[i]? = some v → ∃ d, ds[i]? = some d ∧ Kd M K H v d
  | _, _, _, _, .nil, e => by simp at e
  | _, _, 0, _, .cons h _, e => by simp at e; subst e; exact ⟨_, rfl, h⟩
  | _, _, i + 1, _, .cons _ r, e => by
    obtain ⟨v, h1, h2⟩ := KdL.getV (i := i) r (by simpa using e)
    exact ⟨v, by simpa using h1, h2⟩
theorem KdL.app : ∀ {vs ws : List V} {ds es : List PyData}, KdL M K H vs ds → KdL M K H ws es → KdL M K H (vs ++ ws) (ds ++ es)
  | _, _, _, _, .nil, h => h
  | _, _, _, _, .cons a b, h => .cons a (KdL.app b h)
theorem KdL.take : ∀ {vs : List V} {ds : List PyData} (k : Nat), KdL M K H vs ds → KdL M K H (vs.take k) (ds.take k)
  | _, _, 0, _ => by simp only [List.take_zero]; exact .nil
  | _, _, k + 1, .nil => by simp only [List.take_nil]; exact .nil
  | _, _, k + 1, .cons a b => by simp only [List.take_succ_cons]; exact .cons a (KdL.take k b)
theorem KdL.drop : ∀ {vs : List V} {ds : List PyData} (k : Nat), KdL M K H vs ds → KdL M K H (vs.drop k) (ds.drop k)
  | _, _, 0, h => by simp only [List.drop_zero]; exact h
  | _, _, k + 1, .nil => by simp only [List.drop_nil]; exact .nil
  | _, _, k + 1, .cons a b => by simp only [List.drop_succ_cons]; exact KdL.drop k b
theorem KdL.set : ∀ {vs : List V} {ds : List PyData} {v : V} {d : PyData} (k : Nat), KdL M K H vs ds → Kd M K H v d → KdL M K H (vs.set k v) (ds.set k d)
  | _, _, _, _, _, .nil, _ => .nil
  | _, _, _, _, 0, .cons _ b, h => .cons h b
  | _, _, _, _, k + 1, .cons a b, h => .cons a (KdL.set k b h)
theorem KdL.at (h : KdL M K H xs ds) {i : Int} {d : PyData} (e : atI ds i = some d) : ∃ v, atI xs i = some v ∧ Kd M K H v d := by
  unfold atI at e ⊢
  rw [h.length]
  cases q : ixN ds.length i with
  | none => rw [q] at e; cases e
  | some j => rw [q] at e; exact h.get e
end
end Z

namespace Z
open PySem PySem.Spec PyProof.Rows L2
section
variable {n : En} {M N : List Addr} {K : PySem.W.Frag} {H : Hp} {Q : VK} {x y : V} {xs ys : List V} {d e : PyData} {ds es : List PyData} {i : Int}
theorem kd_tup {p : Addr} {H' : Hp} (al : Al M H) (h : KdL M K H xs ds) (np : H p = none) (s : Same H H') (hp : H' p = some (.tup xs)) : Kd M K H' (.ref p) (.tuple ds) := .tup (.inl ⟨al.off np, .of hp⟩) (h.lk (.same (N := M) s) (List.Subset.refl _))
theorem kd_lst {p : Addr} {H' : Hp} (al : Al M H) (h : KdL M K H xs ds) (np : H p = none) (s : Same H H') (hp : H' p = some (.lst xs)) : Kd M K H' (.ref p) (.list ds) := .lst (al.off np) hp (h.lk (.same (N := M) s) (List.Subset.refl _))
/-- what comes out of data -/
structure kAll (M : List Addr) (K : PySem.W.Frag) (H : Hp) (d : PyData) (Q : V → Prop) : Prop where
  run : ∀ v, Kd M K H v d → Q v
def kOut (M : List Addr) (K : PySem.W.Frag) (H : Hp) (d : PyData) (Q : V → Prop) : Prop := match d with
  | .none => Q .non
  | .bool b => Q (.bl b)
  | .int i => Q (.int i)
  | .str s => Q (.str s)
  | .list ds => kAll M K H (.list ds) Q
  | .tuple ds => kAll M K H (.tuple ds) Q
  | .dict kvs => kAll M K H (.dict kvs) Q
theorem kOut_of {Q : V → Prop} {v : V} (q : kOut M K H d Q) (h : Kd M K H v d) : Q v := by
  cases h with
  | non => exact q
  | bl b => exact q
  | int i => exact q
  | str s => exact q
  | lst a b c => exact q.run _ (.lst a b c)
  | tup a b => exact q.run _ (.tup a b)
  | obj a b c => exact q.run _ (.obj a b c)
  | emp a b => exact q.run _ (.emp a b)
def kOuts (M : List Addr) (K : PySem.W.Frag) (H : Hp) : List PyData → (List V → Prop) → Prop
  | [], R => R []
  | d :: ds, R => kOut M K H d fun v => kOuts M K H ds fun vs => R (v :: vs)
theorem kOuts_of : ∀ {ds : List PyData} {vs : List V} {R : List V → Prop}, kOuts M K H ds R → KdL M K H vs ds → R vs
  | [], _, _, q, .nil => q
  | d :: ds, v :: vs, R, q, .cons h r => kOuts_of (R := fun vs => R (v :: vs)) (kOut_of (Q := fun v => kOuts M K H ds fun vs => R (v :: vs)) q h) r
structure KIs (K : PySem.W.Frag) : Prop where
  i : True
/-- a written tuple, a written list -/
theorem k_tup (_ki : KIs K) (al : Al M H) (h : KdL M K H xs ds) (hl : Nat.ble xs.length 1000 = true) (q : ∀ p H', H p = none → Lk [] H H' → Kd M K H' (.ref p) (.tuple ds) → Q (.ref p) H') : vTup xs H Q :=
  n_tup hl fun p H' np s hp => q p H' np (.same s) (kd_tup al h np s hp)
theorem k_lst (_ki : KIs K) (al : Al M H) (h : KdL M K H xs ds) (hl : Nat.ble xs.length 1000 = true) (q : ∀ p H', H p = none → Lk [] H H' → Kd M K H' (.ref p) (.list ds) → Q (.ref p) H') : vLst xs H Q :=
  n_lst hl fun p H' np s hp => q p H' np (.same s) (kd_lst al h np s hp)
/-- t[i], l[i] -/
theorem k_ixT (h : Kd M n.K H x (.tuple ds)) (e : atI ds i = some d) (q : kOut M n.K H d fun v => Q v H) : vIx n x (.int i) H Q := by
  cases h with
  | tup h r =>
    obtain ⟨v, e1, k⟩ := r.at e
    exact e_ixT h.sq e1 (kOut_of (Q := fun v => Q v H) q k)
theorem k_ixL (h : Kd M n.K H x (.list ds)) (e : atI ds i = some d) (q : kOut M n.K H d fun v => Q v H) : vIx n x (.int i) H Q := by
  cases h with
  | lst m h r =>
    obtain ⟨v, e1, k⟩ := r.at e
    exact e_ixL (.of h) e1 (kOut_of (Q := fun v => Q v H) q k)
theorem at_lt {α : Type} {xs : List α} {i : Int} (h0 : 0 ≤ i) (h1 : i < xs.length) : ∃ x, atI xs i = some x ∧ x ∈ xs := by
  unfold atI ixN
  rw [if_pos h0, if_pos h1]
  have : i.toNat < xs.length := by omega
  exact ⟨xs[i.toNat], by simp [this], List.getElem_mem this⟩
/-- l[i], whichever it is -/
theorem k_ixLa (h : Kd M n.K H x (.list ds)) (h0 : 0 ≤ i) (h1 : i < ds.length) (q : ∀ d, d ∈ ds → kOut M n.K H d fun v => Q v H) : vIx n x (.int i) H Q := by
  obtain ⟨d, e, m⟩ := at_lt h0 h1
  exact k_ixL h e (q d m)
theorem k_ixTa (h : Kd M n.K H x (.tuple ds)) (h0 : 0 ≤ i) (h1 : i < ds.length) (q : ∀ d, d ∈ ds → kOut M n.K H d fun v => Q v H) : vIx n x (.int i) H Q := by
  obtain ⟨d, e, m⟩ := at_lt h0 h1
  exact k_ixT h e (q d m)
/-- len -/
theorem k_lenT (h : Kd M n.K H x (.tuple ds)) (q : Q (.int ds.length) H) : vCB n (.builtin "len") [x] H Q := by
  cases h with
  | tup h r => exact e_lenT h.sq (by rw [r.length]; exact q)
theorem k_lenL (h : Kd M n.K H x (.list ds)) (q : Q (.int ds.length) H) : vCB n (.builtin "len") [x] H Q := by
  cases h with
  | lst m h r => exact e_lenL (.of h) (by rw [r.length]; exact q)
/-- a, b, .. = t -/
theorem k_unp {m : Nat} {R : List V → Prop} (h : Kd M K H x (.tuple ds)) (hl : ds.length = m) (q : kOuts M K H ds R) : vUnp K m x H R := by
  cases h with
  | tup h r => exact n_unp h.sq (by rw [r.length]; exact hl) (kOuts_of q r)
/-- slices -/
theorem k_slL {lo hi : Option Int} (al : Al M H) (h : Kd M n.K H x (.list ds)) {es : List PyData} (e : ∀ vs, KdL M n.K H vs ds → KdL M n.K H (cutV vs lo hi) es) (q : ∀ p H', H p = none → Lk [] H H' → Kd M n.K H' (.ref p) (.list es) → Q (.ref p) H') : vSl n x lo hi H Q := by
  cases h with
  | lst m h r => exact n_slL (.of h) fun p H' np s hp => q p H' np (.same s) (kd_lst al (e _ r) np s hp)
theorem cut_all {vs : List V} {lo hi : Option Int} (h : HT.sIx vs.length 0 lo = 0 ∧ HT.sIx vs.length vs.length hi = vs.length) : cutV vs lo hi = vs := by
  unfold cutV
  rw [h.1, h.2, List.drop_zero, Nat.sub_zero, List.take_length]
theorem k_slT {lo hi : Option Int} (al : Al M H) (h : Kd M n.K H x (.tuple ds)) {es : List PyData} (e : ∀ vs, KdL M n.K H vs ds → KdL M n.K H (cutV vs lo hi) es) (q : ∀ v H', Lk [] H H' → Kd M n.K H' v (.tuple es) → Q v H') : vSl n x lo hi H Q := by
  cases h with
  | tup h r =>
    rename_i a vs
    refine ⟨rSlA, fun _ _ => sl_tupA, a, vs, rfl, h.sq, fun w => ?_, fun w p np => ?_⟩
    · have e1 := e _ r
      rw [cut_all w] at e1
      exact q _ H .refl (.tup h e1)
    · exact q _ _ (.same (same_upd np)) (kd_tup al (e _ r) np (same_upd np) upd_same)
theorem kd_take {k : Nat} {vs : List V} (r : KdL M K H vs ds) : KdL M K H (cutV vs none (some (k : Int))) (ds.take k) := by rw [cut_take]; exact r.take k
theorem kd_drop {k : Nat} {vs : List V} (r : KdL M K H vs ds) : KdL M K H (cutV vs (some (k : Int)) none) (ds.drop k) := by rw [cut_drop]; exact r.drop k
/-- t + u, l + m -/
theorem k_catL (al : Al M H) (hx : Kd M n.K H x (.list ds)) (hy : Kd M n.K H y (.list es)) (hl : ds.length + es.length ≤ 1000000) (q : ∀ p H', H p = none → Lk [] H H' → Kd M n.K H' (.ref p) (.list (ds ++ es)) → Q (.ref p) H') : vOp n (binaryOp .Add) x y H Q := by
  cases hx with
  | lst m h r =>
    cases hy with
    | lst m' h' r' =>
      refine n_cat h h' (by rw [r.length, r'.length]; exact Nat.le_trans hl (by decide)) fun p H' np s hp => q p H' np (.same s) (kd_lst al (r.app r') np s hp)
theorem k_catT (al : Al M H) (hx : Kd M n.K H x (.tuple ds)) (hy : Kd M n.K H y (.tuple es)) (hl : ds.length + es.length ≤ 1000000) (q : ∀ v H', Lk [] H H' → Kd M n.K H' v (.tuple (ds ++ es)) → Q v H') : vOp n (binaryOp .Add) x y H Q := by
  cases hx with
  | tup h r =>
    rename_i a vs
    cases hy with
    | tup h' r' =>
      rename_i b ws
      refine vOp_ofK (r := rCatA) (fun _ _ => op_catA) ⟨a, b, vs, ws, rfl, rfl, h.sq, h'.sq, by rw [r.length, r'.length]; exact Nat.le_trans hl (by decide), fun e => ?_, fun e1 e => ?_, fun e1 e p np => ?_⟩
      · subst e
        cases r
        exact q _ H .refl (.tup h' r')
      · subst e
        cases r'
        exact q _ H .refl (by rw [List.append_nil]; exact .tup h r)
      · exact q _ _ (.same (same_upd np)) (kd_tup al (r.app r') np (same_upd np) upd_same)
/-- == and != of data; in -/
theorem k_eq (hu : n.A.units + 64 < cLine) (hx : Kd M n.K H x d) (hy : Kd M n.K H y e) (d1 : d.hasDict = false) (e1 : e.hasDict = false) (sx : SeqAt.shaped d = true) (sy : SeqAt.shaped e = true) (q : Q (.bl (PyData.eqv d e)) H) : vOp n (compareOp .Eq) x y H Q :=
  vOp_ofK (r := rEqD) (fun X o => op_eqD (by rw [o.A]; exact hu)) ⟨d, e, hx.dp d1, hy.dp e1, sx, sy, q⟩
theorem k_ne (hu : n.A.units + 64 < cLine) (hx : Kd M n.K H x d) (hy : Kd M n.K H y e) (d1 : d.hasDict = false) (e1 : e.hasDict = false) (sx : SeqAt.shaped d = true) (sy : SeqAt.shaped e = true) (q : Q (.bl (!PyData.eqv d e)) H) : vOp n (compareOp .NotEq) x y H Q :=
  vOp_ofK (r := rNeD) (fun X o => op_neD (by rw [o.A]; exact hu)) ⟨d, e, hx.dp d1, hy.dp e1, sx, sy, q⟩
theorem k_inL (hu : n.A.units + 65 < cLine) (hx : Kd M n.K H x d) (hy : Kd M n.K H y (.list es)) (d1 : d.hasDict = false) (e1 : PyData.hasDictAll es = false) (sx : SeqAt.shaped d = true) (sy : SeqAt.shaped (.list es) = true) (q : Q (.bl (es.any fun z => PyData.eqv z d)) H) : vOp n (compareOp .In) x y H Q :=
  vOp_ofK (r := rInD) (fun X o => op_inD (by rw [o.A]; exact hu)) ⟨d, es, hx.dp d1, hy.dp (by rw [PyData.hasDict]; exact e1), sx, sy, q⟩
theorem k_ninL (hu : n.A.units + 65 < cLine) (hx : Kd M n.K H x d) (hy : Kd M n.K H y (.list es)) (d1 : d.hasDict = false) (e1 : PyData.hasDictAll es = false) (sx : SeqAt.shaped d = true) (sy : SeqAt.shaped (.list es) = true) (q : Q (.bl (!es.any fun z => PyData.eqv z d)) H) : vOp n (compareOp .NotIn) x y H Q :=
  vOp_ofK (r := rNotInD) (fun X o => op_notInD (by rw [o.A]; exact hu)) ⟨d, es, hx.dp d1, hy.dp (by rw [PyData.hasDict]; exact e1), sx, sy, q⟩
/-- repr of data -/
theorem k_repr (hg : n.A.guards = some []) (hu : n.A.units + 64 < cLine) (h : Kd M n.K H x d) (hx : ∃ a, x = .ref a) (h1 : d.showable = true) (h2 : d.hasDict = false) (h3 : d.depth ≤ 60) (h4 : d.shown.length ≤ sizeLine) (q : Q (.str d.shown) H) : vCB n (.builtin "repr") [x] H Q := by
  obtain ⟨a, rfl⟩ := hx
  exact e_shw hg hu (.data (h.dp h2) h1 h2 h3 h4) q
/-- list(t), tuple(l), list(l), tuple(t) -/
theorem k_listT (al : Al M H) (h : Kd M n.K H x (.tuple ds)) (q : ∀ p H', H p = none → Lk [] H H' → Kd M n.K H' (.ref p) (.list ds) → Q (.ref p) H') : vCB n (.type "list") [x] H Q := by
  cases h with
  | tup h r => exact vCB_ofK (r := fun K xs H Q => ∃ p ys, xs = [.ref p] ∧ (SqL K H p ys ∨ SqT K H p ys) ∧ ∀ l, H l = none → Q (.ref l) (upd H l (.lst ys))) (fun _ _ => call_list_of) ⟨_, _, rfl, .inr h.sq, fun l nl => q l _ nl (.same (same_upd nl)) (kd_lst al r nl (same_upd nl) upd_same)⟩
theorem k_listL (al : Al M H) (h : Kd M n.K H x (.list ds)) (q : ∀ p H', H p = none → Lk [] H H' → Kd M n.K H' (.ref p) (.list ds) → Q (.ref p) H') : vCB n (.type "list") [x] H Q := by
  cases h with
  | lst m h r => exact vCB_ofK (r := fun K xs H Q => ∃ p ys, xs = [.ref p] ∧ (SqL K H p ys ∨ SqT K H p ys) ∧ ∀ l, H l = none → Q (.ref l) (upd H l (.lst ys))) (fun _ _ => call_list_of) ⟨_, _, rfl, .inl (.of h), fun l nl => q l _ nl (.same (same_upd nl)) (kd_lst al r nl (same_upd nl) upd_same)⟩
theorem k_tupleL (al : Al M H) (h : Kd M n.K H x (.list ds)) (q : ∀ p H', H p = none → Lk [] H H' → Kd M n.K H' (.ref p) (.tuple ds) → Q (.ref p) H') : vCB n (.type "tuple") [x] H Q := by
  cases h with
  | lst m h r => exact vCB_ofK (r := fun K xs H Q => ∃ p ys, xs = [.ref p] ∧ ((SqL K H p ys ∧ ∀ l, H l = none → Q (.ref l) (upd H l (.tup ys))) ∨ (SqT K H p ys ∧ Q (.ref p) H))) (fun _ _ => call_tuple_of) ⟨_, _, rfl, .inl ⟨.of h, fun l nl => q l _ nl (.same (same_upd nl)) (kd_tup al r nl (same_upd nl) upd_same)⟩⟩
/-- truth of a list, a tuple -/
theorem k_truL {R : Bool → Hp → Prop} (h : Kd M n.K H x (.list ds)) (q : R (!ds.isEmpty) H) : vTru n x H R := by
  cases h with
  | lst m h r =>
    rename_i a vs
    exact e_tru (r := !ds.isEmpty) (.inl ⟨vs, .of h, by cases r <;> rfl⟩) q
theorem k_truT {R : Bool → Hp → Prop} (h : Kd M n.K H x (.tuple ds)) (q : R (!ds.isEmpty) H) : vTru n x H R := by
  cases h with
  | tup h r =>
    rename_i a vs
    exact e_tru (r := !ds.isEmpty) (.inr (.inl ⟨vs, h.sq, by cases r <;> rfl⟩)) q
end
/-! ### loops over data -/
section
variable {n : En} {M N : List Addr} {K : PySem.W.Frag} {H H1 H2 : Hp} {Q : VK} {x y : V} {p : Addr} {xs ys : List V} {d e : PyData} {ds es : List PyData} {i : Int} {g : TG} {tb : TS} {tt : TT} {te : TE} {vs : List Nat} {D : Ends} {σ : L2.St}
/-- for .. in l: N is what the turns change -/
theorem k_forL (N : List Addr) (Pv : Nat → L2.St → Hp → Prop) (sb : N ⊆ M) (hx : Kd M K H x (.list ds)) (h0 : Pv 0 σ H)
    (hs : ∀ i d v σ1 H1, ds[i]? = some d → Lk N H H1 → Kd M K H1 v d → Pv i σ1 H1 → g v σ1 H1 fun σ2 H2 => tb { D with nx := fun σ3 H3 => Lk N H H3 ∧ Pv (i + 1) σ3 H3, ct := fun σ3 H3 => Lk N H H3 ∧ Pv (i + 1) σ3 H3, bk := D.nx } σ2 H2)
    (hd : ∀ σ1 H1, Lk N H H1 → Pv ds.length σ1 H1 → D.nx σ1 H1) : vForL K x g tb D σ H := by
  cases hx with
  | lst m h r =>
    rename_i a ws
    refine n_forL (fun i σ1 H1 => Lk N H H1 ∧ Pv i σ1 H1) (.of h) ⟨.refl, h0⟩ (fun i σ1 H1 _ p => .of (p.1.keep _ _ (fun z => m (sb z)) h)) (fun i w σ1 H1 e p => ?_) fun σ1 H1 p => ?_
    · obtain ⟨d, e1, k⟩ := r.getV e
      exact hs i d w σ1 H1 e1 p.1 (k.lk p.1 sb) p.2
    · rw [r.length] at p
      exact hd σ1 H1 p.1 p.2
theorem k_forT (N : List Addr) (Pv : Nat → L2.St → Hp → Prop) (sb : N ⊆ M) (hx : Kd M K H x (.tuple ds)) (h0 : Pv 0 σ H)
    (hs : ∀ i d v σ1 H1, ds[i]? = some d → Lk N H H1 → Kd M K H1 v d → Pv i σ1 H1 → g v σ1 H1 fun σ2 H2 => tb { D with nx := fun σ3 H3 => Lk N H H3 ∧ Pv (i + 1) σ3 H3, ct := fun σ3 H3 => Lk N H H3 ∧ Pv (i + 1) σ3 H3, bk := D.nx } σ2 H2)
    (hd : ∀ σ1 H1, Lk N H H1 → Pv ds.length σ1 H1 → D.nx σ1 H1) : vForT K x g tb D σ H := by
  cases hx with
  | tup h r =>
    rename_i a ws
    refine n_forT (fun i σ1 H1 => Lk N H H1 ∧ Pv i σ1 H1) h.sq ⟨.refl, h0⟩ (fun i σ1 H1 _ p => (h.lk p.1 sb).sq) (fun i w σ1 H1 e p => ?_) fun σ1 H1 p => ?_
    · obtain ⟨d, e1, k⟩ := r.getV e
      exact hs i d w σ1 H1 e1 p.1 (k.lk p.1 sb) p.2
    · rw [r.length] at p
      exact hd σ1 H1 p.1 p.2
/-- what a comprehension has made so far: its list at p -/
structure Mk1 (M : List Addr) (K : PySem.W.Frag) (p : Addr) (H : Hp) (es : List PyData) : Prop where
  al : Al (p :: M) H
  lst : ∃ ws, H p = some (.lst ws) ∧ KdL (p :: M) K H ws es
theorem Mk1.put (mk : Mk1 M K p H1 es) (l : Lk N H1 H2) (sb : N ⊆ M) (np : p ∉ N) (k : Kd (p :: M) K H2 y d) (hl : es.length < 1000000) {R : Hp → Prop} (q : ∀ H3, Lk [p] H2 H3 → Mk1 M K p H3 (es ++ [d]) → R H3) : vPut p y H2 R := by
  obtain ⟨al, ws, h, r⟩ := mk
  have h2 := l.keep _ _ np h
  have r2 := r.lk l (fun _ z => List.mem_cons_of_mem _ (sb z))
  refine n_put h2 (lt_line (Nat.le_refl _) (by rw [r.length]; exact hl)) fun H3 b3 h3 => ?_
  have l3 : Lk [p] H2 H3 := .but b3 (by rw [h3]; simp)
  have sb3 : [p] ⊆ p :: M := List.cons_subset_cons _ (List.nil_subset _)
  exact q H3 l3 ⟨(al.lk l).lk l3, _, h3, (r2.app (.cons k .nil)).lk l3 sb3⟩
/-- [e for .. in l if ..]: each turn puts some data or none; N is what the turns change -/
theorem k_lcL (N : List Addr) (Pv : Addr → Nat → List PyData → Hp → Prop) (sb : N ⊆ M) (al : Al M H) (hx : Kd M K H x (.list ds)) (hz : ds.length ≤ 900000) (h0 : ∀ p H', H p = none → Lk [] H H' → Mk1 M K p H' [] → Pv p 0 [] H')
    (hs : ∀ p i d v es H1 (Next : Hp → Prop), ds[i]? = some d → H p = none → p ∉ N → Lk (p :: N) H H1 → Mk1 M K p H1 es → Kd (p :: M) K H1 v d → Pv p i es H1 → es.length ≤ i →
      (∀ es' H2, Lk (p :: N) H H2 → Mk1 M K p H2 es' → Pv p (i + 1) es' H2 → es'.length ≤ i + 1 → Next H2) → lcTurn g tt te vs σ p v H1 Next)
    (hd : ∀ p es H1, H p = none → Lk N H H1 → Kd M K H1 (.ref p) (.list es) → Pv p ds.length es H1 → Q (.ref p) H1) : vLcL K x g tt te vs σ H Q := by
  cases hx with
  | lst m h r =>
    rename_i a ws
    have off : ∀ {p : Addr}, H p = none → p ∉ N := fun np z => al _ (sb z) np
    refine m_lcL (fun p i ys H1 => ∃ es, Lk (p :: N) H H1 ∧ Mk1 M K p H1 es ∧ Pv p i es H1 ∧ es.length ≤ i) (.of h) (by rw [r.length]; omega) (fun p H1 np s hp => ?_) (fun p i ys H1 np ⟨es, l, _⟩ => ?_) (fun p i w ys H1 Next e np hp ⟨es, l, mk, pv, le⟩ _ _ nx => ?_) fun p ys H1 np hp ⟨es, l, mk, pv, le⟩ _ => ?_
    · have mk : Mk1 M K p H1 [] := ⟨(al.lk (Lk.same (N := []) s)).ad (by rw [hp]; simp), _, hp, .nil⟩
      exact ⟨[], .same s, mk, h0 p H1 np (.same s) mk, Nat.le_refl _⟩
    · exact .of (l.keep _ _ (fun z => (List.mem_cons.mp z).elim (fun e => by rw [e, np] at h; cases h) fun z => m (sb z)) h)
    · obtain ⟨d, e1, k⟩ := r.getV e
      refine hs p i d w es H1 Next e1 np (off np) l mk ((k.new np).lk l (List.cons_subset_cons _ sb)) pv le fun es' H2 l2 mk2 pv2 le2 => ?_
      obtain ⟨_, ws', h2, r2⟩ := id mk2
      exact nx ws' H2 h2 ⟨es', l2, mk2, pv2, le2⟩ (by rw [r2.length]; exact le2)
    · obtain ⟨al2, ws', h2, r2⟩ := mk
      rw [r.length] at pv
      exact hd p es H1 np (l.less np) (.lst (al.off np) h2 r2.less) pv
theorem k_lcT (N : List Addr) (Pv : Addr → Nat → List PyData → Hp → Prop) (sb : N ⊆ M) (al : Al M H) (hx : Kd M K H x (.tuple ds)) (hz : ds.length ≤ 900000) (h0 : ∀ p H', H p = none → Lk [] H H' → Mk1 M K p H' [] → Pv p 0 [] H')
    (hs : ∀ p i d v es H1 (Next : Hp → Prop), ds[i]? = some d → H p = none → p ∉ N → Lk (p :: N) H H1 → Mk1 M K p H1 es → Kd (p :: M) K H1 v d → Pv p i es H1 → es.length ≤ i →
      (∀ es' H2, Lk (p :: N) H H2 → Mk1 M K p H2 es' → Pv p (i + 1) es' H2 → es'.length ≤ i + 1 → Next H2) → lcTurn g tt te vs σ p v H1 Next)
    (hd : ∀ p es H1, H p = none → Lk N H H1 → Kd M K H1 (.ref p) (.list es) → Pv p ds.length es H1 → Q (.ref p) H1) : vLcT K x g tt te vs σ H Q := by
  cases hx with
  | tup h r =>
    rename_i a ws
    have off : ∀ {p : Addr}, H p = none → p ∉ N := fun np z => al _ (sb z) np
    refine m_lcT (fun p i ys H1 => ∃ es, Lk (p :: N) H H1 ∧ Mk1 M K p H1 es ∧ Pv p i es H1 ∧ es.length ≤ i) h.sq (by rw [r.length]; omega) (fun p H1 np s hp => ?_) (fun p i ys H1 np ⟨es, l, _⟩ => ?_) (fun p i w ys H1 Next e np hp ⟨es, l, mk, pv, le⟩ _ _ nx => ?_) fun p ys H1 np hp ⟨es, l, mk, pv, le⟩ _ => ?_
    · have mk : Mk1 M K p H1 [] := ⟨(al.lk (Lk.same (N := []) s)).ad (by rw [hp]; simp), _, hp, .nil⟩
      exact ⟨[], .same s, mk, h0 p H1 np (.same s) mk, Nat.le_refl _⟩
    · exact ((h.more np).lk l (List.cons_subset_cons _ sb)).sq
    · obtain ⟨d, e1, k⟩ := r.getV e
      refine hs p i d w es H1 Next e1 np (off np) l mk ((k.new np).lk l (List.cons_subset_cons _ sb)) pv le fun es' H2 l2 mk2 pv2 le2 => ?_
      obtain ⟨_, ws', h2, r2⟩ := id mk2
      exact nx ws' H2 h2 ⟨es', l2, mk2, pv2, le2⟩ (by rw [r2.length]; exact le2)
    · obtain ⟨al2, ws', h2, r2⟩ := mk
      rw [r.length] at pv
      exact hd p es H1 np (l.less np) (.lst (al.off np) h2 r2.less) pv
theorem k_lcR2 {i j : Int} (N : List Addr) (Pv : Addr → Nat → List PyData → Hp → Prop) (sb : N ⊆ M) (al : Al M H) (h1 : -(2 ^ 62) ≤ i ∧ i < 2 ^ 62 ∧ -(2 ^ 62) ≤ j ∧ j < 2 ^ 62) (hz : j - i ≤ 900000) (h0 : ∀ p H', H p = none → Lk [] H H' → Mk1 M K p H' [] → Pv p 0 [] H')
    (hs : ∀ p (k : Nat) es H1 (Next : Hp → Prop), i + (k : Int) < j → H p = none → p ∉ N → Lk (p :: N) H H1 → Mk1 M K p H1 es → Pv p k es H1 → es.length ≤ k →
      (∀ es' H2, Lk (p :: N) H H2 → Mk1 M K p H2 es' → Pv p (k + 1) es' H2 → es'.length ≤ k + 1 → Next H2) → lcTurn g tt te vs σ p (.int (i + (k : Int))) H1 Next)
    (hd : ∀ p es H1, H p = none → Lk N H H1 → Kd M K H1 (.ref p) (.list es) → Pv p (j - i).toNat es H1 → Q (.ref p) H1) : vLcR2 [.int i, .int j] g tt te vs σ H Q := by
  have off : ∀ {p : Addr}, H p = none → p ∉ N := fun np z => al _ (sb z) np
  refine m_lcR2 (fun p i ys H1 => ∃ es, Lk (p :: N) H H1 ∧ Mk1 M K p H1 es ∧ Pv p i es H1 ∧ es.length ≤ i) h1 (fun p H1 np s hp => ?_) (fun p k ys H1 Next e np hp ⟨es, l, mk, pv, le⟩ _ nx => ?_) fun p ys H1 np hp ⟨es, l, mk, pv, le⟩ _ => ?_
  · have mk : Mk1 M K p H1 [] := ⟨(al.lk (Lk.same (N := []) s)).ad (by rw [hp]; simp), _, hp, .nil⟩
    exact ⟨[], .same s, mk, h0 p H1 np (.same s) mk, Nat.le_refl _⟩
  · refine hs p k es H1 Next e np (off np) l mk pv le fun es' H2 l2 mk2 pv2 le2 => ?_
    obtain ⟨_, ws', h2, r2⟩ := id mk2
    exact nx ws' H2 h2 ⟨es', l2, mk2, pv2, le2⟩ (by rw [r2.length]; exact le2)
  · obtain ⟨al2, ws', h2, r2⟩ := mk
    exact hd p es H1 np (l.less np) (.lst (al.off np) h2 r2.less) pv
theorem k_lcR1 {j : Int} (N : List Addr) (Pv : Addr → Nat → List PyData → Hp → Prop) (sb : N ⊆ M) (al : Al M H) (h1 : -(2 ^ 62) ≤ j) (h2 : j < 2 ^ 62) (hz : j ≤ 900000) (h0 : ∀ p H', H p = none → Lk [] H H' → Mk1 M K p H' [] → Pv p 0 [] H')
    (hs : ∀ p (k : Nat) es H1 (Next : Hp → Prop), (k : Int) < j → H p = none → p ∉ N → Lk (p :: N) H H1 → Mk1 M K p H1 es → Pv p k es H1 → es.length ≤ k →
      (∀ es' H2, Lk (p :: N) H H2 → Mk1 M K p H2 es' → Pv p (k + 1) es' H2 → es'.length ≤ k + 1 → Next H2) → lcTurn g tt te vs σ p (.int (k : Int)) H1 Next)
    (hd : ∀ p es H1, H p = none → Lk N H H1 → Kd M K H1 (.ref p) (.list es) → Pv p j.toNat es H1 → Q (.ref p) H1) : vLcR1 [.int j] g tt te vs σ H Q := by
  have off : ∀ {p : Addr}, H p = none → p ∉ N := fun np z => al _ (sb z) np
  refine m_lcR1 (fun p i ys H1 => ∃ es, Lk (p :: N) H H1 ∧ Mk1 M K p H1 es ∧ Pv p i es H1 ∧ es.length ≤ i) h1 h2 (fun p H1 np s hp => ?_) (fun p k ys H1 Next e np hp ⟨es, l, mk, pv, le⟩ _ nx => ?_) fun p ys H1 np hp ⟨es, l, mk, pv, le⟩ _ => ?_
  · have mk : Mk1 M K p H1 [] := ⟨(al.lk (Lk.same (N := []) s)).ad (by rw [hp]; simp), _, hp, .nil⟩
    exact ⟨[], .same s, mk, h0 p H1 np (.same s) mk, Nat.le_refl _⟩
  · refine hs p k es H1 Next e np (off np) l mk pv le fun es' H2 l2 mk2 pv2 le2 => ?_
    obtain ⟨_, ws', h2, r2⟩ := id mk2
    exact nx ws' H2 h2 ⟨es', l2, mk2, pv2, le2⟩ (by rw [r2.length]; exact le2)
  · obtain ⟨al2, ws', h2, r2⟩ := mk
    exact hd p es H1 np (l.less np) (.lst (al.off np) h2 r2.less) pv
end
end Z

namespace Z
open PySem PySem.Spec PyProof.Rows L2
/-- a store of draws at s -/
structure Stk (M : List Addr) (H : Hp) (s : Addr) : Prop where
  al : Al M H
  mem : s ∈ M
  ex : ∃ (m : Int) (l : Addr) (ds : List Int) (c : Int), H s = some (.lst [.int m, .ref l, .int c]) ∧ H l = some (.lst (ds.map V.int)) ∧ l ≠ s ∧ 0 ≤ m ∧ m < 2147483647 ∧ (∀ d ∈ ds, 0 ≤ d) ∧ ds.length ≤ 60 ∧ l ∉ M
theorem Stk.lk {M N : List Addr} {H H' : Hp} {s : Addr} (l : Lk N H H') (sb : N ⊆ M) (n : s ∉ N) (h : Stk M H s) : Stk M H' s := by
  obtain ⟨al, mem, m, i, ds, c, h1, h2, r⟩ := h
  exact ⟨al.lk l, mem, m, i, ds, c, l.keep _ _ n h1, l.keep _ _ (fun z => r.2.2.2.2.2 (sb z)) h2, r⟩
theorem Stk.new {M N : List Addr} {H H' : Hp} {s p : Addr} (l : Lk N H H') (n : H p = none) (sb : N ⊆ p :: M) (ns : s ∉ N) (al' : Al (p :: M) H') (h : Stk M H s) : Stk (p :: M) H' s := by
  obtain ⟨al, mem, m, i, ds, c, h1, h2, r⟩ := h
  have ni : i ∉ p :: M := fun z => (List.mem_cons.mp z).elim (fun e => by rw [e, n] at h2; cases h2) r.2.2.2.2.2
  exact ⟨al', List.mem_cons_of_mem _ mem, m, i, ds, c, l.keep _ _ ns h1, l.keep _ _ (fun z => ni (sb z)) h2, r.1, r.2.1, r.2.2.1, r.2.2.2.1, r.2.2.2.2.1, ni⟩
theorem Stk.less {M : List Addr} {H : Hp} {s p : Addr} (m : s ∈ M) (h : Stk (p :: M) H s) : Stk M H s := by
  obtain ⟨al, _, m', i, ds, c, h1, h2, r⟩ := h
  exact ⟨al.less, m, m', i, ds, c, h1, h2, r.1, r.2.1, r.2.2.1, r.2.2.2.1, r.2.2.2.2.1, fun z => r.2.2.2.2.2 (List.mem_cons_of_mem _ z)⟩
theorem Stk.ne {M : List Addr} {H : Hp} {s p : Addr} (n : H p = none) (h : Stk M H s) : s ≠ p := by
  obtain ⟨al, mem, m, i, ds, c, h1, r⟩ := h
  exact ne_fresh' h1 n
theorem nm_cons {s p : Addr} {N : List Addr} (h : s ≠ p) (r : s ∉ N) : s ∉ p :: N := fun z => (List.mem_cons.mp z).elim h r
end Z

namespace Z
open PySem PySem.Spec PyProof.Rows L2
/-! ### enumerate(tuple) -/
theorem pyNext_enumT_end {prog : Program} {w : World} {A : Around} {E : Value → Shared → Prop} {s : Shared} {e it l : Addr} {i : Nat} {items : Array Value} {old : Value} {Q : Option Value → Shared → Prop} (hh : A.handled = none)
    (he : IsEnum s.heap e it i old) (hit : s.heap.IsTupleIter it l i) (hl : s.heap.IsTuple l items) (hx : items[i]? = none)
    (hQ : ∀ h', Heap.ExtBut it s.heap h' → Q none { s with heap := h' }) : wpAny (model prog w) A (pyNext (.ref e)) Q E s := by
  have hT : s.TypeIs (.ref e) "enumerate" := ⟨_, he, rfl⟩
  unfold pyNext
  refine wpAny_bind (wpAny_attempt (wpAny_callSpecial?_slot (name := Str.ofString "__next__") hT F.slot_enumerate_next
    (wpAny_call_entry F.slot_enumerate_next hT F.entry_enumerate_next ?_ (F.args_enumerate_next_1 _))))
  show wpAny _ _ (field (.ref e) 2 >>= _) _ _ _
  refine wpAny_bind (wpAny_field he rfl (x := .ref it) rfl ?_)
  refine wpAny_bind (wpAny_nextOf_tuple_end hh hit hl hx fun h' x he' hx' => ?_)
  obtain ⟨o, ho, hc⟩ := hx'
  refine wpAny_bind (wpAny_isInstance (T := "StopIteration") (b := true) ⟨o, ho, hc⟩ isSubtype_stop ?_)
  exact wpAny_pure (hQ _ he')
theorem meets_enumT {v : Value} {o : Obj} {H : Heap → Prop} (B : Begins v o H) :
    Meets (Builtin.«enumerate.__new__» ⟨[.type "enumerate", v], []⟩) (fun _ R s => H s.heap ∧
      R (.ok (.ret (.ref (s.heap.push o).objs.size))) { s with heap := (s.heap.push o).push { cls := .type "enumerate", data := .fields #[.none, .bool false, .ref s.heap.objs.size, rawInt 0, .none, .none] } }) :=
  .of_wp fun prog w A R s h => by
    obtain ⟨hp, g, d, tk, os⟩ := s; obtain ⟨h1, h⟩ := h
    have hsub := sub_enumerate
    have q1 : ∀ {A' : Around} {E : Value → Shared → Prop} {Q : Value → Shared → Prop}, Q (.ref hp.objs.size) ⟨hp.push o, g, d, tk, os⟩ → wpAny (model prog w) A' (pyIter v) Q E ⟨hp, g, d, tk, os⟩ :=
      fun q => B.iter prog w _ _ ⟨hp, g, d, tk, os⟩ _ h1 q
    wp_walk using q1
    refine wpAny_stack_any fun st => wpAny_pure ?_
    split
    · rename_i c _ _ _ _ _
      cases (c == Value.type "enumerate")
      · wp_walk using q1
        exact ⟨_, rfl, h⟩
      · wp_walk using q1
        exact ⟨_, rfl, h⟩
    · wp_walk using q1
      exact ⟨_, rfl, h⟩
theorem call_enumT {prog : Program} {w : World} {A : Around} {E : Value → Shared → Prop} {s : Shared} {l : Addr} {items : Array Value} {Q : Value → Shared → Prop} (hL : s.heap.IsTuple l items)
    (h : ∀ h', IsEnum h' (s.heap.objs.size + 1) s.heap.objs.size 0 .none → h'.IsTupleIter s.heap.objs.size l 0 → h'.objs.size = s.heap.objs.size + 2 → (∀ b o, s.heap.get? b = some o → h'.get? b = some o) → Q (.ref (s.heap.objs.size + 1)) { s with heap := h' }) :
    wpAny (model prog w) A (call (.type "enumerate") [.ref l]) Q E s := by
  refine callType_new F.called_enumerate (by decide) (F.typeCall_enumerate_1 _) (F.newCall_enumerate_1 _) (fun obj => F.args_object_init_2 obj _) F.entry_enumerate_new
    (meets_enumT (begins_tuple l items)) ⟨hL, ?_⟩
  have hz : (s.heap.push { cls := .type "tuple_iterator", data := .fields #[.ref l, .int 0 0] }).objs.size = s.heap.objs.size + 1 := Heap.size_push ..
  show _ ∧ _
  rw [hz]
  have he : IsEnum ((s.heap.push { cls := .type "tuple_iterator", data := .fields #[.ref l, .int 0 0] }).push
      { cls := .type "enumerate", data := .fields #[.none, .bool false, .ref s.heap.objs.size, rawInt 0, .none, .none] }) (s.heap.objs.size + 1) s.heap.objs.size 0 .none := by
    have := Heap.get?_push_size (s.heap.push { cls := .type "tuple_iterator", data := .fields #[.ref l, .int 0 0] })
      (o := { cls := .type "enumerate", data := .fields #[.none, .bool false, .ref s.heap.objs.size, rawInt 0, .none, .none] }) rfl
    rw [hz] at this; exact this
  refine ⟨⟨_, he, rfl⟩, h _ he ⟨_, Heap.get?_push_of_some _ (Heap.get?_push_size _ rfl), rfl, rfl⟩ (by rw [Heap.size_push, hz]) fun b o x => Heap.get?_push_of_some _ (Heap.get?_push_of_some _ x)⟩
def IteT (K : PySem.W.Frag) (a : Addr) : It :=
  ⟨fun i H => ∃ (xs : List V) (x : V), SqT K H a xs ∧ xs[i]? = some x, fun i H v H' => ∃ T x, v = .ref T ∧ H T = none ∧ H' = upd H T (.tup [.int (i : Nat), x]) ∧ ∀ xs, SqT K H a xs → xs[i]? = some x, fun i H => ∃ xs : List V, SqT K H a xs ∧ xs.length ≤ i⟩
theorem turn_enumT {P : Program} {w : World} {K : PySem.W.Frag} {elts : List Expr} {kk : Nat} {tpos : Pos} (a e it : Addr) :
    Turn P w K (.Tuple elts kk tpos) (IteT K a) [e, it] e (fun i h => (∃ old, IsEnum h e it ((i : Nat) : Int) old) ∧ h.IsTupleIter it a i ∧ e ≠ it ∧ a ≠ it ∧ e ≠ a) where
  mem := by simp
  obj := fun i h st b hb => by
    obtain ⟨⟨old, he⟩, ⟨o, ho, hc, hd⟩, _⟩ := st
    have e' : b = e ∨ b = it := by simpa using hb
    rcases e' with z | z
    · rw [z]; exact ⟨_, he, fun v q => nomatch q⟩
    · rw [z]; exact ⟨o, ho, fun v q => by rw [hd] at q; cases q⟩
  keep := fun i h h' st k => let ⟨⟨old, he⟩, hi, hne⟩ := st; ⟨⟨old, k e (by simp) _ he⟩, hi.at fun o q => k it (by simp) o q, hne⟩
  item := by
    intro X hP hw hK hc i pins s σ H E I hf st hg
    subst hP hw hK
    obtain ⟨⟨old, he⟩, hit, hne, nai, nea⟩ := st
    obtain ⟨xs, x, hq, hx⟩ := hg
    obtain ⟨its, rv, p, hz⟩ := I.tuple hq
    obtain ⟨u, hu, ru⟩ := rv.get hx
    have hel : e < s.heap.objs.size := Heap.lt_size he
    have hil : it < s.heap.objs.size := by obtain ⟨_, q, _⟩ := hit; exact Heap.lt_size q
    have D : Draws X.prog X.w X.A.in1 it [it, a] its.toArray.size (fun i v => its.toArray[i]? = some v) (fun i h => h.IsTupleIter it a i ∧ h.IsTuple a its.toArray) := Draws.tuple (A := X.A.in1) (I.ok.hd hc) it a nai its.toArray
    have hlt : i < its.toArray.size := by
      obtain ⟨h1, _⟩ := List.getElem?_eq_some_iff.mp hu
      simpa using h1
    refine wpAny_pyNext_enum_itemD D he ⟨hit, p⟩ hlt hne (by simp [hne, nea]) fun y h' tk hy ho hit' hT hsz hk => ?_
    have ey : y = u := by
      have : its[i]? = some y := by simpa using hy
      rw [hu] at this
      exact (Option.some.inj this).symm
    subst ey
    refine ⟨_, rfl, wpAny_letOwnedTupleGo_enum (s := { s with heap := h', toks := tk + 1 }) ho fun h'' he' sb => ?_⟩
    have hT2 : h''.get? s.heap.objs.size = some { cls := .type "tuple", data := .seq #[.int i tk, y] } := (sb.2 _ (Nat.ne_of_gt hel)).trans hT
    have new : ObjOk X.prog X.w (upd H s.heap.objs.size (.tup [.int (i : Nat), x])) h'' s.heap.objs.size (.tup [.int (i : Nat), x]) :=
      ⟨by show 2 ≤ sizeLine; decide, [.int i tk, y], .cons ⟨_, rfl⟩ (.cons ru .nil), ⟨_, hT2, rfl, _, rfl⟩⟩
    have I1 : Inv X pins σ (upd H s.heap.objs.size (.tup [.int (i : Nat), x])) { s with heap := h'', toks := tk + 1 } :=
      I.turnedNew (ch := [e, it]) (fun b ob hb q => (sb.2 b (fun z => hb (by simp [z]))).trans (hk b ob (fun z => hb (by simp [z])) (fun z => hb (by simp [z])) q)) hf (Nat.le_refl _) new
    refine ⟨.ref s.heap.objs.size, _, I1, rfl, ⟨_, x, rfl, I.hok.fresh (Nat.le_refl _), rfl, fun ys hy => by rw [I.tuple_inj hy hq]; exact hx⟩, ⟨⟨y, ?_⟩, hit'.1.at fun o q => (sb.2 it (Ne.symm hne)).trans q, hne, nai, nea⟩, fun b hb => ?_⟩
    · have e1 : ((i + 1 : Nat) : Int) = (i : Int) + 1 := by omega
      rw [e1]; exact he'
    · have hb' : b < s.heap.objs.size := by
        have e' : b = e ∨ b = it := by simpa using hb
        rcases e' with z | z
        · rw [z]; exact hel
        · rw [z]; exact hil
      rw [upd_ne (Nat.ne_of_lt hb')]
      exact (hf b hb).1
  done := by
    intro X hP hw hK hc i pins s σ H E I hf st hg
    subst hP hw hK
    obtain ⟨⟨old, he⟩, hit, hne, nai, nea⟩ := st
    obtain ⟨xs, hq, hx⟩ := hg
    obtain ⟨its, rv, p, hz⟩ := I.tuple hq
    obtain ⟨f0, f1, f2, f3, f4, f5⟩ := hf it (by simp)
    have hl := rv.length
    exact pyNext_enumT_end (I.ok.hd hc) he hit p (by simp; omega) fun h' eb => ⟨rfl, I.turned (t' := s.toks) (fun b o hb q => eb b o hb q) f0 f1 f3 f4 f5⟩
  self := fun A i s Q E st h => let ⟨⟨_, he⟩, _⟩ := st; wpAny_pyIter_enum he h
def iEnumT (K : PySem.W.Frag) (ta : TA) : TI := fun σ H R => ta σ H fun vs H1 => ∃ a xs, vs = [.ref a] ∧ SqT K H1 a xs ∧ R (IteT K a) H1
theorem pi_enumT {X : Cx} {e : Expr} {ta : TA} {p pos tpos : Pos} {elts : List Expr} {kk : Nat} (hg : Gl X "enumerate") (hm : X.mg "enumerate" = none) (ha : PA X [e] ta) (hs : starEach [e] X.env = [(false, eval e X.env)] := by rfl) :
    PI X (.Tuple elts kk tpos) (.Call (.Name "enumerate" p) [e] [] pos) (iEnumT X.K ta) := by
  refine ⟨fun pins s σ H R I h => ?_⟩
  refine Call_ (ld_blt I hg hm boot_enumerate (PyProof.Rows.callWith_type1 (thn (ha.run pos pins s σ H _ I h) fun us s1 ⟨vs, H1, I1, r1, q1⟩ => ?_) hs rfl))
  obtain ⟨a, xs, ex, hq, q⟩ := q1
  subst ex
  cases r1 with
  | cons r rr =>
    cases rr
    cases r
    obtain ⟨its, rv, p', hz⟩ := I1.tuple hq
    obtain ⟨oo, ho, _⟩ := id p'
    have hal : a < s1.heap.objs.size := Heap.lt_size ho
    refine call_enumT p' fun h' he hit hsz hk => wpAny_pyIter_enum he ?_
    have I2 : Inv X pins σ H1 { s1 with heap := h' } := I1.kept (t' := s1.toks) hk
    refine ⟨s1.heap.objs.size + 1, [s1.heap.objs.size + 1, s1.heap.objs.size], _, _, H1, rfl, I2, turn_enumT a (s1.heap.objs.size + 1) s1.heap.objs.size, ⟨⟨.none, he⟩, hit, Nat.succ_ne_self _, Nat.ne_of_lt hal, Nat.ne_of_gt (Nat.lt_succ_of_lt hal)⟩, fun b hb => ?_, q⟩
    have e' : b = s1.heap.objs.size + 1 ∨ b = s1.heap.objs.size := by simpa using hb
    have hle : s1.heap.objs.size ≤ b := by
      rcases e' with z | z
      · rw [z]; exact Nat.le_add_right _ _
      · rw [z]; exact Nat.le_refl _
    exact I1.fpOk hle (I1.hok.fresh hle)
end Z

namespace Z
open PySem PySem.Spec PyProof.Rows L2 RZ
/-! ### loops over whatever gives data -/
section
variable {K : PySem.W.Frag} {M : List Addr} {H : Hp} {σ : L2.St} {g : TG} {tb : TS} {D : Ends} {tt : TT} {te : TE} {vs : List Nat}
theorem it_for (J : It) (N : List Addr) (n : Nat) (el : Nat → PyData → Prop) (Pv : Nat → L2.St → Hp → Prop) (h0 : Pv 0 σ H)
    (hgo : ∀ i H1, i < n → Lk N H H1 → J.go i H1) (hy : ∀ i H1 v H2, i < n → Lk N H H1 → J.yld i H1 v H2 → Lk [] H1 H2 ∧ ∃ d, el i d ∧ Kd M K H2 v d) (hst : ∀ H1, Lk N H H1 → J.stop n H1)
    (hs : ∀ i d v σ1 H1 H2, i < n → el i d → Lk N H H1 → Pv i σ1 H1 → Lk [] H1 H2 → Kd M K H2 v d → g v σ1 H2 fun σ2 H2 => tb { D with nx := fun σ3 H3 => Lk N H H3 ∧ Pv (i + 1) σ3 H3, ct := fun σ3 H3 => Lk N H H3 ∧ Pv (i + 1) σ3 H3, bk := D.nx } σ2 H2)
    (hd : ∀ σ1 H1, Lk N H H1 → Pv n σ1 H1 → D.nx σ1 H1) :
    ∃ W : Nat → Nat → L2.St → Hp → Prop, (∃ m, W 0 m σ H) ∧ ∀ i m σ1 H1, W i m σ1 H1 →
      (J.stop i H1 ∧ D.nx σ1 H1) ∨ (J.go i H1 ∧ ∃ N : L2.St → Hp → Prop, (∀ σ' H', N σ' H' → ∃ m', m' < m ∧ W (i + 1) m' σ' H') ∧ ∀ x H', J.yld i H1 x H' → g x σ1 H' fun σ2 H2 => tb { D with nx := N, ct := N, bk := D.nx } σ2 H2) := by
  refine ⟨fun i m σ1 H1 => m = n - i ∧ i ≤ n ∧ Lk N H H1 ∧ Pv i σ1 H1, ⟨n, by simp, Nat.zero_le _, .refl, h0⟩, ?_⟩
  rintro i m σ1 H1 ⟨rfl, hi, l, p⟩
  by_cases hlt : i < n
  · refine .inr ⟨hgo i H1 hlt l, fun σ3 H3 => Lk N H H3 ∧ Pv (i + 1) σ3 H3, fun σ' H' p' => ⟨n - (i + 1), by omega, rfl, hlt, p'⟩, fun x H' y => ?_⟩
    obtain ⟨l2, d, ed, k⟩ := hy i H1 x H' hlt l y
    exact hs i d x σ1 H1 H' hlt ed l p l2 k
  · have e : i = n := by omega
    subst e
    exact .inl ⟨hst H1 l, hd σ1 H1 l p⟩
theorem it_lc {Q : VK} (J : It) (N : List Addr) (n : Nat) (el : Nat → PyData → Prop) (Pv : Addr → Nat → List PyData → Hp → Prop) (al : Al M H) (sb : N ⊆ M) (h0 : ∀ p H', H p = none → Lk [] H H' → Mk1 M K p H' [] → Pv p 0 [] H')
    (hgo : ∀ p i H1, H p = none → i < n → Lk (p :: N) H H1 → J.go i H1) (hy : ∀ p i H1 v H2, H p = none → i < n → Lk (p :: N) H H1 → Al (p :: M) H1 → J.yld i H1 v H2 → Lk [] H1 H2 ∧ ∃ d, el i d ∧ Kd (p :: M) K H2 v d) (hst : ∀ p H1, H p = none → Lk (p :: N) H H1 → J.stop n H1)
    (hs : ∀ p i d v es H1 H2 (Next : Hp → Prop), i < n → el i d → H p = none → p ∉ N → Lk (p :: N) H H1 → Mk1 M K p H1 es → Pv p i es H1 → es.length ≤ i → Lk [] H1 H2 → Kd (p :: M) K H2 v d →
      (∀ es' H3, Lk (p :: N) H H3 → Mk1 M K p H3 es' → Pv p (i + 1) es' H3 → es'.length ≤ i + 1 → Next H3) → lcTurn g tt te vs σ p v H2 Next)
    (hd : ∀ p es H1, H p = none → Lk N H H1 → Kd M K H1 (.ref p) (.list es) → Pv p n es H1 → Q (.ref p) H1) (D : Addr) (hD : H D = none) :
    ∃ W : Nat → Nat → Hp → Prop, (∃ m, W 0 m (upd H D (.lst []))) ∧ ∀ i m H1, W i m H1 →
      (J.stop i H1 ∧ Q (.ref D) H1) ∨ (J.go i H1 ∧ ∃ Nx : Hp → Prop, (∀ H', Nx H' → ∃ m', m' < m ∧ W (i + 1) m' H') ∧ ∀ x H', J.yld i H1 x H' → g x (wipe σ vs) H' fun σ2 H2 => wipe σ2 vs = wipe σ vs ∧ tt σ2 H2 fun b H3 =>
        if b = true then te σ2 H3 fun y H4 => ∃ acc, H4 D = some (.lst acc) ∧ acc.length < sizeLine ∧ Nx (upd H4 D (.lst (acc ++ [y]))) else Nx H3) := by
  have off : D ∉ N := fun z => al _ (sb z) hD
  refine ⟨fun i m H1 => m = n - i ∧ i ≤ n ∧ ∃ es, Lk (D :: N) H H1 ∧ Mk1 M K D H1 es ∧ Pv D i es H1 ∧ es.length ≤ i, ⟨n, by simp, Nat.zero_le _, ?_⟩, ?_⟩
  · have l : Lk [] H (upd H D (.lst [])) := .same (same_upd hD)
    have mk : Mk1 M K D (upd H D (.lst [])) [] := ⟨(al.lk l).ad (by rw [upd_same]; simp), _, upd_same, .nil⟩
    exact ⟨[], l.sub (List.nil_subset _), mk, h0 D _ hD l mk, Nat.le_refl _⟩
  · rintro i m H1 ⟨rfl, hi, es, l, mk, p, le⟩
    by_cases hlt : i < n
    · refine .inr ⟨hgo D i H1 hD hlt l, fun H3 => ∃ es', Lk (D :: N) H H3 ∧ Mk1 M K D H3 es' ∧ Pv D (i + 1) es' H3 ∧ es'.length ≤ i + 1, fun H' p' => ⟨n - (i + 1), by omega, rfl, hlt, p'⟩, fun x H' y => ?_⟩
      obtain ⟨l2, d, ed, k⟩ := hy D i H1 x H' hD hlt l mk.al y
      exact turn_eq (hs D i d x es H1 H' _ hlt ed hD off l mk p le l2 k fun es' H3 a b c d => ⟨es', a, b, c, d⟩)
    · have e : i = n := by omega
      subst e
      obtain ⟨al2, ws', h2, r2⟩ := id mk
      exact .inl ⟨hst D H1 hD l, hd D es H1 hD (l.less hD) (.lst (al.off hD) h2 r2.less) p⟩
end
/-! ### enumerate, zip -/
def elE (ds : List PyData) (i : Nat) (d : PyData) : Prop := ∃ e, ds[i]? = some e ∧ d = .tuple [.int (i : Int), e]
def elZ (ds es : List PyData) (i : Nat) (d : PyData) : Prop := ∃ a b, ds[i]? = some a ∧ es[i]? = some b ∧ d = .tuple [a, b]
section
variable {K : PySem.W.Frag} {M N : List Addr} {H H1 H2 : Hp} {x y v : V} {i : Nat} {ds es : List PyData} {a b : Addr} {xs ys : List V}
theorem yldET (al : Al M H1) (h : SqT K H1 a xs) (r : KdL M K H1 xs ds) (t : (IteT K a).yld i H1 v H2) : Lk [] H1 H2 ∧ ∃ d, elE ds i d ∧ Kd M K H2 v d := by
  obtain ⟨T, w, rfl, nT, rfl, hx⟩ := t
  obtain ⟨d, e1, k⟩ := r.getV (hx xs h)
  exact ⟨.same (same_upd nT), _, ⟨d, e1, rfl⟩, kd_tup al (.cons (.int _) (.cons k .nil)) nT (same_upd nT) upd_same⟩
theorem yldEL (al : Al M H1) (h : SqL K H1 a xs) (r : KdL M K H1 xs ds) (t : (Ite K a).yld i H1 v H2) : Lk [] H1 H2 ∧ ∃ d, elE ds i d ∧ Kd M K H2 v d := by
  obtain ⟨T, w, rfl, nT, rfl, hx⟩ := t
  obtain ⟨d, e1, k⟩ := r.getV (hx xs h)
  exact ⟨.same (same_upd nT), _, ⟨d, e1, rfl⟩, kd_tup al (.cons (.int _) (.cons k .nil)) nT (same_upd nT) upd_same⟩
theorem yldZT (al : Al M H1) (h : SqT K H1 a xs) (r : KdL M K H1 xs ds) (h' : SqT K H1 b ys) (r' : KdL M K H1 ys es) (t : (ItzT K a b).yld i H1 v H2) : Lk [] H1 H2 ∧ ∃ d, elZ ds es i d ∧ Kd M K H2 v d := by
  obtain ⟨T, u, w, rfl, nT, rfl, hx, hy⟩ := t
  obtain ⟨d, e1, k⟩ := r.getV (hx xs h)
  obtain ⟨e, e2, k2⟩ := r'.getV (hy ys h')
  exact ⟨.same (same_upd nT), _, ⟨d, e, e1, e2, rfl⟩, kd_tup al (.cons k (.cons k2 .nil)) nT (same_upd nT) upd_same⟩
theorem yldZL (al : Al M H1) (h : SqL K H1 a xs) (r : KdL M K H1 xs ds) (h' : SqL K H1 b ys) (r' : KdL M K H1 ys es) (t : (Itz K a b).yld i H1 v H2) : Lk [] H1 H2 ∧ ∃ d, elZ ds es i d ∧ Kd M K H2 v d := by
  obtain ⟨T, u, w, rfl, nT, rfl, hx, hy⟩ := t
  obtain ⟨d, e1, k⟩ := r.getV (hx xs h)
  obtain ⟨e, e2, k2⟩ := r'.getV (hy ys h')
  exact ⟨.same (same_upd nT), _, ⟨d, e, e1, e2, rfl⟩, kd_tup al (.cons k (.cons k2 .nil)) nT (same_upd nT) upd_same⟩
end
structure vForE (K : PySem.W.Frag) (xs : List V) (g : TG) (tb : TS) (D : Ends) (σ : L2.St) (H : Hp) : Prop where
  run : tFor (iEnumT K fun _ H Q => Q xs H) g tb D σ H
structure vForF (K : PySem.W.Frag) (xs : List V) (g : TG) (tb : TS) (D : Ends) (σ : L2.St) (H : Hp) : Prop where
  run : tFor (iEnum K fun _ H Q => Q xs H) g tb D σ H
structure vForZ (K : PySem.W.Frag) (xs : List V) (g : TG) (tb : TS) (D : Ends) (σ : L2.St) (H : Hp) : Prop where
  run : tFor (iZipA K fun _ H Q => Q xs H) g tb D σ H
structure vLcE (K : PySem.W.Frag) (xs : List V) (g : TG) (tt : TT) (te : TE) (vs : List Nat) (σ : L2.St) (H : Hp) (Q : VK) : Prop where
  run : tLc (iEnumT K fun _ H Q => Q xs H) g tt te vs σ H Q
structure vLcF (K : PySem.W.Frag) (xs : List V) (g : TG) (tt : TT) (te : TE) (vs : List Nat) (σ : L2.St) (H : Hp) (Q : VK) : Prop where
  run : tLc (iEnum K fun _ H Q => Q xs H) g tt te vs σ H Q
structure vLcZ (K : PySem.W.Frag) (xs : List V) (g : TG) (tt : TT) (te : TE) (vs : List Nat) (σ : L2.St) (H : Hp) (Q : VK) : Prop where
  run : tLc (iZipA K fun _ H Q => Q xs H) g tt te vs σ H Q
def uForE (K : PySem.W.Frag) (ta : TA) (g : TG) (tb : TS) : TS := fun D σ H => ta σ H fun xs H1 => vForE K xs g tb D σ H1
def uForF (K : PySem.W.Frag) (ta : TA) (g : TG) (tb : TS) : TS := fun D σ H => ta σ H fun xs H1 => vForF K xs g tb D σ H1
def uForZ (K : PySem.W.Frag) (ta : TA) (g : TG) (tb : TS) : TS := fun D σ H => ta σ H fun xs H1 => vForZ K xs g tb D σ H1
def uLcE (K : PySem.W.Frag) (ta : TA) (g : TG) (tt : TT) (te : TE) (vs : List Nat) : TE := fun σ H Q => ta σ H fun xs H1 => vLcE K xs g tt te vs σ H1 Q
def uLcF (K : PySem.W.Frag) (ta : TA) (g : TG) (tt : TT) (te : TE) (vs : List Nat) : TE := fun σ H Q => ta σ H fun xs H1 => vLcF K xs g tt te vs σ H1 Q
def uLcZ (K : PySem.W.Frag) (ta : TA) (g : TG) (tt : TT) (te : TE) (vs : List Nat) : TE := fun σ H Q => ta σ H fun xs H1 => vLcZ K xs g tt te vs σ H1 Q
section
variable {K : PySem.W.Frag} {ta : TA} {g : TG} {tb : TS} {tt : TT} {te : TE} {vs : List Nat}
theorem forE_eq : tFor (iEnumT K ta) g tb = uForE K ta g tb := by
  funext D σ H
  show ta σ H _ = ta σ H _
  congr 1
  funext x H1
  exact propext ⟨fun h => ⟨h⟩, fun h => h.run⟩
theorem forF_eq : tFor (iEnum K ta) g tb = uForF K ta g tb := by
  funext D σ H
  show ta σ H _ = ta σ H _
  congr 1
  funext x H1
  exact propext ⟨fun h => ⟨h⟩, fun h => h.run⟩
theorem forZ_eq : tFor (iZipA K ta) g tb = uForZ K ta g tb := by
  funext D σ H
  show ta σ H _ = ta σ H _
  congr 1
  funext x H1
  exact propext ⟨fun h => ⟨h⟩, fun h => h.run⟩
theorem lcE_eq : tLc (iEnumT K ta) g tt te vs = uLcE K ta g tt te vs := by
  funext σ H Q
  show ta σ H _ = ta σ H _
  congr 1
  funext x H1
  exact propext ⟨fun h => ⟨h⟩, fun h => h.run⟩
theorem lcF_eq : tLc (iEnum K ta) g tt te vs = uLcF K ta g tt te vs := by
  funext σ H Q
  show ta σ H _ = ta σ H _
  congr 1
  funext x H1
  exact propext ⟨fun h => ⟨h⟩, fun h => h.run⟩
theorem lcZ_eq : tLc (iZipA K ta) g tt te vs = uLcZ K ta g tt te vs := by
  funext σ H Q
  show ta σ H _ = ta σ H _
  congr 1
  funext x H1
  exact propext ⟨fun h => ⟨h⟩, fun h => h.run⟩
variable {X : Cx} {st : Stmt} {e : Expr} {i : Nat}
theorem c_forE (h : PS X st (tFor (iEnumT K ta) g tb)) : PS X st (uForE K ta g tb) := forE_eq ▸ h
theorem c_forF (h : PS X st (tFor (iEnum K ta) g tb)) : PS X st (uForF K ta g tb) := forF_eq ▸ h
theorem c_forZ (h : PS X st (tFor (iZipA K ta) g tb)) : PS X st (uForZ K ta g tb) := forZ_eq ▸ h
theorem c_lcE (h : PE X e (tLc (iEnumT K ta) g tt te vs)) : PE X e (uLcE K ta g tt te vs) := lcE_eq ▸ h
theorem c_lcF (h : PE X e (tLc (iEnum K ta) g tt te vs)) : PE X e (uLcF K ta g tt te vs) := lcF_eq ▸ h
theorem c_lcZ (h : PE X e (tLc (iZipA K ta) g tt te vs)) : PE X e (uLcZ K ta g tt te vs) := lcZ_eq ▸ h
theorem s_lcE (h : PS X st (tAsg (tLc (iEnumT K ta) g tt te vs) (gName i))) : PS X st (tAsg (uLcE K ta g tt te vs) (gName i)) := lcE_eq ▸ h
theorem s_lcF (h : PS X st (tAsg (tLc (iEnum K ta) g tt te vs) (gName i))) : PS X st (tAsg (uLcF K ta g tt te vs) (gName i)) := lcF_eq ▸ h
theorem s_lcZ (h : PS X st (tAsg (tLc (iZipA K ta) g tt te vs) (gName i))) : PS X st (tAsg (uLcZ K ta g tt te vs) (gName i)) := lcZ_eq ▸ h
end
section
variable {K : PySem.W.Frag} {M N : List Addr} {H : Hp} {Q : VK} {x y : V} {ds es : List PyData} {g : TG} {tb : TS} {tt : TT} {te : TE} {vs : List Nat} {D : Ends} {σ : L2.St}
theorem k_forE (N : List Addr) (Pv : Nat → L2.St → Hp → Prop) (sb : N ⊆ M) (al : Al M H) (hx : Kd M K H x (.tuple ds)) (h0 : Pv 0 σ H)
    (hs : ∀ i d v σ1 H1 H2, i < ds.length → elE ds i d → Lk N H H1 → Pv i σ1 H1 → Lk [] H1 H2 → Kd M K H2 v d → g v σ1 H2 fun σ2 H2 => tb { D with nx := fun σ3 H3 => Lk N H H3 ∧ Pv (i + 1) σ3 H3, ct := fun σ3 H3 => Lk N H H3 ∧ Pv (i + 1) σ3 H3, bk := D.nx } σ2 H2)
    (hd : ∀ σ1 H1, Lk N H H1 → Pv ds.length σ1 H1 → D.nx σ1 H1) : vForE K [x] g tb D σ H := by
  cases hx with
  | @tup a ws _ h r =>
    refine ⟨⟨a, ws, rfl, h.sq, it_for (M := M) (K := K) (IteT K a) N ds.length (elE ds) Pv h0 (fun i H1 hi l => ?_) (fun i H1 v H2 hi l t => yldET (al.lk l) (h.lk l sb).sq (r.lk l sb) t) (fun H1 l => ⟨ws, (h.lk l sb).sq, by rw [r.length]; exact Nat.le_refl _⟩) hs hd⟩⟩
    exact ⟨ws, ws[i]'(by rw [r.length]; exact hi), (h.lk l sb).sq, by simp [r.length, hi]⟩
theorem k_forF (N : List Addr) (Pv : Nat → L2.St → Hp → Prop) (sb : N ⊆ M) (al : Al M H) (hx : Kd M K H x (.list ds)) (h0 : Pv 0 σ H)
    (hs : ∀ i d v σ1 H1 H2, i < ds.length → elE ds i d → Lk N H H1 → Pv i σ1 H1 → Lk [] H1 H2 → Kd M K H2 v d → g v σ1 H2 fun σ2 H2 => tb { D with nx := fun σ3 H3 => Lk N H H3 ∧ Pv (i + 1) σ3 H3, ct := fun σ3 H3 => Lk N H H3 ∧ Pv (i + 1) σ3 H3, bk := D.nx } σ2 H2)
    (hd : ∀ σ1 H1, Lk N H H1 → Pv ds.length σ1 H1 → D.nx σ1 H1) : vForF K [x] g tb D σ H := by
  cases hx with
  | @lst a ws _ n h r =>
    have hh : ∀ {H1}, Lk N H H1 → SqL K H1 a ws := fun l => .of (l.keep _ _ (fun z => n (sb z)) h)
    refine ⟨⟨a, ws, rfl, .of h, it_for (M := M) (K := K) (Ite K a) N ds.length (elE ds) Pv h0 (fun i H1 hi l => ?_) (fun i H1 v H2 hi l t => yldEL (al.lk l) (hh l) (r.lk l sb) t) (fun H1 l => ⟨ws, hh l, by rw [r.length]; exact Nat.le_refl _⟩) hs hd⟩⟩
    exact ⟨ws, ws[i]'(by rw [r.length]; exact hi), hh l, by simp [r.length, hi]⟩
theorem k_forZT (N : List Addr) (Pv : Nat → L2.St → Hp → Prop) (sb : N ⊆ M) (al : Al M H) (hx : Kd M K H x (.tuple ds)) (hy : Kd M K H y (.tuple es)) (hl : ds.length = es.length) (h0 : Pv 0 σ H)
    (hs : ∀ i d v σ1 H1 H2, i < ds.length → elZ ds es i d → Lk N H H1 → Pv i σ1 H1 → Lk [] H1 H2 → Kd M K H2 v d → g v σ1 H2 fun σ2 H2 => tb { D with nx := fun σ3 H3 => Lk N H H3 ∧ Pv (i + 1) σ3 H3, ct := fun σ3 H3 => Lk N H H3 ∧ Pv (i + 1) σ3 H3, bk := D.nx } σ2 H2)
    (hd : ∀ σ1 H1, Lk N H H1 → Pv ds.length σ1 H1 → D.nx σ1 H1) : vForZ K [x, y] g tb D σ H := by
  cases hx with
  | @tup a ws _ h r =>
    cases hy with
    | @tup b us _ h' r' =>
      refine ⟨⟨a, b, ws, us, rfl, .inr ⟨h.sq, h'.sq, it_for (M := M) (K := K) (ItzT K a b) N ds.length (elZ ds es) Pv h0 (fun i H1 hi l => ?_) (fun i H1 v H2 hi l t => yldZT (al.lk l) (h.lk l sb).sq (r.lk l sb) (h'.lk l sb).sq (r'.lk l sb) t) (fun H1 l => ⟨ws, us, (h.lk l sb).sq, (h'.lk l sb).sq, .inl (by rw [r.length]; exact Nat.le_refl _)⟩) hs hd⟩⟩⟩
      exact ⟨ws, us, ws[i]'(by rw [r.length]; exact hi), us[i]'(by rw [r'.length, ← hl]; exact hi), (h.lk l sb).sq, (h'.lk l sb).sq, by simp [r.length, hi], by simp [r'.length, ← hl, hi]⟩
theorem k_lcE (N : List Addr) (Pv : Addr → Nat → List PyData → Hp → Prop) (sb : N ⊆ M) (al : Al M H) (hx : Kd M K H x (.tuple ds)) (h0 : ∀ p H', H p = none → Lk [] H H' → Mk1 M K p H' [] → Pv p 0 [] H')
    (hs : ∀ p i d v es H1 H2 (Next : Hp → Prop), i < ds.length → elE ds i d → H p = none → p ∉ N → Lk (p :: N) H H1 → Mk1 M K p H1 es → Pv p i es H1 → es.length ≤ i → Lk [] H1 H2 → Kd (p :: M) K H2 v d →
      (∀ es' H3, Lk (p :: N) H H3 → Mk1 M K p H3 es' → Pv p (i + 1) es' H3 → es'.length ≤ i + 1 → Next H3) → lcTurn g tt te vs σ p v H2 Next)
    (hd : ∀ p es H1, H p = none → Lk N H H1 → Kd M K H1 (.ref p) (.list es) → Pv p ds.length es H1 → Q (.ref p) H1) : vLcE K [x] g tt te vs σ H Q := by
  cases hx with
  | @tup a ws _ h r =>
    have sbp : ∀ {p : Addr}, (p :: N) ⊆ (p :: M) := @fun p => List.cons_subset_cons p sb
    refine ⟨⟨a, ws, rfl, h.sq, it_lc (M := M) (K := K) (IteT K a) N ds.length (elE ds) Pv al sb h0 (fun p i H1 np hi l => ?_) (fun p i H1 v H2 np hi l al2 t => yldET al2 ((h.more np).lk l sbp).sq ((r.new np).lk l sbp) t) (fun p H1 np l => ⟨ws, ((h.more np).lk l sbp).sq, by rw [r.length]; exact Nat.le_refl _⟩) hs hd⟩⟩
    exact ⟨ws, ws[i]'(by rw [r.length]; exact hi), ((h.more np).lk l sbp).sq, by simp [r.length, hi]⟩
theorem k_lcF (N : List Addr) (Pv : Addr → Nat → List PyData → Hp → Prop) (sb : N ⊆ M) (al : Al M H) (hx : Kd M K H x (.list ds)) (h0 : ∀ p H', H p = none → Lk [] H H' → Mk1 M K p H' [] → Pv p 0 [] H')
    (hs : ∀ p i d v es H1 H2 (Next : Hp → Prop), i < ds.length → elE ds i d → H p = none → p ∉ N → Lk (p :: N) H H1 → Mk1 M K p H1 es → Pv p i es H1 → es.length ≤ i → Lk [] H1 H2 → Kd (p :: M) K H2 v d →
      (∀ es' H3, Lk (p :: N) H H3 → Mk1 M K p H3 es' → Pv p (i + 1) es' H3 → es'.length ≤ i + 1 → Next H3) → lcTurn g tt te vs σ p v H2 Next)
    (hd : ∀ p es H1, H p = none → Lk N H H1 → Kd M K H1 (.ref p) (.list es) → Pv p ds.length es H1 → Q (.ref p) H1) : vLcF K [x] g tt te vs σ H Q := by
  cases hx with
  | @lst a ws _ n h r =>
    have sbp : ∀ {p : Addr}, (p :: N) ⊆ (p :: M) := @fun p => List.cons_subset_cons p sb
    have hh : ∀ {p H1}, H p = none → Lk (p :: N) H H1 → SqL K H1 a ws := fun np l => .of (l.keep _ _ (fun z => (List.mem_cons.mp z).elim (fun e => by rw [e, np] at h; cases h) fun z => n (sb z)) h)
    refine ⟨⟨a, ws, rfl, .of h, it_lc (M := M) (K := K) (Ite K a) N ds.length (elE ds) Pv al sb h0 (fun p i H1 np hi l => ?_) (fun p i H1 v H2 np hi l al2 t => yldEL al2 (hh np l) ((r.new np).lk l sbp) t) (fun p H1 np l => ⟨ws, hh np l, by rw [r.length]; exact Nat.le_refl _⟩) hs hd⟩⟩
    exact ⟨ws, ws[i]'(by rw [r.length]; exact hi), hh np l, by simp [r.length, hi]⟩
theorem k_lcZT (N : List Addr) (Pv : Addr → Nat → List PyData → Hp → Prop) (sb : N ⊆ M) (al : Al M H) (hx : Kd M K H x (.tuple ds)) (hy : Kd M K H y (.tuple es)) (hl : ds.length = es.length) (h0 : ∀ p H', H p = none → Lk [] H H' → Mk1 M K p H' [] → Pv p 0 [] H')
    (hs : ∀ p i d v zs H1 H2 (Next : Hp → Prop), i < ds.length → elZ ds es i d → H p = none → p ∉ N → Lk (p :: N) H H1 → Mk1 M K p H1 zs → Pv p i zs H1 → zs.length ≤ i → Lk [] H1 H2 → Kd (p :: M) K H2 v d →
      (∀ es' H3, Lk (p :: N) H H3 → Mk1 M K p H3 es' → Pv p (i + 1) es' H3 → es'.length ≤ i + 1 → Next H3) → lcTurn g tt te vs σ p v H2 Next)
    (hd : ∀ p zs H1, H p = none → Lk N H H1 → Kd M K H1 (.ref p) (.list zs) → Pv p ds.length zs H1 → Q (.ref p) H1) : vLcZ K [x, y] g tt te vs σ H Q := by
  cases hx with
  | @tup a ws _ h r =>
    cases hy with
    | @tup b us _ h' r' =>
      have sbp : ∀ {p : Addr}, (p :: N) ⊆ (p :: M) := @fun p => List.cons_subset_cons p sb
      refine ⟨⟨a, b, ws, us, rfl, .inr ⟨h.sq, h'.sq, it_lc (M := M) (K := K) (ItzT K a b) N ds.length (elZ ds es) Pv al sb h0 (fun p i H1 np hi l => ?_) (fun p i H1 v H2 np hi l al2 t => yldZT al2 ((h.more np).lk l sbp).sq ((r.new np).lk l sbp) ((h'.more np).lk l sbp).sq ((r'.new np).lk l sbp) t) (fun p H1 np l => ⟨ws, us, ((h.more np).lk l sbp).sq, ((h'.more np).lk l sbp).sq, .inl (by rw [r.length]; exact Nat.le_refl _)⟩) hs hd⟩⟩⟩
      exact ⟨ws, us, ws[i]'(by rw [r.length]; exact hi), us[i]'(by rw [r'.length, ← hl]; exact hi), ((h.more np).lk l sbp).sq, ((h'.more np).lk l sbp).sq, by simp [r.length, hi], by simp [r'.length, ← hl, hi]⟩
end
end Z

namespace Z
open PySem PySem.Spec PyProof.Rows L2 RZ
/-! ### plain data: ==, !=, in -/
def okD (d : PyData) : Bool := d.canLay0 && decide (d.depth ≤ 60)
mutual
theorem lay_dict : ∀ {d : PyData}, d.canLay0 = true → d.hasDict = false
  | .none, _ => by simp [PyData.hasDict]
  | .bool b, _ => by simp [PyData.hasDict]
  | .int i, _ => by simp [PyData.hasDict]
  | .str x, _ => by simp [PyData.hasDict]
  | .list ds, h => by rw [PyData.canLay0] at h; rw [PyData.hasDict]; exact lay_dictAll h
  | .tuple ds, h => by rw [PyData.canLay0] at h; rw [PyData.hasDict]; exact lay_dictAll h
  | .dict kvs, h => by simp [PyData.canLay0] at h
theorem lay_dictAll : ∀ {ds : List PyData}, PyData.canLayAll0 ds = true → PyData.hasDictAll ds = false
  | [], _ => by simp [PyData.hasDictAll]
  | d :: ds, h => by
    rw [PyData.canLayAll0, Bool.and_eq_true] at h
    rw [PyData.hasDictAll, lay_dict h.1, lay_dictAll h.2] <;> rfl
end
theorem okD_lay {d : PyData} (h : okD d = true) : d.canLay0 = true := by
  unfold okD at h
  rw [Bool.and_eq_true] at h
  exact h.1
theorem okD_dep {d : PyData} (h : okD d = true) : d.depth ≤ 60 := by
  unfold okD at h
  rw [Bool.and_eq_true] at h
  exact of_decide_eq_true h.2
theorem okD_sh {d : PyData} (h : okD d = true) : SeqAt.shaped d = true := by
  have := okD_dep h
  simp [SeqAt.shaped, okD_lay h]
  omega
section
variable {n : En} {M N : List Addr} {K : PySem.W.Frag} {H : Hp} {Q : VK} {x y : V} {d e : PyData} {ds es : List PyData} {r : Bool}
theorem Kd.dpo (h : Kd M K H x d) (o : okD d = true) : Dp K H x d := h.dp (lay_dict (okD_lay o))
theorem k_eqo (hu : n.A.units + 64 < cLine) (hx : Kd M n.K H x d) (hy : Kd N n.K H y e) (o : okD d = true) (o' : okD e = true) (er : PyData.eqv d e = r) (q : Q (.bl r) H) : vOp n (compareOp .Eq) x y H Q :=
  vOp_ofK (r := rEqD) (fun X o => op_eqD (by rw [o.A]; exact hu)) ⟨d, e, hx.dpo o, hy.dpo o', okD_sh o, okD_sh o', by rw [er]; exact q⟩
theorem k_neo (hu : n.A.units + 64 < cLine) (hx : Kd M n.K H x d) (hy : Kd N n.K H y e) (o : okD d = true) (o' : okD e = true) (er : PyData.eqv d e = r) (q : Q (.bl (!r)) H) : vOp n (compareOp .NotEq) x y H Q :=
  vOp_ofK (r := rNeD) (fun X o => op_neD (by rw [o.A]; exact hu)) ⟨d, e, hx.dpo o, hy.dpo o', okD_sh o, okD_sh o', by rw [er]; exact q⟩
def rInS2 (K : PySem.W.Frag) (neg : Bool) : R2 := fun x y H Q => ∃ d es, Dp K H x d ∧ (Dp K H y (.list es) ∨ Dp K H y (.tuple es)) ∧ okD d = true ∧ okD (.list es) = true ∧ Q (.bl (if neg then !es.any fun z => PyData.eqv z d else es.any fun z => PyData.eqv z d)) H
theorem lay_list (h : okD (.list es) = true) : PyData.canLayAll0 es = true ∧ PyData.depthAll es ≤ 60 := by
  have h1 := okD_lay h
  have h2 := okD_dep h
  rw [PyData.canLay0] at h1
  rw [PyData.depth] at h2
  exact ⟨h1, by omega⟩
theorem op_in2 {X : Cx} (hu : X.A.units + 64 < cLine) : OpR X (compareOp .In) (rInS2 X.K false) := by
  intro pins s σ H x y v u Q I rx ry h
  obtain ⟨d, es, hd, he, sd, se, q⟩ := h
  obtain ⟨as, r1⟩ := Dp.reads I d x v hd rx
  obtain ⟨l1, l2⟩ := lay_list se
  have l3 := okD_dep sd
  rcases he with he | he
  · obtain ⟨bs, r2⟩ := Dp.reads I (.list es) y u he ry
    exact SeqAt.in_list_reads r2 r1 l1 (okD_lay sd) (by omega) ⟨.bl _, H, I, rfl, q⟩
  · obtain ⟨bs, r2⟩ := Dp.reads I (.tuple es) y u he ry
    exact SeqAt.in_tuple_reads r2 r1 l1 (okD_lay sd) (by omega) ⟨.bl _, H, I, rfl, q⟩
theorem op_nin2 {X : Cx} (hu : X.A.units + 64 < cLine) : OpR X (compareOp .NotIn) (rInS2 X.K true) := by
  intro pins s σ H x y v u Q I rx ry h
  obtain ⟨d, es, hd, he, sd, se, q⟩ := h
  obtain ⟨as, r1⟩ := Dp.reads I d x v hd rx
  obtain ⟨l1, l2⟩ := lay_list se
  have l3 := okD_dep sd
  rcases he with he | he
  · obtain ⟨bs, r2⟩ := Dp.reads I (.list es) y u he ry
    exact SeqAt.notIn_list_reads r2 r1 l1 (okD_lay sd) (by omega) ⟨.bl _, H, I, rfl, q⟩
  · obtain ⟨bs, r2⟩ := Dp.reads I (.tuple es) y u he ry
    exact SeqAt.notIn_tuple_reads r2 r1 l1 (okD_lay sd) (by omega) ⟨.bl _, H, I, rfl, q⟩
theorem ok_tup (h : okD (.list es) = true) : okD (.tuple es) = true := by
  obtain ⟨l1, l2⟩ := lay_list h
  have h2 := okD_dep h
  rw [PyData.depth] at h2
  simp only [okD, PyData.canLay0, PyData.depth, l1, Bool.true_and]
  exact decide_eq_true h2
theorem k_inL2 (hu : n.A.units + 64 < cLine) (hx : Kd M n.K H x d) (hy : Kd N n.K H y (.list es)) (o : okD d = true) (o' : okD (.list es) = true) (er : (es.any fun z => PyData.eqv z d) = r) (q : Q (.bl r) H) : vOp n (compareOp .In) x y H Q :=
  vOp_ofK (r := fun K => rInS2 K false) (fun X o => op_in2 (by rw [o.A]; exact hu)) ⟨d, es, hx.dpo o, .inl (hy.dpo o'), o, o', by rw [if_neg (by decide), er]; exact q⟩
theorem k_inT2 (hu : n.A.units + 64 < cLine) (hx : Kd M n.K H x d) (hy : Kd N n.K H y (.tuple es)) (o : okD d = true) (o' : okD (.list es) = true) (er : (es.any fun z => PyData.eqv z d) = r) (q : Q (.bl r) H) : vOp n (compareOp .In) x y H Q :=
  vOp_ofK (r := fun K => rInS2 K false) (fun X o => op_in2 (by rw [o.A]; exact hu)) ⟨d, es, hx.dpo o, .inr (hy.dpo (ok_tup o')), o, o', by rw [if_neg (by decide), er]; exact q⟩
theorem k_ninL2 (hu : n.A.units + 64 < cLine) (hx : Kd M n.K H x d) (hy : Kd N n.K H y (.list es)) (o : okD d = true) (o' : okD (.list es) = true) (er : (es.any fun z => PyData.eqv z d) = r) (q : Q (.bl (!r)) H) : vOp n (compareOp .NotIn) x y H Q :=
  vOp_ofK (r := fun K => rInS2 K true) (fun X o => op_nin2 (by rw [o.A]; exact hu)) ⟨d, es, hx.dpo o, .inl (hy.dpo o'), o, o', by rw [if_pos rfl, er]; exact q⟩
theorem k_ninT2 (hu : n.A.units + 64 < cLine) (hx : Kd M n.K H x d) (hy : Kd N n.K H y (.tuple es)) (o : okD d = true) (o' : okD (.list es) = true) (er : (es.any fun z => PyData.eqv z d) = r) (q : Q (.bl (!r)) H) : vOp n (compareOp .NotIn) x y H Q :=
  vOp_ofK (r := fun K => rInS2 K true) (fun X o => op_nin2 (by rw [o.A]; exact hu)) ⟨d, es, hx.dpo o, .inr (hy.dpo (ok_tup o')), o, o', by rw [if_pos rfl, er]; exact q⟩
end
/-! ### the module's constants -/
mutual
def conB (K : PySem.W.Frag) : PyData → Value → Bool
  | .none, .none => true
  | .bool b, .bool c => b == c
  | .int i, .int j _ => i == j
  | .str s, .str t _ => s == t
  | .tuple ds, .ref a => (match K.lookup a with
    | some ⟨.type c, _, .seq its _, _⟩ => decide (c = "tuple") && (decide (its.size ≤ sizeLine) && conL K ds its.toList)
    | _ => false)
  | _, _ => false
def conL (K : PySem.W.Frag) : List PyData → List Value → Bool
  | [], [] => true
  | d :: ds, v :: vs => conB K d v && conL K ds vs
  | _, _ => false
end
section
variable {K : PySem.W.Frag}
mutual
theorem conB_ok : ∀ (d : PyData) (u : Value), conB K d u = true → ∃ v, RelV v u ∧ ∀ M H, Kd M K H v d
  | .none, .none, _ => ⟨.non, rfl, fun _ _ => .non⟩
  | .bool b, .bool c, h => by
    simp only [conB, beq_iff_eq] at h
    subst h
    exact ⟨.bl b, rfl, fun _ _ => .bl b⟩
  | .int i, .int j t, h => by
    simp only [conB, beq_iff_eq] at h
    subst h
    exact ⟨.int i, ⟨t, rfl⟩, fun _ _ => .int i⟩
  | .str s, .str x t, h => by
    simp only [conB, beq_iff_eq] at h
    subst h
    exact ⟨.str s, ⟨t, rfl⟩, fun _ _ => .str s⟩
  | .tuple ds, .ref a, h => by
    simp only [conB] at h
    cases q : K.lookup a with
    | none => rw [q] at h; cases h
    | some o =>
      obtain ⟨oc, od, dt, osl⟩ := o
      rw [q] at h
      cases oc with
      | type c =>
        cases dt with
        | seq its n =>
          simp only [Bool.and_eq_true, decide_eq_true_eq] at h
          obtain ⟨h1, h2, h3⟩ := h
          obtain ⟨xs, rv, k⟩ := conL_ok ds its.toList h3
          exact ⟨.ref a, rfl, fun M H => .tup (.inr fun H => .inr ⟨_, its, n, q, congrArg Value.type h1, rfl, h2, rv⟩) (k M H)⟩
        | _ => cases h
      | _ => cases dt <;> cases h
  | .list ds, u, h => by cases u <;> simp [conB] at h
  | .dict ds, u, h => by cases u <;> simp [conB] at h
theorem conL_ok : ∀ (ds : List PyData) (us : List Value), conL K ds us = true → ∃ xs, Vals xs us ∧ ∀ M H, KdL M K H xs ds
  | [], [], _ => ⟨[], .nil, fun _ _ => .nil⟩
  | d :: ds, v :: vs, h => by
    simp only [conL, Bool.and_eq_true] at h
    obtain ⟨x, r, k⟩ := conB_ok d v h.1
    obtain ⟨xs, rs, ks⟩ := conL_ok ds vs h.2
    exact ⟨x :: xs, .cons r rs, fun M H => .cons (k M H) (ks M H)⟩
  | [], _ :: _, h => by simp [conL] at h
  | _ :: _, [], h => by simp [conL] at h
end
theorem con_ref {d : PyData} {a : Addr} (h : conB K d (.ref a) = true) (M : List Addr) (H : Hp) : Kd M K H (.ref a) d := by
  obtain ⟨v, r, k⟩ := conB_ok d _ h
  cases v with
  | ref b => cases (show Value.ref a = Value.ref b from r); exact k M H
  | non => cases (show Value.ref a = Value.none from r)
  | bl b => cases (show Value.ref a = Value.bool b from r)
  | int i => obtain ⟨t, e⟩ := (show ∃ t, Value.ref a = Value.int i t from r); cases e
  | str i => obtain ⟨t, e⟩ := (show ∃ t, Value.ref a = Value.str i t from r); cases e
  | byt i => obtain ⟨t, e⟩ := (show ∃ t, Value.ref a = Value.bytes i t from r); cases e
  | flt i => obtain ⟨t, e⟩ := (show ∃ t, Value.ref a = Value.float i t from r); cases e
  | ty i => cases (show Value.ref a = Value.type i from r)
end
end Z

namespace Z
open PySem PySem.Spec PyProof.Rows L2 RZ
/-! ### calls of a local name's value -/
def tCallL (e : En) (W : WX) (i : Nat) (t : TA) : TE := fun σ H Q => match σ[i]? with
  | some (some (.ref a)) => PySem.W.keepIn e.K (.ref a) = true ∧ t σ H fun vs H1 => vCall e (.ref a) vs (fun c d H' => W c d σ H') H1 Q
  | _ => False
def tCallLK (e : En) (W : WX) (i : Nat) (ks : List Str) (t tk : TA) : TE := fun σ H Q => match σ[i]? with
  | some (some (.ref a)) => PySem.W.keepIn e.K (.ref a) = true ∧ t σ H fun vs H1 => tk σ H1 fun zs H2 => vCallK e (.ref a) ks vs zs (fun c d H' => W c d σ H') H2 Q
  | _ => False
section
variable {n : En} {X : Cx} {W : WX} {e : Expr} {es : List Expr} {kws : List Keyword} {t tk' : TA} {pos p : Pos} {x : Str} {ks : List Str}
theorem z_callL (o : Of n X) (tk : Takes X W) (i : Nat) (ha : PA X (e :: es) t) (hN : X.N[i]? = some x := by rfl) (hv : Vis X.env.scope x := by first | exact Or.inl rfl | exact Or.inr (Or.inl rfl) | exact Or.inr (Or.inr rfl))
    (hdb : (x == ("__debug__" : Str)) = false := by decide) (hcd : (x == ("__classdict__" : Str)) = false := by decide)
    (he : starEach (e :: es) X.env = (false, eval e X.env) :: starEach es X.env := by rfl) (hpl : (backTo pos (starEach es X.env)).any (·.1) = false := by rfl) : PE X (.Call (.Name x p) (e :: es) [] pos) (tCallL n W i t) := by
  refine ⟨fun pins s σ H Q I h => ?_⟩
  unfold tCallL at h
  split at h
  · rename_i a hs
    obtain ⟨hk, ht⟩ := h
    refine wpAny_Call_Name_kw (thn ((pe_var (pos := p) hN hv hdb hcd).run pins s σ H (fun v H1 => v = .ref a ∧ H1 = H) I ⟨.ref a, hs, rfl, rfl⟩) fun u s1 ⟨v, H1, I1, r1, q1⟩ => ?_)
    obtain ⟨rfl, rfl⟩ := q1
    cases (show u = Value.ref a from r1)
    rw [← o.K] at hk
    exact PySem.W.callWith_K (h₀ := X.base) I.ok.mod.kin hk (thn (ha.run pos pins s1 σ _ _ I1 ht) fun us s2 ⟨vs, H2, I2, r, q⟩ => ⟨I2.kIn, q.run X o pins s2 σ us (fun _ _ _ w => xw_of tk w) I2 r⟩) he hpl
  · exact h.elim
theorem z_callLK0 (o : Of n X) (tk : Takes X W) (i : Nat) (hkw : PK X kws tk') (hN : X.N[i]? = some x := by rfl) (hv : Vis X.env.scope x := by first | exact Or.inl rfl | exact Or.inr (Or.inl rfl) | exact Or.inr (Or.inr rfl))
    (hdb : (x == ("__debug__" : Str)) = false := by decide) (hcd : (x == ("__classdict__" : Str)) = false := by decide)
    (hall : (backToKw pos (keywordEach kws X.env)).all (·.1.isSome) = true := by rfl) (hks : (backToKw pos (keywordEach kws X.env)).filterMap (·.1) = ks := by rfl)
    (hpl : ((backTo pos (starEach [] X.env)).any (·.1) || (backToKw pos (keywordEach kws X.env)).any (·.1.isNone)) = false := by rfl) : PE X (.Call (.Name x p) [] kws pos) (tCallLK n W i ks tNil tk') := by
  refine ⟨fun pins s σ H Q I h => ?_⟩
  unfold tCallLK at h
  split at h
  · rename_i a hs
    obtain ⟨hk, ht⟩ := h
    refine wpAny_Call_Name_kw (thn ((pe_var (pos := p) hN hv hdb hcd).run pins s σ H (fun v H1 => v = .ref a ∧ H1 = H) I ⟨.ref a, hs, rfl, rfl⟩) fun u s1 ⟨v, H1, I1, r1, q1⟩ => ?_)
    obtain ⟨rfl, rfl⟩ := q1
    cases (show u = Value.ref a from r1)
    rw [← o.K] at hk
    refine PySem.W.callWith_KW0 (h₀ := X.base) I.ok.mod.kin hk hall ?_ hpl
    refine thn (hkw.run pos pins s1 σ _ _ I1 ht) fun ws s2 ⟨zs, H2, I2, rz, q2⟩ => ⟨I2.kIn, ?_⟩
    rw [hks]
    exact q2.run X o pins s2 σ [] ws (fun _ _ _ w => xw_of tk w) I2 .nil rz
  · exact h.elim
end
/-! ### classmethods -/
structure vCallC (e : En) (f : Value) (ks : List Str) (xs zs : List V) (W : XK) (H : Hp) (Q : VK) : Prop where
  run : ∀ (X : Cx), Of e X → ∀ (pins : List (Addr × Obj)) (s : Shared) (σ : L2.St) (us ws : List Value), (∀ cls d H', W cls d H' → xw X σ cls d H') → Inv X pins σ H s → Vals xs us → Vals zs ws →
    codeAny (model X.prog X.w) X.A (.call f ⟨us, ks.zip ws⟩) (fun r s' => match r with | .ok (.ret v) => EP X pins σ Q v s' | .ok _ => False | .error e => X.xe e s') s
section
variable {P : Program} {w : World} {K : PySem.W.Frag} {mg : Str → Option Value} {base : Heap} {A : Around} {k j m : Nat} {E W : XK} {f C : Addr} {fd : FuncData} {ps ks : List Str} {sp : Sp} {vs zs : List V} {H : Hp} {Q : VK} {g : ∀ {α : Type}, List α → List α → List α}
theorem callc_z (hr : Rm k A) (F : FnZ P w K mg base j f sp) (h : sp vs H Q W) (hj : j ≤ k := by decide) : vCallC ⟨P, w, K, mg, base, A⟩ (.ref f) [] vs [] W H Q := by
  refine ⟨?_⟩
  rintro X ⟨rfl, rfl, rfl, rfl, rfl, hA, hc⟩ pins s σ us ws hW I r rz
  have hA : X.A = A := hA
  subst hA
  refine codeAny_mono (F X.A X.stack s H us vs Q W (hr.le hj) I.env0 r h) fun r s' hq => ?_
  match r, hq with
  | .error e, ⟨a, B, H', cls, d, e1, fl, hok, ub, na, os, ag, hE⟩ => exact takes_w e s' (XE.of_call (W := fun cls d σ H => xw X σ cls d H) (E := xw X σ) I (fun cls d H' h => h) ⟨a, B, H', cls, d, e1, fl, hok, ub, na, os, ag, hW _ _ _ hE⟩)
  | .ok (.ret u), hq => exact I.after hq
theorem callck_z (hr : Rm k A) (F : FnB P w K mg base j f fd ps sp) (B : KBz K fd ps m ks g) (l1 : vs.length = m) (l2 : zs.length = ks.length) (h : sp (g vs zs) H Q W) (hj : j ≤ k := by decide) : vCallC ⟨P, w, K, mg, base, A⟩ (.ref f) ks vs zs W H Q := by
  refine ⟨?_⟩
  rintro X ⟨rfl, rfl, rfl, rfl, rfl, hA, hc⟩ pins s σ us ws hW I r rz
  have hA : X.A = A := hA
  subst hA
  refine codeAny_mono (F X.A X.stack s H ⟨us, ks.zip ws⟩ (g us ws) (g vs zs) Q W (hr.le hj) I.env0 (B.to s us ws (r.length.symm.trans l1) (rz.length.symm.trans l2)) (B.rel l1 l2 r rz) h) fun r s' hq => ?_
  match r, hq with
  | .error e, ⟨a, B, H', cls, d, e1, fl, hok, ub, na, os, ag, hE⟩ => exact takes_w e s' (XE.of_call (W := fun cls d σ H => xw X σ cls d H) (E := xw X σ) I (fun cls d H' h => h) ⟨a, B, H', cls, d, e1, fl, hok, ub, na, os, ag, hW _ _ _ hE⟩)
  | .ok (.ret u), hq => exact I.after hq
end
def tCMethU (e : En) (W : WX) (m : Str) (ks : List Str) (ta : TE) (t tk : TA) : TE := fun σ H Q => ta σ H fun x H1 => ∃ C mc p g, x = .ref C ∧ ClX.CRead e.K C mc ∧ ClX.CMet e.K C mc m p g ∧
  t σ H1 fun vs H2 => tk σ H2 fun zs H3 => vCallC e (.ref g) ks (.ref C :: vs) zs (fun c d H' => W c d σ H') H3 Q
section
variable {n : En} {X : Cx} {W : WX} {o e : Expr} {es : List Expr} {kws : List Keyword} {ta : TE} {t tk' : TA} {pos apos : Pos} {m : Str} {ks : List Str} {pl : Sem Bool}
theorem z_cmeth (oo : Of n X) (tk : Takes X W) (he : PE X o ta) (ha : PA X (e :: es) t)
    (hst : starEach (e :: es) X.env = (false, eval e X.env) :: starEach es X.env := by rfl) (hpl : (backTo pos (starEach es X.env)).any (·.1) = false := by rfl)
    (ht : eval (.Call (.Attribute o m apos) (e :: es) [] pos) X.env = (do
      let ov ← eval o X.env
      standAt apos.atName
      let (f, first) ← holding [ov] (getMethod ov m pl)
      callWith pos f first (backTo pos (starEach (e :: es) X.env)) (backToKw pos (keywordEach [] X.env))) := by rfl) :
    PE X (.Call (.Attribute o m apos) (e :: es) [] pos) (tCMethU n W m [] ta t tNil) := by
  refine ⟨fun pins s σ H Q I h => ?_⟩
  refine PySem.W.methodCall_KW (pl := pl) (thn (he.run pins s σ H _ I h) fun u s1 ⟨x, H1, I1, rx, C, mc, p, g, ex, r, c, q⟩ => ?_) ht
  subst ex
  cases (show u = Value.ref C from rx)
  rw [← oo.K] at r c
  refine ClX.getmethcm_ok I1 r c fun s2 I2 => ?_
  refine ClX.callwith_cm I2 (ClX.base_none I1 (Nat.le_refl _)) c.fi (thn (ha.run pos _ s2 σ H1 _ I2 q) fun us s3 ⟨vs, H2, I3, rv, q2⟩ => ⟨⟨ClX.pin_at I3, I3.kIn⟩, ?_⟩) hst hpl
  have z := wpAny_call (PySem.W.method_call (ClX.pin_at I3) (q2.run X oo _ s3 σ (.ref C :: us) [] (fun _ _ _ w => xw_of tk w) I3 (.cons rfl rv) .nil))
  exact thn z fun _ _ y => ClX.unpinE y
theorem z_cmethK0 (oo : Of n X) (tk : Takes X W) (he : PE X o ta) (hkw : PK X kws tk')
    (hall : (backToKw pos (keywordEach kws X.env)).all (·.1.isSome) = true := by rfl) (hks : (backToKw pos (keywordEach kws X.env)).filterMap (·.1) = ks := by rfl) (hpl : ((backTo pos (starEach [] X.env)).any (·.1) || (backToKw pos (keywordEach kws X.env)).any (·.1.isNone)) = false := by rfl)
    (ht : eval (.Call (.Attribute o m apos) [] kws pos) X.env = (do
      let ov ← eval o X.env
      standAt apos.atName
      let (f, first) ← holding [ov] (getMethod ov m pl)
      callWith pos f first (backTo pos (starEach [] X.env)) (backToKw pos (keywordEach kws X.env))) := by rfl) :
    PE X (.Call (.Attribute o m apos) [] kws pos) (tCMethU n W m ks ta tNil tk') := by
  refine ⟨fun pins s σ H Q I h => ?_⟩
  refine PySem.W.methodCall_KW (pl := pl) (thn (he.run pins s σ H _ I h) fun u s1 ⟨x, H1, I1, rx, C, mc, p, g, ex, r, c, q⟩ => ?_) ht
  subst ex
  cases (show u = Value.ref C from rx)
  rw [← oo.K] at r c
  refine ClX.getmethcm_ok I1 r c fun s2 I2 => ?_
  refine PySem.W.callWith_of hpl (PySem.W.keeps_M c.fi) (evalArgs_kw2_nil hall (thn (hkw.run pos _ s2 σ H1 _ I2 q) fun ws s3 ⟨zs, H2, I3, rz, q2⟩ => ⟨⟨ClX.pin_at I3, I3.kIn⟩, ?_⟩))
  rw [hks]
  have z := wpAny_call (PySem.W.method_call (ClX.pin_at I3) (q2.run X oo _ s3 σ [.ref C] ws (fun _ _ _ w => xw_of tk w) I3 (.cons rfl .nil) rz))
  exact thn z fun _ _ y => ClX.unpinE y
end
def creadB (K : PySem.W.Frag) (C : Addr) : Bool := PySem.W.readsIn K C (.type "type") && He.eqO (PySem.W.specialIn K (.ref C) "__getattribute__") (some (some (.builtin "type.__getattribute__")))
theorem cread_ok {K : PySem.W.Frag} {C : Addr} (h : creadB K C = true) : ClX.CRead K C (.type "type") := ⟨(He.ba h).1, He.eqO_ok (He.ba h).2⟩
/-! ### an int constant of the module -/
theorem z_gint {X : Cx} {x : Str} {i : Int} {pos : Pos} (hg : Gl X x) (hm : ∃ t, X.mg x = some (.int i t)) (hd : (x == ("__debug__" : Str)) = false := by decide) : PE X (.Name x pos) (tC (.int i)) := by
  obtain ⟨t, h⟩ := hm
  exact pe_glob hg h ⟨t, rfl⟩ hd
def gintB (K : PySem.W.Frag) (x : Str) (i : Int) : Bool := match PySem.W.nsIn K mainGlobals x with
  | some (some (.int j _)) => i == j
  | _ => false
theorem gint_ok {K : PySem.W.Frag} {h : Heap} {mg : Str → Option Value} {x : Str} {i : Int} (X : K.In h) (G : h.Ns mainGlobals mg) (c : gintB K x i = true) : ∃ t, mg x = some (.int i t) := by
  unfold gintB at c
  split at c
  · rename_i j t e
    cases (beq_iff_eq.mp c)
    exact ⟨t, PySem.W.mg_of X G e⟩
  · cases c
/-! ### dicts -/
def uPairs : List (TE × TE) → L2.St → Hp → (List (V × V) → Hp → Prop) → Prop := tPairs
/-- a written dict, its pairs made -/
structure vDisp (p : Addr) (ps : List (V × V)) (H : Hp) (Q : VK) : Prop where
  run : H p = some (.dK []) ∧ ∃ kvs : List (Key × V), ps = kvs.map (fun kv => (kV kv.1, kv.2)) ∧ kvs.length ≤ 15 ∧ Q (.ref p) (upd H p (.dK (mergeK [] kvs)))
structure vDisp0 (trs : List (TE × TE)) (σ : L2.St) (H : Hp) (Q : VK) : Prop where
  run : ∀ p, H p = none → tPairs trs σ (upd H p (.dK [])) fun ps H2 => vDisp p ps H2 Q
def uDisp (trs : List (TE × TE)) : TE := fun σ H Q => vDisp0 trs σ H Q
theorem z_disp {X : Cx} {pos : Pos} {keys : List (Option Expr)} {values : List Expr} {trs : List (TE × TE)} (h : PPs X pos keys values trs) (hall : keys.all (·.isSome) = true := by rfl) (hl : keys.length = values.length := by rfl) (h0 : keys ≠ [] := by simp)
    (h15 : keys.length ≤ 15 := by decide) : PE X (.Dict keys values pos) (uDisp trs) := pe_imp (pe_disp h hall hl h0 h15) fun σ H Q h p n => by
  have e : (fun ps H2 => vDisp p ps H2 Q) = fun ps H2 => H2 p = some (.dK []) ∧ ∃ kvs : List (Key × V), ps = kvs.map (fun kv => (kV kv.1, kv.2)) ∧ kvs.length ≤ 15 ∧ Q (.ref p) (upd H2 p (.dK (mergeK [] kvs))) := by
    funext ps H2
    exact propext ⟨fun h => h.run, fun h => ⟨h⟩⟩
  have := h.run p n
  rw [e] at this
  exact this
theorem n_disp0 {trs : List (TE × TE)} {σ : L2.St} {H : Hp} {Q : VK} (q : ∀ p H', H p = none → Lk [] H H' → H' p = some (.dK []) → tPairs trs σ H' fun ps H2 => vDisp p ps H2 Q) : vDisp0 trs σ H Q := ⟨fun p n => q p _ n (.same (same_upd n)) upd_same⟩
theorem n_disp {p : Addr} {ps : List (V × V)} {H : Hp} {Q : VK} (kvs : List (Key × V)) (h : H p = some (.dK [])) (e : ps = kvs.map (fun kv => (kV kv.1, kv.2))) (l : kvs.length ≤ 15) (q : ∀ H', Lk [p] H H' → H' p = some (.dK (mergeK [] kvs)) → Q (.ref p) H') : vDisp p ps H Q :=
  ⟨h, kvs, e, l, q _ (.but but_upd (by rw [upd_same]; simp)) upd_same⟩
/-- d[k] -/
theorem e_ixD {n : En} {a : Addr} {kvs : List (Key × V)} {k : Key} {x : V} {v : V} {H : Hp} {Q : VK} (hu : n.A.units + 64 < cLine) (h : H a = some (.dK kvs)) (e : x = kV k) (l : valV kvs k = some v) (q : Q v H) : vIx n (.ref a) x H Q := by
  refine ⟨fun X o value slice pins s σ u iv I ru ri hs => ?_⟩
  cases (show u = Value.ref a from ru)
  subst e
  have g : DGet H a (kV k) (some v) := by rw [← l]; exact .k h
  exact tail_any (dict_typeIs I g) slot_dict_getitem.lookup (d_getItem (by rw [o.A]; omega) I g ri fun w' s' I' r => ⟨v, H, I', r, q⟩) hs
end Z

namespace Z
open PySem PySem.Spec PyProof.Rows L2 RZ
/-! ### isinstance of data -/
def tyN : PyData → Option String
  | .none => some "NoneType"
  | .bool _ => some "bool"
  | .int _ => some "int"
  | .str _ => some "str"
  | .list _ => some "list"
  | .tuple _ => some "tuple"
  | .dict [] => some "dict"
  | .dict _ => none
def isPl (d : PyData) : Bool := (tyN d).isSome
def isIntD : PyData → Bool
  | .int _ => true
  | _ => false
def isStrD : PyData → Bool
  | .str _ => true
  | _ => false
def isNonD : PyData → Bool
  | .none => true
  | _ => false
def tyNs : List String := ["NoneType", "bool", "int", "str", "list", "tuple", "dict"]
/-- C has no built-in values -/
structure NoC (K : PySem.W.Frag) (C : Addr) : Prop where
  no : ∀ a ∈ tyNs, PySem.W.kitOne K (.type a) (.ref C) = some false
def noB (K : PySem.W.Frag) (C : Addr) : Bool := tyNs.all fun a => decide (PySem.W.kitOne K (.type a) (.ref C) = some false)
theorem noc_ok {K : PySem.W.Frag} {C : Addr} (h : noB K C = true) : NoC K C := ⟨fun a m => of_decide_eq_true (List.all_eq_true.mp h a m)⟩
section
variable {n : En} {M N : List Addr} {K : PySem.W.Frag} {H : Hp} {Q : VK} {x y : V} {d e : PyData} {ds es : List PyData} {r : Bool} {a T : String} {C : Addr} {fs : List (PyData × PyData)}
theorem Kd.tyx (h : Kd M K H x d) (e : tyN d = some a) : TyX K H x (.type a) := by
  cases h with
  | non => cases e; exact .base .non
  | bl b => cases e; exact .base (.bl b)
  | int i => cases e; exact .base (.int i)
  | str s => cases e; exact .base (.str s)
  | lst n h r => cases e; exact .base (.lst h)
  | tup h r =>
    cases e
    rcases h.sq with (h | ⟨o, h⟩) | ⟨o, its, n, h, c, _⟩
    · exact .base (.tup h)
    · exact .fTuple h
    · exact .kTuple h c
  | obj n h r => simp [tyN] at e
  | emp n h => cases e; exact .base (.dK h)
theorem tyN_mem (e : tyN d = some a) : a ∈ tyNs := by
  cases d with
  | dict kvs =>
    cases kvs with
    | nil => cases e; decide
    | cons p ps => simp [tyN] at e
  | _ => cases e; decide
theorem k_isi (h : Kd M n.K H x d) (e : tyN d = some a) (hk : kitB a T = some r) (q : Q (.bl r) H) : vCB n (.builtin "isinstance") [x, .ty T] H Q := e_isi (.ty T) (h.tyx e) (kit_ty hk) q
theorem k_isiN (h : Kd M n.K H x d) (p : isPl d = true) (no : NoC n.K C) (q : Q (.bl false) H) : vCB n (.builtin "isinstance") [x, .ref C] H Q := by
  obtain ⟨a, e⟩ := Option.isSome_iff_exists.mp p
  exact e_isi (.own C) (h.tyx e) (no.no a (tyN_mem e)) q
theorem k_isiO (h : Kd M n.K H x (objD C fs)) (c : Cls n.K C) (i : Isi n.K C) (q : Q (.bl true) H) : vCB n (.builtin "isinstance") [x, .ref C] H Q := by
  cases h with
  | obj m h r => exact e_isi (.own C) (.base (.ins h c i.ca i.cn i.ct i.cm)) (by simp [PySem.W.kitOne]) q
/-- isinstance(x, int), isinstance(x, str), .. -/
theorem k_isiI (h : Kd M n.K H x d) (p : isPl d = true) (q : Q (.bl (isIntD d || (tyN d == some "bool"))) H) : vCB n (.builtin "isinstance") [x, .ty "int"] H Q := by
  obtain ⟨a, e⟩ := Option.isSome_iff_exists.mp p
  have key : ∀ a ∈ tyNs, kitB a "int" = some (a == "int" || a == "bool") := by decide +kernel
  refine k_isi h e (r := isIntD d || (tyN d == some "bool")) ((key a (tyN_mem e)).trans (congrArg some ?_)) q
  cases d with
  | dict kvs => cases kvs with
    | nil => cases e; rfl
    | cons _ _ => simp [tyN] at e
  | _ => cases e; rfl
theorem k_isiB (h : Kd M n.K H x d) (p : isPl d = true) (q : Q (.bl (tyN d == some "bool")) H) : vCB n (.builtin "isinstance") [x, .ty "bool"] H Q := by
  obtain ⟨a, e⟩ := Option.isSome_iff_exists.mp p
  have key : ∀ a ∈ tyNs, kitB a "bool" = some (a == "bool") := by decide +kernel
  refine k_isi h e (r := tyN d == some "bool") ((key a (tyN_mem e)).trans (congrArg some ?_)) q
  cases d with
  | dict kvs => cases kvs with
    | nil => cases e; rfl
    | cons _ _ => simp [tyN] at e
  | _ => cases e; rfl
theorem k_isiS (h : Kd M n.K H x d) (p : isPl d = true) (q : Q (.bl (isStrD d)) H) : vCB n (.builtin "isinstance") [x, .ty "str"] H Q := by
  obtain ⟨a, e⟩ := Option.isSome_iff_exists.mp p
  have key : ∀ a ∈ tyNs, kitB a "str" = some (a == "str") := by decide +kernel
  refine k_isi h e (r := isStrD d) ((key a (tyN_mem e)).trans (congrArg some ?_)) q
  cases d with
  | dict kvs => cases kvs with
    | nil => cases e; rfl
    | cons _ _ => simp [tyN] at e
  | _ => cases e; rfl
theorem k_isiT (h : Kd M n.K H x d) (p : isPl d = true) (q : Q (.bl (tyN d == some "tuple")) H) : vCB n (.builtin "isinstance") [x, .ty "tuple"] H Q := by
  obtain ⟨a, e⟩ := Option.isSome_iff_exists.mp p
  have key : ∀ a ∈ tyNs, kitB a "tuple" = some (a == "tuple") := by decide +kernel
  refine k_isi h e (r := tyN d == some "tuple") ((key a (tyN_mem e)).trans (congrArg some ?_)) q
  cases d with
  | dict kvs => cases kvs with
    | nil => cases e; rfl
    | cons _ _ => simp [tyN] at e
  | _ => cases e; rfl
/-- x is None -/
theorem k_isNon (h : Kd M K H x d) (q : Q (.bl (isNonD d)) H) : vOp n (compareOp .Is) x .non H Q := by
  refine e_isN ?_
  cases h <;> exact q
theorem k_notNon (h : Kd M K H x d) (q : Q (.bl (!isNonD d)) H) : vOp n (compareOp .IsNot) x .non H Q := by
  refine e_notN ?_
  cases h <;> exact q
/-- a field -/
theorem k_fld {f : Str} {W : XK} (h : Kd M n.K H x (objD C fs)) (c : Cls n.K C) (na : NoAttr n.K C f) (e : fs.find? (fun p => match p.1 with | .str k => f == k | _ => false) = some (.str f, d)) (q : kOut M n.K H d fun v => Q v H) : vAttr n f x W H Q := by
  cases h with
  | @obj a _ dx ws _ m h r =>
    have key : ∀ {ws : List (Str × V)} {fs : List (PyData × PyData)}, KdF M n.K H ws fs → fs.find? (fun p => match p.1 with | .str k => f == k | _ => false) = some (.str f, d) → ∃ v, ws.lookup f = some v ∧ Kd M n.K H v d := by
      intro ws fs r
      induction ws generalizing fs with
      | nil => cases r; intro e; cases e
      | cons w ws ih =>
        cases r with
        | @cons k v vs d' ds hk r =>
          intro e
          simp only [List.find?_cons] at e
          by_cases z : f = k
          · subst z
            simp only [beq_self_eq_true] at e
            cases e
            exact ⟨v, by simp [List.lookup], hk⟩
          · have z' : (f == k) = false := beq_eq_false_iff_ne.mpr z
            rw [z'] at e
            obtain ⟨u, h1, h2⟩ := ih r e
            exact ⟨u, by simp only [List.lookup, z']; exact h1, h2⟩
    obtain ⟨v, e1, k⟩ := key r e
    exact attr_fld h c na e1 (kOut_of (Q := fun v => Q v H) q k)
end
section
variable {M N N' : List Addr} {K : PySem.W.Frag} {H H1 H' : Hp} {v : V} {d : PyData} {s p : Addr}
theorem Kd.go (l : Lk N H H') (h : Kd M K H v d) (sb : N ⊆ M) : Kd M K H' v d := h.lk l sb
theorem Kd.goN (n : H p = none) (h : Kd M K H v d) : Kd (p :: M) K H v d := h.new n
theorem Al.go (l : Lk N H H') (h : Al M H) : Al M H' := h.lk l
theorem Lk.go (l : Lk N' H1 H') (h : Lk N H H1) (sb : N' ⊆ N) : Lk N H H' := h.trans (l.sub sb)
theorem Stk.go (l : Lk N H H') (h : Stk M H s) (sb : N ⊆ M) (n : s ∉ N) : Stk M H' s := h.lk l sb n
theorem Mk1.go {es : List PyData} (l : Lk N H H') (h : Mk1 M K p H es) (sb : N ⊆ M) (np : p ∉ N) : Mk1 M K p H' es := by
  obtain ⟨al, ws, h1, r⟩ := h
  exact ⟨al.lk l, ws, l.keep _ _ np h1, r.lk l (fun _ z => List.mem_cons_of_mem _ (sb z))⟩
theorem Stk.goN (l : Lk N H H') (n : H p = none) (h : Stk M H s) (al : Al (p :: M) H') (sb : N ⊆ p :: M) (ns : s ∉ N) : Stk (p :: M) H' s := h.new l n sb ns al
end
theorem byb_id {b : Bool} {A B : Prop} (h : byb b A B) : byb b A B := h
theorem vOp_id {n : En} {f : Value → Value → Sem Value} {x y : V} {H : Hp} {Q : VK} (h : vOp n f x y H Q) : vOp n f x y H Q := h
theorem vUn_id {n : En} {f : Value → Sem Value} {x : V} {H : Hp} {Q : VK} (h : vUn n f x H Q) : vUn n f x H Q := h
theorem vIx_id {n : En} {x y : V} {H : Hp} {Q : VK} (h : vIx n x y H Q) : vIx n x y H Q := h
theorem vCB_id {n : En} {f : Value} {xs : List V} {H : Hp} {Q : VK} (h : vCB n f xs H Q) : vCB n f xs H Q := h
theorem vTru_id {n : En} {x : V} {H : Hp} {R : Bool → Hp → Prop} (h : vTru n x H R) : vTru n x H R := h
theorem vTup_id {xs : List V} {H : Hp} {Q : VK} (h : vTup xs H Q) : vTup xs H Q := h
theorem vLst_id {xs : List V} {H : Hp} {Q : VK} (h : vLst xs H Q) : vLst xs H Q := h
theorem vUnp_id {K : PySem.W.Frag} {m : Nat} {x : V} {H : Hp} {R : List V → Prop} (h : vUnp K m x H R) : vUnp K m x H R := h
theorem opEq_id {n : En} {x y : V} {H : Hp} {Q : VK} (h : vOp n (compareOp .Eq) x y H Q) : vOp n (compareOp .Eq) x y H Q := h
theorem opNotEq_id {n : En} {x y : V} {H : Hp} {Q : VK} (h : vOp n (compareOp .NotEq) x y H Q) : vOp n (compareOp .NotEq) x y H Q := h
theorem opIn_id {n : En} {x y : V} {H : Hp} {Q : VK} (h : vOp n (compareOp .In) x y H Q) : vOp n (compareOp .In) x y H Q := h
theorem opNotIn_id {n : En} {x y : V} {H : Hp} {Q : VK} (h : vOp n (compareOp .NotIn) x y H Q) : vOp n (compareOp .NotIn) x y H Q := h
theorem opIs_id {n : En} {x y : V} {H : Hp} {Q : VK} (h : vOp n (compareOp .Is) x y H Q) : vOp n (compareOp .Is) x y H Q := h
theorem opIsNot_id {n : En} {x y : V} {H : Hp} {Q : VK} (h : vOp n (compareOp .IsNot) x y H Q) : vOp n (compareOp .IsNot) x y H Q := h
/-! ### a written dict -/
def toK : V → Key
  | .int i => .inl i
  | .str s => .inr s
  | _ => .inl 0
def psK (ps : List (V × V)) : List (Key × V) := ps.map fun p => (toK p.1, p.2)
theorem n_dispA {p : Addr} {ps : List (V × V)} {H : Hp} {Q : VK} (h : H p = some (.dK [])) (e : ps = (psK ps).map (fun kv => (kV kv.1, kv.2))) (l : Nat.ble ps.length 15 = true) (q : ∀ H', Lk [p] H H' → H' p = some (.dK (mergeK [] (psK ps))) → Q (.ref p) H') : vDisp p ps H Q :=
  n_disp (psK ps) h e (by rw [psK, List.length_map]; exact Nat.le_of_ble_eq_true l) q
theorem vDisp0_id {trs : List (TE × TE)} {σ : L2.St} {H : Hp} {Q : VK} (h : vDisp0 trs σ H Q) : vDisp0 trs σ H Q := h
mutual
theorem eqv_self : ∀ {d : PyData}, d.canLay0 = true → PyData.eqv d d = true
  | .none, _ => by simp [PyData.eqv]
  | .bool b, _ => by simp [PyData.eqv]
  | .int i, _ => by simp [PyData.eqv]
  | .str x, _ => by simp [PyData.eqv]
  | .list ds, h => by rw [PyData.canLay0] at h; rw [PyData.eqv]; exact eqv_selfAll h
  | .tuple ds, h => by rw [PyData.canLay0] at h; rw [PyData.eqv]; exact eqv_selfAll h
  | .dict kvs, h => by simp [PyData.canLay0] at h
theorem eqv_selfAll : ∀ {ds : List PyData}, PyData.canLayAll0 ds = true → PyData.eqvAll ds ds = true
  | [], _ => by simp [PyData.eqvAll]
  | d :: ds, h => by
    rw [PyData.canLayAll0, Bool.and_eq_true] at h
    rw [PyData.eqvAll, eqv_self h.1, eqv_selfAll h.2] <;> rfl
end
theorem okLS {xs : List Str} (h : ∀ x ∈ xs, PyData.strOk x = true) : okD (.list (xs.map PyData.str)) = true ∧ okD (.tuple (xs.map PyData.str)) = true := by
  have h1 := canStrs xs h
  have h2 := depStrs xs
  simp [okD, PyData.canLay0, PyData.depth, h1, h2]
theorem k_dic {M : List Addr} {K : PySem.W.Frag} {H : Hp} {Q : VK} (_ki : KIs K) (al : Al M H) (q : ∀ p H', H p = none → Lk [] H H' → Kd M K H' (.ref p) (.dict []) → Q (.ref p) H') : vDic H Q :=
  n_dic fun p H' np s hp => q p H' np (.same s) (.emp (al.off np) hp)
theorem e_isBl {n : En} {H : Hp} {Q : VK} {a b : Bool} (q : Q (.bl (decide (a = b))) H) : vOp n (compareOp .Is) (.bl a) (.bl b) H Q := vOp_of (fun _ _ => op_is_bl) ⟨a, b, rfl, rfl, q⟩
theorem e_isnotBl {n : En} {H : Hp} {Q : VK} {a b : Bool} (q : Q (.bl (!decide (a = b))) H) : vOp n (compareOp .IsNot) (.bl a) (.bl b) H Q := vOp_of (fun _ _ => op_isnot_bl) ⟨a, b, rfl, rfl, q⟩
theorem kOut_all {M : List Addr} {K : PySem.W.Frag} {H : Hp} {d : PyData} {Q : V → Prop} (h : ∀ v, Kd M K H v d → Q v) : kOut M K H d Q := by
  cases d with
  | none => exact h _ .non
  | bool b => exact h _ (.bl b)
  | int i => exact h _ (.int i)
  | str s => exact h _ (.str s)
  | list ds => exact ⟨h⟩
  | tuple ds => exact ⟨h⟩
  | dict ds => exact ⟨h⟩
theorem byb_g {b : Bool} {c : Bool} {A B : Prop} (e : b = c) (h : byb c A B) : byb b A B := e ▸ h
end Z

namespace Pf
open PySem PySem.Spec PyProof.Rows L2 RZ Z ZE
def topS (i : Nat) : Stmt := PySem.Challenge.pw_searchloops_k12_right_results.main.body.getD i (.Pass ⟨0, 0, 0, 0⟩)
abbrev s_is_integer : Stmt := topS 11
theorem sc_is_integer : FnScope ["value"] ["value"] (defScope s_is_integer) := ⟨rfl, rfl, rfl, by decide +kernel, rfl, by decide +kernel, by decide +kernel⟩
abbrev s_is_word : Stmt := topS 12
theorem sc_is_word : FnScope ["value", "words"] ["value", "words"] (defScope s_is_word) := ⟨rfl, rfl, rfl, by decide +kernel, rfl, by decide +kernel, by decide +kernel⟩
abbrev s_is_wish : Stmt := topS 13
theorem sc_is_wish : FnScope ["value"] ["value"] (defScope s_is_wish) := ⟨rfl, rfl, rfl, by decide +kernel, rfl, by decide +kernel, by decide +kernel⟩
abbrev s_Row_init : Stmt := inClass (topS 16) 0
theorem sc_Row_init : FnScope ["self", "length", "below", "upto"] ["self", "length", "below", "upto"] (defScope s_Row_init) := ⟨rfl, rfl, rfl, by decide +kernel, rfl, by decide +kernel, by decide +kernel⟩
abbrev s_Row_below : Stmt := inClass (topS 16) 3
theorem sc_Row_below : FnScope ["self"] ["self"] (defScope s_Row_below) := ⟨rfl, rfl, rfl, by decide +kernel, rfl, by decide +kernel, by decide +kernel⟩
abbrev s_Row_upto : Stmt := inClass (topS 16) 4
theorem sc_Row_upto : FnScope ["self"] ["self"] (defScope s_Row_upto) := ⟨rfl, rfl, rfl, by decide +kernel, rfl, by decide +kernel, by decide +kernel⟩
abbrev s_check_wish : Stmt := topS 18
theorem sc_check_wish : FnScope ["wish"] ["wish"] (defScope s_check_wish) := ⟨rfl, rfl, rfl, by decide +kernel, rfl, by decide +kernel, by decide +kernel⟩
abbrev s_check_row : Stmt := topS 19
theorem sc_check_row : FnScope ["row"] ["row"] (defScope s_check_row) := ⟨rfl, rfl, rfl, by decide +kernel, rfl, by decide +kernel, by decide +kernel⟩
abbrev s_wished_range : Stmt := topS 20
theorem sc_wished_range : FnScope ["wish", "row", "below", "upto"] ["wish", "row"] (defScope s_wished_range) := ⟨rfl, rfl, rfl, by decide +kernel, rfl, by decide +kernel, by decide +kernel⟩
abbrev s_is_right : Stmt := topS 21
theorem sc_is_right : FnScope ["wish", "row", "result", "wished"] ["wish", "row", "result"] (defScope s_is_right) := ⟨rfl, rfl, rfl, by decide +kernel, rfl, by decide +kernel, by decide +kernel⟩
abbrev s_wishes_of : Stmt := topS 22
theorem sc_wishes_of : FnScope ["row", "result", "wish"] ["row", "result"] (defScope s_wishes_of) := ⟨rfl, rfl, rfl, by decide +kernel, rfl, by decide +kernel, by decide +kernel⟩
abbrev s__law_store : Stmt := topS 24
theorem sc__law_store : FnScope ["_law_script", "_law_mixed", "_law_cell"] ["_law_script"] (defScope s__law_store) := ⟨rfl, rfl, rfl, by decide +kernel, rfl, by decide +kernel, by decide +kernel⟩
abbrev s__law_pick : Stmt := topS 25
theorem sc__law_pick : FnScope ["_law_store_here", "_law_many", "_law_rest", "_law_digit", "_law_old"] ["_law_store_here", "_law_many"] (defScope s__law_pick) := ⟨rfl, rfl, rfl, by decide +kernel, rfl, by decide +kernel, by decide +kernel⟩
abbrev s__law_right : Stmt := topS 26
theorem sc__law_right : FnScope ["_law_hope", "_law_placed", "_law_gained", "_law_n", "_law_t", "_law_u", "_law_wanted"] ["_law_hope", "_law_placed", "_law_gained"] (defScope s__law_right) := ⟨rfl, rfl, rfl, by decide +kernel, rfl, by decide +kernel, by decide +kernel⟩
abbrev s__law_wishes : Stmt := topS 27
theorem sc__law_wishes : FnScope [] [] (defScope s__law_wishes) := ⟨rfl, rfl, rfl, by decide +kernel, rfl, by decide +kernel, by decide +kernel⟩
abbrev s__law_rows : Stmt := topS 28
theorem sc__law_rows : FnScope ["_law_size", "_law_found", "_law_t", "_law_u"] ["_law_size"] (defScope s__law_rows) := ⟨rfl, rfl, rfl, by decide +kernel, rfl, by decide +kernel, by decide +kernel⟩
abbrev s__law_great : Stmt := topS 29
theorem sc__law_great : FnScope ["_law_store_here", "_law_way", "_law_n", "_law_some", "_law_t"] ["_law_store_here"] (defScope s__law_great) := ⟨rfl, rfl, rfl, by decide +kernel, rfl, by decide +kernel, by decide +kernel⟩
abbrev s_law : Stmt := topS 30
theorem sc_law : FnScope ["_law_script", "_law_store_here", "_law_n", "_law_t", "_law_u", "_law_turn", "_law_placed", "_law_gained", "_law_due", "_law_hope", "_law_odd"] ["_law_script"] (defScope s_law) := ⟨rfl, rfl, rfl, by decide +kernel, rfl, by decide +kernel, by decide +kernel⟩

structure Wd (P : Program) (K : PySem.W.Frag) (mg : Str → Option Value) where
  a_is_integer : Addr
  fd_is_integer : FuncData
  F_is_integer : FunD K "is_integer" "is_integer" (defArgs s_is_integer) (defBody s_is_integer) (defScope s_is_integer) [] [] a_is_integer fd_is_integer
  B_is_integer : Binds K fd_is_integer ["value"] []
  h_is_integer : mg "is_integer" = some (.ref a_is_integer)
  k_is_integer : PySem.W.keepIn K (.ref a_is_integer) = true
  a_is_word : Addr
  fd_is_word : FuncData
  F_is_word : FunD K "is_word" "is_word" (defArgs s_is_word) (defBody s_is_word) (defScope s_is_word) [] [] a_is_word fd_is_word
  B_is_word : Binds K fd_is_word ["value", "words"] []
  h_is_word : mg "is_word" = some (.ref a_is_word)
  k_is_word : PySem.W.keepIn K (.ref a_is_word) = true
  a_is_wish : Addr
  fd_is_wish : FuncData
  F_is_wish : FunD K "is_wish" "is_wish" (defArgs s_is_wish) (defBody s_is_wish) (defScope s_is_wish) [] [] a_is_wish fd_is_wish
  B_is_wish : Binds K fd_is_wish ["value"] []
  h_is_wish : mg "is_wish" = some (.ref a_is_wish)
  k_is_wish : PySem.W.keepIn K (.ref a_is_wish) = true
  a_Row_init : Addr
  fd_Row_init : FuncData
  F_Row_init : FunD K "__init__" "Row.__init__" (defArgs s_Row_init) (defBody s_Row_init) (defScope s_Row_init) [] [] a_Row_init fd_Row_init
  B_Row_init : Binds K fd_Row_init ["self", "length", "below", "upto"] []
  a_Row_below : Addr
  fd_Row_below : FuncData
  F_Row_below : FunD K "below" "Row.below" (defArgs s_Row_below) (defBody s_Row_below) (defScope s_Row_below) [] [] a_Row_below fd_Row_below
  B_Row_below : Binds K fd_Row_below ["self"] []
  a_Row_upto : Addr
  fd_Row_upto : FuncData
  F_Row_upto : FunD K "upto" "Row.upto" (defArgs s_Row_upto) (defBody s_Row_upto) (defScope s_Row_upto) [] [] a_Row_upto fd_Row_upto
  B_Row_upto : Binds K fd_Row_upto ["self"] []
  a_check_wish : Addr
  fd_check_wish : FuncData
  F_check_wish : FunD K "check_wish" "check_wish" (defArgs s_check_wish) (defBody s_check_wish) (defScope s_check_wish) [] [] a_check_wish fd_check_wish
  B_check_wish : Binds K fd_check_wish ["wish"] []
  h_check_wish : mg "check_wish" = some (.ref a_check_wish)
  k_check_wish : PySem.W.keepIn K (.ref a_check_wish) = true
  a_check_row : Addr
  fd_check_row : FuncData
  F_check_row : FunD K "check_row" "check_row" (defArgs s_check_row) (defBody s_check_row) (defScope s_check_row) [] [] a_check_row fd_check_row
  B_check_row : Binds K fd_check_row ["row"] []
  h_check_row : mg "check_row" = some (.ref a_check_row)
  k_check_row : PySem.W.keepIn K (.ref a_check_row) = true
  a_wished_range : Addr
  fd_wished_range : FuncData
  F_wished_range : FunD K "wished_range" "wished_range" (defArgs s_wished_range) (defBody s_wished_range) (defScope s_wished_range) [] [] a_wished_range fd_wished_range
  B_wished_range : Binds K fd_wished_range ["wish", "row"] []
  h_wished_range : mg "wished_range" = some (.ref a_wished_range)
  k_wished_range : PySem.W.keepIn K (.ref a_wished_range) = true
  a_is_right : Addr
  fd_is_right : FuncData
  F_is_right : FunD K "is_right" "is_right" (defArgs s_is_right) (defBody s_is_right) (defScope s_is_right) [] [] a_is_right fd_is_right
  B_is_right : Binds K fd_is_right ["wish", "row", "result"] []
  h_is_right : mg "is_right" = some (.ref a_is_right)
  k_is_right : PySem.W.keepIn K (.ref a_is_right) = true
  a_wishes_of : Addr
  fd_wishes_of : FuncData
  F_wishes_of : FunD K "wishes_of" "wishes_of" (defArgs s_wishes_of) (defBody s_wishes_of) (defScope s_wishes_of) [] [] a_wishes_of fd_wishes_of
  B_wishes_of : Binds K fd_wishes_of ["row", "result"] []
  h_wishes_of : mg "wishes_of" = some (.ref a_wishes_of)
  k_wishes_of : PySem.W.keepIn K (.ref a_wishes_of) = true
  a__law_store : Addr
  fd__law_store : FuncData
  F__law_store : FunD K "_law_store" "_law_store" (defArgs s__law_store) (defBody s__law_store) (defScope s__law_store) [] [] a__law_store fd__law_store
  B__law_store : Binds K fd__law_store ["_law_script"] []
  h__law_store : mg "_law_store" = some (.ref a__law_store)
  k__law_store : PySem.W.keepIn K (.ref a__law_store) = true
  a__law_pick : Addr
  fd__law_pick : FuncData
  F__law_pick : FunD K "_law_pick" "_law_pick" (defArgs s__law_pick) (defBody s__law_pick) (defScope s__law_pick) [] [] a__law_pick fd__law_pick
  B__law_pick : Binds K fd__law_pick ["_law_store_here", "_law_many"] []
  h__law_pick : mg "_law_pick" = some (.ref a__law_pick)
  k__law_pick : PySem.W.keepIn K (.ref a__law_pick) = true
  a__law_right : Addr
  fd__law_right : FuncData
  F__law_right : FunD K "_law_right" "_law_right" (defArgs s__law_right) (defBody s__law_right) (defScope s__law_right) [] [] a__law_right fd__law_right
  B__law_right : Binds K fd__law_right ["_law_hope", "_law_placed", "_law_gained"] []
  h__law_right : mg "_law_right" = some (.ref a__law_right)
  k__law_right : PySem.W.keepIn K (.ref a__law_right) = true
  a__law_wishes : Addr
  fd__law_wishes : FuncData
  F__law_wishes : FunD K "_law_wishes" "_law_wishes" (defArgs s__law_wishes) (defBody s__law_wishes) (defScope s__law_wishes) [] [] a__law_wishes fd__law_wishes
  B__law_wishes : Binds K fd__law_wishes [] []
  h__law_wishes : mg "_law_wishes" = some (.ref a__law_wishes)
  k__law_wishes : PySem.W.keepIn K (.ref a__law_wishes) = true
  a__law_rows : Addr
  fd__law_rows : FuncData
  F__law_rows : FunD K "_law_rows" "_law_rows" (defArgs s__law_rows) (defBody s__law_rows) (defScope s__law_rows) [] [] a__law_rows fd__law_rows
  B__law_rows : Binds K fd__law_rows ["_law_size"] []
  h__law_rows : mg "_law_rows" = some (.ref a__law_rows)
  k__law_rows : PySem.W.keepIn K (.ref a__law_rows) = true
  a__law_great : Addr
  fd__law_great : FuncData
  F__law_great : FunD K "_law_great" "_law_great" (defArgs s__law_great) (defBody s__law_great) (defScope s__law_great) [] [] a__law_great fd__law_great
  B__law_great : Binds K fd__law_great ["_law_store_here"] []
  h__law_great : mg "_law_great" = some (.ref a__law_great)
  k__law_great : PySem.W.keepIn K (.ref a__law_great) = true
  a_law : Addr
  fd_law : FuncData
  F_law : FunD K "law" "law" (defArgs s_law) (defBody s_law) (defScope s_law) [] [] a_law fd_law
  B_law : Binds K fd_law ["_law_script"] []
  h_law : mg "law" = some (.ref a_law)
  k_law : PySem.W.keepIn K (.ref a_law) = true
  a_Row : Addr
  h_Row : mg "Row" = some (.ref a_Row)
  k_Row : PySem.W.keepIn K (.ref a_Row) = true
  c_Row : Cls K a_Row
  M_Row : Mk K a_Row a_Row_init
  p_Row_below : Addr
  P_Row_below : PropOf K a_Row "below" p_Row_below a_Row_below
  p_Row_upto : Addr
  P_Row_upto : PropOf K a_Row "upto" p_Row_upto a_Row_upto
  n_Row_place : NoAttr K a_Row "place"
  i_Row : Isi K a_Row
  no_Row : NoC K a_Row
  a_WISHES : Addr
  h_WISHES : mg "WISHES" = some (.ref a_WISHES)
  con_WISHES : ∀ M H, Kd M K H (.ref a_WISHES) (.tuple [(.str "first"), (.str "after"), (.str "before"), (.str "last"), (.str "between"), (.str "first equal"), (.str "last equal"), (.str "any equal")])
  b_abs : mg "abs" = none
  b_bool : mg "bool" = none
  b_divmod : mg "divmod" = none
  b_int : mg "int" = none
  b_isinstance : mg "isinstance" = none
  b_max : mg "max" = none
  b_min : mg "min" = none
  b_range : mg "range" = none
  b_repr : mg "repr" = none
  b_str : mg "str" = none
  b_tuple : mg "tuple" = none
theorem Wd.ki {P : Program} {K : PySem.W.Frag} {mg : Str → Option Value} (_ : Wd P K mg) : KIs K := ⟨trivial⟩
def g_is_right_result_row_wish {α : Type} : List α → List α → List α
  | [], [y0, y1, y2] => [y2, y1, y0]
  | _, _ => []
theorem kb_is_right_result_row_wish {P : Program} {K : PySem.W.Frag} {mg : Str → Option Value} (D : Wd P K mg) : KBz K D.fd_is_right ["wish", "row", "result"] 0 ["result", "row", "wish"] g_is_right_result_row_wish :=
  kb_of D.F_is_right (fun _ _ _ _ _ _ us ws h1 h2 => match us, ws, h1, h2 with | [], [_, _, _], _, _ => rfl) fun {vs us zs ws} h1 h2 r1 r2 => match vs, zs, us, ws, h1, h2, r1, r2 with
    | [], [_, _, _], _, _, _, _, .nil, (.cons y0 (.cons y1 (.cons y2 .nil))) => (.cons y2 (.cons y1 (.cons y0 .nil)))
def g_wishes_of_result_row {α : Type} : List α → List α → List α
  | [], [y0, y1] => [y1, y0]
  | _, _ => []
theorem kb_wishes_of_result_row {P : Program} {K : PySem.W.Frag} {mg : Str → Option Value} (D : Wd P K mg) : KBz K D.fd_wishes_of ["row", "result"] 0 ["result", "row"] g_wishes_of_result_row :=
  kb_of D.F_wishes_of (fun _ _ _ _ _ _ us ws h1 h2 => match us, ws, h1, h2 with | [], [_, _], _, _ => rfl) fun {vs us zs ws} h1 h2 r1 r2 => match vs, zs, us, ws, h1, h2, r1, r2 with
    | [], [_, _], _, _, _, _, .nil, (.cons y0 (.cons y1 .nil)) => (.cons y1 (.cons y0 .nil))
section
variable {P : Program} {w : World} {K : PySem.W.Frag} {mg : Str → Option Value} {base : Heap}

def t_is_integer (D : Wd P K mg) (n : En) (W : WX) : TS := (tRet (tAndU n (tCB (vCB n (.builtin "isinstance")) (tCons (tV 0) (tCons (tC (.ty "int")) tNil))) (tNotU n (tCB (vCB n (.builtin "isinstance")) (tCons (tV 0) (tCons (tC (.ty "bool")) tNil))))))
theorem d_is_integer (D : Wd P K mg) (cdv : Value) (A : Around) (outer : List Env) (s : Shared) (H : Hp) (E : XK) (f : Addr) (o : Of ⟨P, w, K, mg, base, A.deeper (envOfC "is_integer" (defScope s_is_integer) s.heap.objs.size f cdv)⟩ (cxOf (L2.CX P w) P w K mg base ["value"] "is_integer" (defScope s_is_integer) f cdv A outer s H E))
    (tk : Takes (cxOf (L2.CX P w) P w K mg base ["value"] "is_integer" (defScope s_is_integer) f cdv A outer s H E) (fun cls d _ H => E cls d H)) :
    PSs (cxOf (L2.CX P w) P w K mg base ["value"] "is_integer" (defScope s_is_integer) f cdv A outer s H E) (defBody s_is_integer) (t_is_integer D ⟨P, w, K, mg, base, A.deeper (envOfC "is_integer" (defScope s_is_integer) s.heap.objs.size f cdv)⟩ (fun cls d _ H => E cls d H)) := by
  have hp : PassesOwn (model (cxOf (L2.CX P w) P w K mg base ["value"] "is_integer" (defScope s_is_integer) f cdv A outer s H E).prog (cxOf (L2.CX P w) P w K mg base ["value"] "is_integer" (defScope s_is_integer) f cdv A outer s H E).w) (cxOf (L2.CX P w) P w K mg base ["value"] "is_integer" (defScope s_is_integer) f cdv A outer s H E).A (cxOf (L2.CX P w) P w K mg base ["value"] "is_integer" (defScope s_is_integer) f cdv A outer s H E).env (cxOf (L2.CX P w) P w K mg base ["value"] "is_integer" (defScope s_is_integer) f cdv A outer s H E).xe := passes_of rfl
  exact (pss_one (ps_ret (z_and o (pe_callB (cbr_v o) (by rfl) D.b_isinstance (by decide +kernel) (pa_cons (zv 0) (pa_cons (pe_bltn (by rfl) D.b_int (by decide +kernel) rfl) pa_nil))) (pe_one (z_not o (pe_callB (cbr_v o) (by rfl) D.b_isinstance (by decide +kernel) (pa_cons (zv 0) (pa_cons (pe_bltn (by rfl) D.b_bool (by decide +kernel) rfl) pa_nil))))))))


def t_is_word (D : Wd P K mg) (n : En) (W : WX) : TS := (tRet (tAndU n (tCB (vCB n (.builtin "isinstance")) (tCons (tV 0) (tCons (tC (.ty "str")) tNil))) (tOp (vOp n (compareOp .In)) (tV 0) (tV 1))))
theorem d_is_word (D : Wd P K mg) (cdv : Value) (A : Around) (outer : List Env) (s : Shared) (H : Hp) (E : XK) (f : Addr) (o : Of ⟨P, w, K, mg, base, A.deeper (envOfC "is_word" (defScope s_is_word) s.heap.objs.size f cdv)⟩ (cxOf (L2.CX P w) P w K mg base ["value", "words"] "is_word" (defScope s_is_word) f cdv A outer s H E))
    (tk : Takes (cxOf (L2.CX P w) P w K mg base ["value", "words"] "is_word" (defScope s_is_word) f cdv A outer s H E) (fun cls d _ H => E cls d H)) :
    PSs (cxOf (L2.CX P w) P w K mg base ["value", "words"] "is_word" (defScope s_is_word) f cdv A outer s H E) (defBody s_is_word) (t_is_word D ⟨P, w, K, mg, base, A.deeper (envOfC "is_word" (defScope s_is_word) s.heap.objs.size f cdv)⟩ (fun cls d _ H => E cls d H)) := by
  have hp : PassesOwn (model (cxOf (L2.CX P w) P w K mg base ["value", "words"] "is_word" (defScope s_is_word) f cdv A outer s H E).prog (cxOf (L2.CX P w) P w K mg base ["value", "words"] "is_word" (defScope s_is_word) f cdv A outer s H E).w) (cxOf (L2.CX P w) P w K mg base ["value", "words"] "is_word" (defScope s_is_word) f cdv A outer s H E).A (cxOf (L2.CX P w) P w K mg base ["value", "words"] "is_word" (defScope s_is_word) f cdv A outer s H E).env (cxOf (L2.CX P w) P w K mg base ["value", "words"] "is_word" (defScope s_is_word) f cdv A outer s H E).xe := passes_of rfl
  exact (pss_one (ps_ret (z_and o (pe_callB (cbr_v o) (by rfl) D.b_isinstance (by decide +kernel) (pa_cons (zv 0) (pa_cons (pe_bltn (by rfl) D.b_str (by decide +kernel) rfl) pa_nil))) (pe_one (pe_cmpR (opr_v o) (zv 0) (zv 1) (by rfl))))))


def t_is_wish (D : Wd P K mg) (n : En) (W : WX) : TS := (tRet (tCallU n W (.ref D.a_is_word) (tCons (tV 0) (tCons (tC (.ref D.a_WISHES)) tNil))))
theorem d_is_wish (D : Wd P K mg) (cdv : Value) (A : Around) (outer : List Env) (s : Shared) (H : Hp) (E : XK) (f : Addr) (o : Of ⟨P, w, K, mg, base, A.deeper (envOfC "is_wish" (defScope s_is_wish) s.heap.objs.size f cdv)⟩ (cxOf (L2.CX P w) P w K mg base ["value"] "is_wish" (defScope s_is_wish) f cdv A outer s H E))
    (tk : Takes (cxOf (L2.CX P w) P w K mg base ["value"] "is_wish" (defScope s_is_wish) f cdv A outer s H E) (fun cls d _ H => E cls d H)) :
    PSs (cxOf (L2.CX P w) P w K mg base ["value"] "is_wish" (defScope s_is_wish) f cdv A outer s H E) (defBody s_is_wish) (t_is_wish D ⟨P, w, K, mg, base, A.deeper (envOfC "is_wish" (defScope s_is_wish) s.heap.objs.size f cdv)⟩ (fun cls d _ H => E cls d H)) := by
  have hp : PassesOwn (model (cxOf (L2.CX P w) P w K mg base ["value"] "is_wish" (defScope s_is_wish) f cdv A outer s H E).prog (cxOf (L2.CX P w) P w K mg base ["value"] "is_wish" (defScope s_is_wish) f cdv A outer s H E).w) (cxOf (L2.CX P w) P w K mg base ["value"] "is_wish" (defScope s_is_wish) f cdv A outer s H E).A (cxOf (L2.CX P w) P w K mg base ["value"] "is_wish" (defScope s_is_wish) f cdv A outer s H E).env (cxOf (L2.CX P w) P w K mg base ["value"] "is_wish" (defScope s_is_wish) f cdv A outer s H E).xe := passes_of rfl
  exact (pss_one (ps_ret (z_call o tk D.h_is_word D.k_is_word (pa_cons (zv 0) (pa_cons (pe_glob (by rfl) D.h_WISHES rfl) pa_nil)))))

def t_Row_init_k0 (D : Wd P K mg) (n : En) (W : WX) : TS := (sFld n.K (tV 0) (uTup (tCons (tV 1) (tCons (tV 2) (tCons (tV 3) tNil)))) "place")
def t_Row_init_k1 (D : Wd P K mg) (n : En) (W : WX) : TS := (tSeq (uIfS (uOr (tNot (tTruU n (tCallU n W (.ref D.a_is_integer) (tCons (tV 3) tNil)))) (tNot (uTest (uChain (vOp n (compareOp .LtE)) (vOp n (compareOp .LtE)) (tV 2) (tV 3) (tV 1))))) tNever tNext)
  (t_Row_init_k0 D n W))
def t_Row_init_k2 (D : Wd P K mg) (n : En) (W : WX) : TS := (tSeq (uIfS (uOr (tNot (tTruU n (tCallU n W (.ref D.a_is_integer) (tCons (tV 2) tNil)))) (tNot (uTest (uChain (vOp n (compareOp .LtE)) (vOp n (compareOp .LtE)) (tC (.int 0)) (tV 2) (tV 1))))) tNever tNext)
  (t_Row_init_k1 D n W))
def t_Row_init (D : Wd P K mg) (n : En) (W : WX) : TS := (tSeq (uIfS (uOr (tNot (tTruU n (tCallU n W (.ref D.a_is_integer) (tCons (tV 1) tNil)))) (uTest (tOp (vOp n (compareOp .Lt)) (tV 1) (tC (.int 0))))) tNever tNext)
  (t_Row_init_k2 D n W))
theorem d_Row_init (D : Wd P K mg) (cdv : Value) (A : Around) (outer : List Env) (s : Shared) (H : Hp) (E : XK) (f : Addr) (o : Of ⟨P, w, K, mg, base, A.deeper (envOfC "Row.__init__" (defScope s_Row_init) s.heap.objs.size f cdv)⟩ (cxOf (L2.CX P w) P w K mg base ["self", "length", "below", "upto"] "Row.__init__" (defScope s_Row_init) f cdv A outer s H E))
    (tk : Takes (cxOf (L2.CX P w) P w K mg base ["self", "length", "below", "upto"] "Row.__init__" (defScope s_Row_init) f cdv A outer s H E) (fun cls d _ H => E cls d H)) :
    PSs (cxOf (L2.CX P w) P w K mg base ["self", "length", "below", "upto"] "Row.__init__" (defScope s_Row_init) f cdv A outer s H E) (defBody s_Row_init) (t_Row_init D ⟨P, w, K, mg, base, A.deeper (envOfC "Row.__init__" (defScope s_Row_init) s.heap.objs.size f cdv)⟩ (fun cls d _ H => E cls d H)) := by
  have hp : PassesOwn (model (cxOf (L2.CX P w) P w K mg base ["self", "length", "below", "upto"] "Row.__init__" (defScope s_Row_init) f cdv A outer s H E).prog (cxOf (L2.CX P w) P w K mg base ["self", "length", "below", "upto"] "Row.__init__" (defScope s_Row_init) f cdv A outer s H E).w) (cxOf (L2.CX P w) P w K mg base ["self", "length", "below", "upto"] "Row.__init__" (defScope s_Row_init) f cdv A outer s H E).A (cxOf (L2.CX P w) P w K mg base ["self", "length", "below", "upto"] "Row.__init__" (defScope s_Row_init) f cdv A outer s H E).env (cxOf (L2.CX P w) P w K mg base ["self", "length", "below", "upto"] "Row.__init__" (defScope s_Row_init) f cdv A outer s H E).xe := passes_of rfl
  exact (pss_cons (z_if (PW.pt (zw_or (pt_not (z_tru o (z_call o tk D.h_is_integer D.k_is_integer (pa_cons (zv 1) pa_nil)))) (pw_or1 (z_cmpT (opr_v o) (zv 1) pe_int (nomark _))))) (pss_one ps_never) pss_nil)
  (pss_cons (z_if (PW.pt (zw_or (pt_not (z_tru o (z_call o tk D.h_is_integer D.k_is_integer (pa_cons (zv 2) pa_nil)))) (pw_or1 (pt_not (z_chainT (opr_v o) (opr_v o) pe_int (zv 2) (zv 1)))))) (pss_one ps_never) pss_nil)
  (pss_cons (z_if (PW.pt (zw_or (pt_not (z_tru o (z_call o tk D.h_is_integer D.k_is_integer (pa_cons (zv 3) pa_nil)))) (pw_or1 (pt_not (z_chainT (opr_v o) (opr_v o) (zv 2) (zv 3) (zv 1)))))) (pss_one ps_never) pss_nil)
  (pss_one (ps_fld (zv 0) (z_tup (pa_cons (zv 1) (pa_cons (zv 2) (pa_cons (zv 3) pa_nil)))) rfl)))))


def t_Row_below (D : Wd P K mg) (n : En) (W : WX) : TS := (tRet (tOp (vIx n) (tAttr n W "place" (tV 0)) (tC (.int 1))))
theorem d_Row_below (D : Wd P K mg) (cdv : Value) (A : Around) (outer : List Env) (s : Shared) (H : Hp) (E : XK) (f : Addr) (o : Of ⟨P, w, K, mg, base, A.deeper (envOfC "Row.below" (defScope s_Row_below) s.heap.objs.size f cdv)⟩ (cxOf (L2.CX P w) P w K mg base ["self"] "Row.below" (defScope s_Row_below) f cdv A outer s H E))
    (tk : Takes (cxOf (L2.CX P w) P w K mg base ["self"] "Row.below" (defScope s_Row_below) f cdv A outer s H E) (fun cls d _ H => E cls d H)) :
    PSs (cxOf (L2.CX P w) P w K mg base ["self"] "Row.below" (defScope s_Row_below) f cdv A outer s H E) (defBody s_Row_below) (t_Row_below D ⟨P, w, K, mg, base, A.deeper (envOfC "Row.below" (defScope s_Row_below) s.heap.objs.size f cdv)⟩ (fun cls d _ H => E cls d H)) := by
  have hp : PassesOwn (model (cxOf (L2.CX P w) P w K mg base ["self"] "Row.below" (defScope s_Row_below) f cdv A outer s H E).prog (cxOf (L2.CX P w) P w K mg base ["self"] "Row.below" (defScope s_Row_below) f cdv A outer s H E).w) (cxOf (L2.CX P w) P w K mg base ["self"] "Row.below" (defScope s_Row_below) f cdv A outer s H E).A (cxOf (L2.CX P w) P w K mg base ["self"] "Row.below" (defScope s_Row_below) f cdv A outer s H E).env (cxOf (L2.CX P w) P w K mg base ["self"] "Row.below" (defScope s_Row_below) f cdv A outer s H E).xe := passes_of rfl
  exact (pss_one (ps_ret (pe_ix (ixr_v o) (z_attr o tk (zv 0)) pe_int (fun _ _ => rfl))))


def t_Row_upto (D : Wd P K mg) (n : En) (W : WX) : TS := (tRet (tOp (vIx n) (tAttr n W "place" (tV 0)) (tC (.int 2))))
theorem d_Row_upto (D : Wd P K mg) (cdv : Value) (A : Around) (outer : List Env) (s : Shared) (H : Hp) (E : XK) (f : Addr) (o : Of ⟨P, w, K, mg, base, A.deeper (envOfC "Row.upto" (defScope s_Row_upto) s.heap.objs.size f cdv)⟩ (cxOf (L2.CX P w) P w K mg base ["self"] "Row.upto" (defScope s_Row_upto) f cdv A outer s H E))
    (tk : Takes (cxOf (L2.CX P w) P w K mg base ["self"] "Row.upto" (defScope s_Row_upto) f cdv A outer s H E) (fun cls d _ H => E cls d H)) :
    PSs (cxOf (L2.CX P w) P w K mg base ["self"] "Row.upto" (defScope s_Row_upto) f cdv A outer s H E) (defBody s_Row_upto) (t_Row_upto D ⟨P, w, K, mg, base, A.deeper (envOfC "Row.upto" (defScope s_Row_upto) s.heap.objs.size f cdv)⟩ (fun cls d _ H => E cls d H)) := by
  have hp : PassesOwn (model (cxOf (L2.CX P w) P w K mg base ["self"] "Row.upto" (defScope s_Row_upto) f cdv A outer s H E).prog (cxOf (L2.CX P w) P w K mg base ["self"] "Row.upto" (defScope s_Row_upto) f cdv A outer s H E).w) (cxOf (L2.CX P w) P w K mg base ["self"] "Row.upto" (defScope s_Row_upto) f cdv A outer s H E).A (cxOf (L2.CX P w) P w K mg base ["self"] "Row.upto" (defScope s_Row_upto) f cdv A outer s H E).env (cxOf (L2.CX P w) P w K mg base ["self"] "Row.upto" (defScope s_Row_upto) f cdv A outer s H E).xe := passes_of rfl
  exact (pss_one (ps_ret (pe_ix (ixr_v o) (z_attr o tk (zv 0)) pe_int (fun _ _ => rfl))))


def t_check_wish (D : Wd P K mg) (n : En) (W : WX) : TS := (uIfS (tNot (tTruU n (tCallU n W (.ref D.a_is_wish) (tCons (tV 0) tNil)))) tNever tNext)
theorem d_check_wish (D : Wd P K mg) (cdv : Value) (A : Around) (outer : List Env) (s : Shared) (H : Hp) (E : XK) (f : Addr) (o : Of ⟨P, w, K, mg, base, A.deeper (envOfC "check_wish" (defScope s_check_wish) s.heap.objs.size f cdv)⟩ (cxOf (L2.CX P w) P w K mg base ["wish"] "check_wish" (defScope s_check_wish) f cdv A outer s H E))
    (tk : Takes (cxOf (L2.CX P w) P w K mg base ["wish"] "check_wish" (defScope s_check_wish) f cdv A outer s H E) (fun cls d _ H => E cls d H)) :
    PSs (cxOf (L2.CX P w) P w K mg base ["wish"] "check_wish" (defScope s_check_wish) f cdv A outer s H E) (defBody s_check_wish) (t_check_wish D ⟨P, w, K, mg, base, A.deeper (envOfC "check_wish" (defScope s_check_wish) s.heap.objs.size f cdv)⟩ (fun cls d _ H => E cls d H)) := by
  have hp : PassesOwn (model (cxOf (L2.CX P w) P w K mg base ["wish"] "check_wish" (defScope s_check_wish) f cdv A outer s H E).prog (cxOf (L2.CX P w) P w K mg base ["wish"] "check_wish" (defScope s_check_wish) f cdv A outer s H E).w) (cxOf (L2.CX P w) P w K mg base ["wish"] "check_wish" (defScope s_check_wish) f cdv A outer s H E).A (cxOf (L2.CX P w) P w K mg base ["wish"] "check_wish" (defScope s_check_wish) f cdv A outer s H E).env (cxOf (L2.CX P w) P w K mg base ["wish"] "check_wish" (defScope s_check_wish) f cdv A outer s H E).xe := passes_of rfl
  exact (pss_one (z_if (pt_not (z_tru o (z_call o tk D.h_is_wish D.k_is_wish (pa_cons (zv 0) pa_nil)))) (pss_one ps_never) pss_nil))


def t_check_row (D : Wd P K mg) (n : En) (W : WX) : TS := (uIfS (tNot (tTruU n (tCB (vCB n (.builtin "isinstance")) (tCons (tV 0) (tCons (tC (.ref D.a_Row)) tNil))))) tNever tNext)
theorem d_check_row (D : Wd P K mg) (cdv : Value) (A : Around) (outer : List Env) (s : Shared) (H : Hp) (E : XK) (f : Addr) (o : Of ⟨P, w, K, mg, base, A.deeper (envOfC "check_row" (defScope s_check_row) s.heap.objs.size f cdv)⟩ (cxOf (L2.CX P w) P w K mg base ["row"] "check_row" (defScope s_check_row) f cdv A outer s H E))
    (tk : Takes (cxOf (L2.CX P w) P w K mg base ["row"] "check_row" (defScope s_check_row) f cdv A outer s H E) (fun cls d _ H => E cls d H)) :
    PSs (cxOf (L2.CX P w) P w K mg base ["row"] "check_row" (defScope s_check_row) f cdv A outer s H E) (defBody s_check_row) (t_check_row D ⟨P, w, K, mg, base, A.deeper (envOfC "check_row" (defScope s_check_row) s.heap.objs.size f cdv)⟩ (fun cls d _ H => E cls d H)) := by
  have hp : PassesOwn (model (cxOf (L2.CX P w) P w K mg base ["row"] "check_row" (defScope s_check_row) f cdv A outer s H E).prog (cxOf (L2.CX P w) P w K mg base ["row"] "check_row" (defScope s_check_row) f cdv A outer s H E).w) (cxOf (L2.CX P w) P w K mg base ["row"] "check_row" (defScope s_check_row) f cdv A outer s H E).A (cxOf (L2.CX P w) P w K mg base ["row"] "check_row" (defScope s_check_row) f cdv A outer s H E).env (cxOf (L2.CX P w) P w K mg base ["row"] "check_row" (defScope s_check_row) f cdv A outer s H E).xe := passes_of rfl
  exact (pss_one (z_if (pt_not (z_tru o (pe_callB (cbr_v o) (by rfl) D.b_isinstance (by decide +kernel) (pa_cons (zv 0) (pa_cons (pe_glob (by rfl) D.h_Row rfl) pa_nil))))) (pss_one ps_never) pss_nil))

def t_wished_range_k0 (D : Wd P K mg) (n : En) (W : WX) : TS := (tRet (uIf (uTest (tOp (vOp n (compareOp .Eq)) (tV 0) (tC (.str "before")))) (uTup (tCons (tOp (vOp n (binaryOp .Sub)) (tV 2) (tC (.int 1))) (tCons (tOp (vOp n (binaryOp .Sub)) (tV 2) (tC (.int 1))) tNil))) (uTup (tCons (tOp (vOp n (binaryOp .Sub)) (tV 3) (tC (.int 1))) (tCons (tOp (vOp n (binaryOp .Sub)) (tV 3) (tC (.int 1))) tNil)))))
def t_wished_range_k1 (D : Wd P K mg) (n : En) (W : WX) : TS := (tSeq (uIfS (uTest (tOp (vOp n (compareOp .Eq)) (tV 0) (tC (.str "after")))) (tRet (uTup (tCons (tV 3) (tCons (tV 3) tNil)))) tNext)
  (t_wished_range_k0 D n W))
def t_wished_range_k2 (D : Wd P K mg) (n : En) (W : WX) : TS := (tSeq (uIfS (uOr (uTest (tOp (vOp n (compareOp .Eq)) (tV 0) (tC (.str "first")))) (uTest (tOp (vOp n (compareOp .Eq)) (tV 0) (tC (.str "first equal"))))) (tRet (uTup (tCons (tV 2) (tCons (tV 2) tNil)))) tNext)
  (t_wished_range_k1 D n W))
def t_wished_range_k3 (D : Wd P K mg) (n : En) (W : WX) : TS := (tSeq (uIfS (uTest (tOp (vOp n (compareOp .Eq)) (tV 0) (tC (.str "any equal")))) (tRet (uTup (tCons (tV 2) (tCons (tOp (vOp n (binaryOp .Sub)) (tV 3) (tC (.int 1))) tNil)))) tNext)
  (t_wished_range_k2 D n W))
def t_wished_range_k4 (D : Wd P K mg) (n : En) (W : WX) : TS := (tSeq (uIfS (uTest (tOp (vOp n (compareOp .Eq)) (tV 0) (tC (.str "between")))) (tRet (uTup (tCons (tV 2) (tCons (tV 3) tNil)))) tNext)
  (t_wished_range_k3 D n W))
def t_wished_range (D : Wd P K mg) (n : En) (W : WX) : TS := (tSeq (uPar 2 3 (tCons (tAttr n W "below" (tV 1)) (tCons (tAttr n W "upto" (tV 1)) tNil)))
  (tSeq (uIfS (uAnd (uTest (tOp (vOp n (compareOp .In)) (tV 0) (uTup (tCons (tC (.str "first equal")) (tCons (tC (.str "last equal")) (tCons (tC (.str "any equal")) tNil)))))) (uTest (tOp (vOp n (compareOp .Eq)) (tV 2) (tV 3)))) (tRet (tC .non)) tNext)
  (t_wished_range_k4 D n W)))
theorem d_wished_range (D : Wd P K mg) (cdv : Value) (A : Around) (outer : List Env) (s : Shared) (H : Hp) (E : XK) (f : Addr) (o : Of ⟨P, w, K, mg, base, A.deeper (envOfC "wished_range" (defScope s_wished_range) s.heap.objs.size f cdv)⟩ (cxOf (L2.CX P w) P w K mg base ["wish", "row", "below", "upto"] "wished_range" (defScope s_wished_range) f cdv A outer s H E))
    (tk : Takes (cxOf (L2.CX P w) P w K mg base ["wish", "row", "below", "upto"] "wished_range" (defScope s_wished_range) f cdv A outer s H E) (fun cls d _ H => E cls d H)) :
    PSs (cxOf (L2.CX P w) P w K mg base ["wish", "row", "below", "upto"] "wished_range" (defScope s_wished_range) f cdv A outer s H E) (defBody s_wished_range) (t_wished_range D ⟨P, w, K, mg, base, A.deeper (envOfC "wished_range" (defScope s_wished_range) s.heap.objs.size f cdv)⟩ (fun cls d _ H => E cls d H)) := by
  have hp : PassesOwn (model (cxOf (L2.CX P w) P w K mg base ["wish", "row", "below", "upto"] "wished_range" (defScope s_wished_range) f cdv A outer s H E).prog (cxOf (L2.CX P w) P w K mg base ["wish", "row", "below", "upto"] "wished_range" (defScope s_wished_range) f cdv A outer s H E).w) (cxOf (L2.CX P w) P w K mg base ["wish", "row", "below", "upto"] "wished_range" (defScope s_wished_range) f cdv A outer s H E).A (cxOf (L2.CX P w) P w K mg base ["wish", "row", "below", "upto"] "wished_range" (defScope s_wished_range) f cdv A outer s H E).env (cxOf (L2.CX P w) P w K mg base ["wish", "row", "below", "upto"] "wished_range" (defScope s_wished_range) f cdv A outer s H E).xe := passes_of rfl
  exact (pss_cons (c_par (ps_par (by rfl) sc_wished_range.nd rfl rfl (by decide) rfl rfl (pa_cons (z_attr o tk (zv 1)) (pa_cons (z_attr o tk (zv 1)) pa_nil)) (by rfl)))
  (pss_cons (z_if (PW.pt (zw_and (z_cmpT (opr_v o) (zv 0) (z_tup (pa_cons pe_str (pa_cons pe_str (pa_cons pe_str pa_nil)))) (by rfl)) (pw_and1 (z_cmpT (opr_v o) (zv 2) (zv 3) (nomark _))))) (pss_one (ps_ret pe_non)) pss_nil)
  (pss_cons (z_if (z_cmpT (opr_v o) (zv 0) pe_str (nomark _)) (pss_one (ps_ret (z_tup (pa_cons (zv 2) (pa_cons (zv 3) pa_nil))))) pss_nil)
  (pss_cons (z_if (z_cmpT (opr_v o) (zv 0) pe_str (nomark _)) (pss_one (ps_ret (z_tup (pa_cons (zv 2) (pa_cons (pe_op (opr_v o) (zv 3) pe_int) pa_nil))))) pss_nil)
  (pss_cons (z_if (PW.pt (zw_or (z_cmpT (opr_v o) (zv 0) pe_str (nomark _)) (pw_or1 (z_cmpT (opr_v o) (zv 0) pe_str (nomark _))))) (pss_one (ps_ret (z_tup (pa_cons (zv 2) (pa_cons (zv 2) pa_nil))))) pss_nil)
  (pss_cons (z_if (z_cmpT (opr_v o) (zv 0) pe_str (nomark _)) (pss_one (ps_ret (z_tup (pa_cons (zv 3) (pa_cons (zv 3) pa_nil))))) pss_nil)
  (pss_one (ps_ret (z_ifE (z_cmpT (opr_v o) (zv 0) pe_str (nomark _)) (z_tup (pa_cons (pe_op (opr_v o) (zv 2) pe_int) (pa_cons (pe_op (opr_v o) (zv 2) pe_int) pa_nil))) (z_tup (pa_cons (pe_op (opr_v o) (zv 3) pe_int) (pa_cons (pe_op (opr_v o) (zv 3) pe_int) pa_nil))))))))))))

def t_is_right_k0 (D : Wd P K mg) (n : En) (W : WX) : TS := (tRet (tAndU n (tCallU n W (.ref D.a_is_integer) (tCons (tV 2) tNil)) (uChain (vOp n (compareOp .LtE)) (vOp n (compareOp .LtE)) (tOp (vIx n) (tV 3) (tC (.int 0))) (tV 2) (tOp (vIx n) (tV 3) (tC (.int 1))))))
def t_is_right (D : Wd P K mg) (n : En) (W : WX) : TS := (tSeq (tDrop (tCallU n W (.ref D.a_check_wish) (tCons (tV 0) tNil)))
  (tSeq (tDrop (tCallU n W (.ref D.a_check_row) (tCons (tV 1) tNil)))
  (tSeq (tAsg (tCallU n W (.ref D.a_wished_range) (tCons (tV 0) (tCons (tV 1) tNil))) (gName 3))
  (tSeq (uIfS (uTest (tOp (vOp n (compareOp .Is)) (tV 3) (tC .non))) (tRet (tOp (vOp n (compareOp .Is)) (tV 2) (tC .non))) tNext)
  (t_is_right_k0 D n W)))))
theorem d_is_right (D : Wd P K mg) (cdv : Value) (A : Around) (outer : List Env) (s : Shared) (H : Hp) (E : XK) (f : Addr) (o : Of ⟨P, w, K, mg, base, A.deeper (envOfC "is_right" (defScope s_is_right) s.heap.objs.size f cdv)⟩ (cxOf (L2.CX P w) P w K mg base ["wish", "row", "result", "wished"] "is_right" (defScope s_is_right) f cdv A outer s H E))
    (tk : Takes (cxOf (L2.CX P w) P w K mg base ["wish", "row", "result", "wished"] "is_right" (defScope s_is_right) f cdv A outer s H E) (fun cls d _ H => E cls d H)) :
    PSs (cxOf (L2.CX P w) P w K mg base ["wish", "row", "result", "wished"] "is_right" (defScope s_is_right) f cdv A outer s H E) (defBody s_is_right) (t_is_right D ⟨P, w, K, mg, base, A.deeper (envOfC "is_right" (defScope s_is_right) s.heap.objs.size f cdv)⟩ (fun cls d _ H => E cls d H)) := by
  have hp : PassesOwn (model (cxOf (L2.CX P w) P w K mg base ["wish", "row", "result", "wished"] "is_right" (defScope s_is_right) f cdv A outer s H E).prog (cxOf (L2.CX P w) P w K mg base ["wish", "row", "result", "wished"] "is_right" (defScope s_is_right) f cdv A outer s H E).w) (cxOf (L2.CX P w) P w K mg base ["wish", "row", "result", "wished"] "is_right" (defScope s_is_right) f cdv A outer s H E).A (cxOf (L2.CX P w) P w K mg base ["wish", "row", "result", "wished"] "is_right" (defScope s_is_right) f cdv A outer s H E).env (cxOf (L2.CX P w) P w K mg base ["wish", "row", "result", "wished"] "is_right" (defScope s_is_right) f cdv A outer s H E).xe := passes_of rfl
  exact (pss_cons (ps_expr (z_call o tk D.h_check_wish D.k_check_wish (pa_cons (zv 0) pa_nil)))
  (pss_cons (ps_expr (z_call o tk D.h_check_row D.k_check_row (pa_cons (zv 1) pa_nil)))
  (pss_cons (ps_set (i := 3) sc_is_right.nd rfl (by first | exact Or.inl rfl | exact Or.inr rfl) (z_call o tk D.h_wished_range D.k_wished_range (pa_cons (zv 0) (pa_cons (zv 1) pa_nil))))
  (pss_cons (z_if (z_cmpT (opr_v o) (zv 3) pe_non (nomark _)) (pss_one (ps_ret (pe_cmpR (opr_v o) (zv 2) pe_non (nomark _)))) pss_nil)
  (pss_one (ps_ret (z_and o (z_call o tk D.h_is_integer D.k_is_integer (pa_cons (zv 2) pa_nil)) (pe_one (z_chain (opr_v o) (opr_v o) (pe_ix (ixr_v o) (zv 3) pe_int (fun _ _ => rfl)) (zv 2) (pe_ix (ixr_v o) (zv 3) pe_int (fun _ _ => rfl)))))))))))


def t_wishes_of (D : Wd P K mg) (n : En) (W : WX) : TS := (tSeq (tDrop (tCallU n W (.ref D.a_check_row) (tCons (tV 0) tNil)))
  (tRet (tCB (vCB n (.type "tuple")) (tCons (uLcT n.K (tC (.ref D.a_WISHES)) (gName 2) (tTruU n (tCallU n (fun _ _ _ _ => False) (.ref D.a_is_right) (tCons (tV 2) (tCons (tV 0) (tCons (tV 1) tNil))))) (tV 2) [2]) tNil))))
theorem d_wishes_of (D : Wd P K mg) (cdv : Value) (A : Around) (outer : List Env) (s : Shared) (H : Hp) (E : XK) (f : Addr) (o : Of ⟨P, w, K, mg, base, A.deeper (envOfC "wishes_of" (defScope s_wishes_of) s.heap.objs.size f cdv)⟩ (cxOf (L2.CX P w) P w K mg base ["row", "result", "wish"] "wishes_of" (defScope s_wishes_of) f cdv A outer s H E))
    (tk : Takes (cxOf (L2.CX P w) P w K mg base ["row", "result", "wish"] "wishes_of" (defScope s_wishes_of) f cdv A outer s H E) (fun cls d _ H => E cls d H)) :
    PSs (cxOf (L2.CX P w) P w K mg base ["row", "result", "wish"] "wishes_of" (defScope s_wishes_of) f cdv A outer s H E) (defBody s_wishes_of) (t_wishes_of D ⟨P, w, K, mg, base, A.deeper (envOfC "wishes_of" (defScope s_wishes_of) s.heap.objs.size f cdv)⟩ (fun cls d _ H => E cls d H)) := by
  have hp : PassesOwn (model (cxOf (L2.CX P w) P w K mg base ["row", "result", "wish"] "wishes_of" (defScope s_wishes_of) f cdv A outer s H E).prog (cxOf (L2.CX P w) P w K mg base ["row", "result", "wish"] "wishes_of" (defScope s_wishes_of) f cdv A outer s H E).w) (cxOf (L2.CX P w) P w K mg base ["row", "result", "wish"] "wishes_of" (defScope s_wishes_of) f cdv A outer s H E).A (cxOf (L2.CX P w) P w K mg base ["row", "result", "wish"] "wishes_of" (defScope s_wishes_of) f cdv A outer s H E).env (cxOf (L2.CX P w) P w K mg base ["row", "result", "wish"] "wishes_of" (defScope s_wishes_of) f cdv A outer s H E).xe := passes_of rfl
  exact (pss_cons (ps_expr (z_call o tk D.h_check_row D.k_check_row (pa_cons (zv 0) pa_nil)))
  (pss_one (ps_ret (pe_callTy (cbr_v o) (by rfl) D.b_tuple (by decide +kernel) (pa_cons (c_lcT (pe_lc (own := [("wish", 2)]) rfl sc_wishes_of.nd (pi_tup (pe_glob (by rfl) D.h_WISHES rfl)) (blkOk_by (own := [("wish", 2)]) (N := ["row", "result", "wish"]) (sc := defScope s_wishes_of) (by decide +kernel)) (fun _ _ _ _ _ => (pg_name (i := 2) sc_wishes_of.nd rfl (by first | exact Or.inl rfl | exact Or.inr rfl))) (fun _ _ _ _ _ => (pts_one (z_tru (of_blk o) (z_call (of_blk o) takes0 D.h_is_right D.k_is_right (pa_cons (zv 2) (pa_cons (zv 0) (pa_cons (zv 1) pa_nil))))))) (fun _ _ _ _ _ => (zv 2)))) pa_nil)))))

def t__law_store_k0 (D : Wd P K mg) (n : En) (W : WX) : TS := (tAsg (tOp (vOp n (binaryOp .Mod)) (tCB (vCB n (.type "int")) (tCons (tOp (vOp n (binaryOp .Add)) (tOp (vOp n (binaryOp .Add)) (tOp (vOp n (binaryOp .Mult)) (tV 1) (tC (.int 48271))) (tCB (vCB n (.type "int")) (tCons (tV 2) tNil))) (tC (.int 7))) tNil)) (tC (.int 2147483647))) (gName 1))
def t__law_store_k1 (D : Wd P K mg) (n : En) (W : WX) : TS := (tRet (uLst (tCons (tV 1) (tCons (uLcL n.K (tSl (vSl n) (tV 0) tNoPart (uPart (tC (.int 60)))) (gName 2) (tNot (uTest (uChain (vOp n (compareOp .Lt)) (vOp n (compareOp .Lt)) (tUn (vUn n (unaryOp .USub)) (tC (.int 1000000))) (tV 2) (tC (.int 1000000))))) (tCB (vCB n (.builtin "abs")) (tCons (tV 2) tNil)) [2]) (tCons (tC (.int 0)) tNil)))))
def t__law_store (D : Wd P K mg) (n : En) (W : WX) : TS := (tSeq (tAsg (tC (.int 11)) (gName 1))
  (tSeq (uForL n.K (tSl (vSl n) (tV 0) tNoPart (uPart (tC (.int 60)))) (gName 2) (t__law_store_k0 D n W))
  (t__law_store_k1 D n W)))
theorem d__law_store (D : Wd P K mg) (cdv : Value) (A : Around) (outer : List Env) (s : Shared) (H : Hp) (E : XK) (f : Addr) (o : Of ⟨P, w, K, mg, base, A.deeper (envOfC "_law_store" (defScope s__law_store) s.heap.objs.size f cdv)⟩ (cxOf (L2.CX P w) P w K mg base ["_law_script", "_law_mixed", "_law_cell"] "_law_store" (defScope s__law_store) f cdv A outer s H E))
    (tk : Takes (cxOf (L2.CX P w) P w K mg base ["_law_script", "_law_mixed", "_law_cell"] "_law_store" (defScope s__law_store) f cdv A outer s H E) (fun cls d _ H => E cls d H)) :
    PSs (cxOf (L2.CX P w) P w K mg base ["_law_script", "_law_mixed", "_law_cell"] "_law_store" (defScope s__law_store) f cdv A outer s H E) (defBody s__law_store) (t__law_store D ⟨P, w, K, mg, base, A.deeper (envOfC "_law_store" (defScope s__law_store) s.heap.objs.size f cdv)⟩ (fun cls d _ H => E cls d H)) := by
  have hp : PassesOwn (model (cxOf (L2.CX P w) P w K mg base ["_law_script", "_law_mixed", "_law_cell"] "_law_store" (defScope s__law_store) f cdv A outer s H E).prog (cxOf (L2.CX P w) P w K mg base ["_law_script", "_law_mixed", "_law_cell"] "_law_store" (defScope s__law_store) f cdv A outer s H E).w) (cxOf (L2.CX P w) P w K mg base ["_law_script", "_law_mixed", "_law_cell"] "_law_store" (defScope s__law_store) f cdv A outer s H E).A (cxOf (L2.CX P w) P w K mg base ["_law_script", "_law_mixed", "_law_cell"] "_law_store" (defScope s__law_store) f cdv A outer s H E).env (cxOf (L2.CX P w) P w K mg base ["_law_script", "_law_mixed", "_law_cell"] "_law_store" (defScope s__law_store) f cdv A outer s H E).xe := passes_of rfl
  exact (pss_cons (ps_set (i := 1) sc__law_store.nd rfl (by first | exact Or.inl rfl | exact Or.inr rfl) pe_int)
  (pss_cons (c_forL (ps_for hp rfl (pi_list (pe_slice (slr_v o) (zv 0) po_none (z_part pe_int))) (pg_name (i := 2) sc__law_store.nd rfl (by first | exact Or.inl rfl | exact Or.inr rfl)) (pss_one (ps_set (i := 1) sc__law_store.nd rfl (by first | exact Or.inl rfl | exact Or.inr rfl) (pe_op (opr_v o) (pe_callTy (cbr_v o) (by rfl) D.b_int (by decide +kernel) (pa_cons (pe_op (opr_v o) (pe_op (opr_v o) (pe_op (opr_v o) (zv 1) pe_int) (pe_callTy (cbr_v o) (by rfl) D.b_int (by decide +kernel) (pa_cons (zv 2) pa_nil))) pe_int) pa_nil)) pe_int)))))
  (pss_one (ps_ret (z_lst (pa_cons (zv 1) (pa_cons (c_lcL (pe_lc (own := [("_law_cell", 2)]) rfl sc__law_store.nd (pi_list (pe_slice (slr_v o) (zv 0) po_none (z_part pe_int))) (blkOk_by (own := [("_law_cell", 2)]) (N := ["_law_script", "_law_mixed", "_law_cell"]) (sc := defScope s__law_store) (by decide +kernel)) (fun _ _ _ _ _ => (pg_name (i := 2) sc__law_store.nd rfl (by first | exact Or.inl rfl | exact Or.inr rfl))) (fun _ _ _ _ _ => (pts_one (pt_not (z_chainT (opr_v (of_blk o)) (opr_v (of_blk o)) (pe_un (unr_v (of_blk o)) pe_int) (zv 2) pe_int)))) (fun _ _ _ _ _ => (pe_callB (cbr_v (of_blk o)) (by rfl) D.b_abs (by decide +kernel) (pa_cons (zv 2) pa_nil))))) (pa_cons pe_int pa_nil))))))))

def t__law_pick_k0 (D : Wd P K mg) (n : En) (W : WX) : TS := (tSeq (tAsg (tCB (vCB n (.type "int")) (tCons (tOp (vIx n) (tV 0) (tC (.int 0))) tNil)) (gName 4))
  (tSeq (tAsg (tOp (vOp n (binaryOp .Mod)) (tCB (vCB n (.type "int")) (tCons (tOp (vOp n (binaryOp .Add)) (tOp (vOp n (binaryOp .Add)) (tOp (vOp n (binaryOp .Mult)) (tV 4) (tC (.int 16807))) (tOp (vOp n (binaryOp .Mult)) (tC (.int 131)) (tOp (vIx n) (tV 0) (tC (.int 2))))) (tOp (vOp n (binaryOp .Mod)) (tCB (vCB n (.type "int")) (tCons (tV 4) tNil)) (tC (.int 1009)))) tNil)) (tC (.int 2147483647))) (gSub (tV 0) (tC (.int 0)) (vSet n)))
  (tRet (tOp (vOp n (binaryOp .Mod)) (tCB (vCB n (.type "int")) (tCons (tOp (vOp n (binaryOp .FloorDiv)) (tOp (vIx n) (tV 0) (tC (.int 0))) (tC (.int 97))) tNil)) (tV 1)))))
def t__law_pick (D : Wd P K mg) (n : En) (W : WX) : TS := (tSeq (tAsg (tOp (vOp n (binaryOp .Add)) (tOp (vIx n) (tV 0) (tC (.int 2))) (tC (.int 1))) (gSub (tV 0) (tC (.int 2)) (vSet n)))
  (tSeq (uIfS (uTest (tOp (vOp n (compareOp .NotEq)) (tOp (vIx n) (tV 0) (tC (.int 1))) (uLst tNil))) (tSeq (tAsg (tCB (vCB n (.builtin "divmod")) (tCons (tOp (vIx n) (tOp (vIx n) (tV 0) (tC (.int 1))) (tC (.int 0))) (tCons (tV 1) tNil))) (uTupG n.K 2 (uCons (gName 2) (uCons (gName 3) uNil))))
  (tSeq (tAsg (tOp (vOp n (binaryOp .Add)) (uIf (uTest (tOp (vOp n (compareOp .Gt)) (tV 2) (tC (.int 0)))) (uLst (tCons (tV 2) tNil)) (uLst tNil)) (tSl (vSl n) (tOp (vIx n) (tV 0) (tC (.int 1))) (uPart (tC (.int 1))) tNoPart)) (gSub (tV 0) (tC (.int 1)) (vSet n)))
  (tRet (tV 3)))) tNext)
  (t__law_pick_k0 D n W)))
theorem d__law_pick (D : Wd P K mg) (cdv : Value) (A : Around) (outer : List Env) (s : Shared) (H : Hp) (E : XK) (f : Addr) (o : Of ⟨P, w, K, mg, base, A.deeper (envOfC "_law_pick" (defScope s__law_pick) s.heap.objs.size f cdv)⟩ (cxOf (L2.CX P w) P w K mg base ["_law_store_here", "_law_many", "_law_rest", "_law_digit", "_law_old"] "_law_pick" (defScope s__law_pick) f cdv A outer s H E))
    (tk : Takes (cxOf (L2.CX P w) P w K mg base ["_law_store_here", "_law_many", "_law_rest", "_law_digit", "_law_old"] "_law_pick" (defScope s__law_pick) f cdv A outer s H E) (fun cls d _ H => E cls d H)) :
    PSs (cxOf (L2.CX P w) P w K mg base ["_law_store_here", "_law_many", "_law_rest", "_law_digit", "_law_old"] "_law_pick" (defScope s__law_pick) f cdv A outer s H E) (defBody s__law_pick) (t__law_pick D ⟨P, w, K, mg, base, A.deeper (envOfC "_law_pick" (defScope s__law_pick) s.heap.objs.size f cdv)⟩ (fun cls d _ H => E cls d H)) := by
  have hp : PassesOwn (model (cxOf (L2.CX P w) P w K mg base ["_law_store_here", "_law_many", "_law_rest", "_law_digit", "_law_old"] "_law_pick" (defScope s__law_pick) f cdv A outer s H E).prog (cxOf (L2.CX P w) P w K mg base ["_law_store_here", "_law_many", "_law_rest", "_law_digit", "_law_old"] "_law_pick" (defScope s__law_pick) f cdv A outer s H E).w) (cxOf (L2.CX P w) P w K mg base ["_law_store_here", "_law_many", "_law_rest", "_law_digit", "_law_old"] "_law_pick" (defScope s__law_pick) f cdv A outer s H E).A (cxOf (L2.CX P w) P w K mg base ["_law_store_here", "_law_many", "_law_rest", "_law_digit", "_law_old"] "_law_pick" (defScope s__law_pick) f cdv A outer s H E).env (cxOf (L2.CX P w) P w K mg base ["_law_store_here", "_law_many", "_law_rest", "_law_digit", "_law_old"] "_law_pick" (defScope s__law_pick) f cdv A outer s H E).xe := passes_of rfl
  exact (pss_cons (ps_asg (pe_op (opr_v o) (pe_ix (ixr_v o) (zv 0) pe_int (fun _ _ => rfl)) pe_int) (pg_sub (zv 0) pe_int (set_v o)))
  (pss_cons (z_if (z_cmpT (opr_v o) (pe_ix (ixr_v o) (zv 0) pe_int (fun _ _ => rfl)) (z_lst pa_nil) (nomark _)) (pss_cons (ps_asg (pe_callB (cbr_v o) (by rfl) D.b_divmod (by decide +kernel) (pa_cons (pe_ix (ixr_v o) (pe_ix (ixr_v o) (zv 0) pe_int (fun _ _ => rfl)) pe_int (fun _ _ => rfl)) (pa_cons (zv 1) pa_nil))) (c_tup (pg_tup rfl (c_cons (pgs_cons (pg_name (i := 2) sc__law_pick.nd rfl (by first | exact Or.inl rfl | exact Or.inr rfl)) (c_cons (pgs_cons (pg_name (i := 3) sc__law_pick.nd rfl (by first | exact Or.inl rfl | exact Or.inr rfl)) (c_nil pgs_nil))))))))
  (pss_cons (ps_asg (pe_op (opr_v o) (z_ifE (z_cmpT (opr_v o) (zv 2) pe_int (nomark _)) (z_lst (pa_cons (zv 2) pa_nil)) (z_lst pa_nil)) (pe_slice (slr_v o) (pe_ix (ixr_v o) (zv 0) pe_int (fun _ _ => rfl)) (z_part pe_int) po_none)) (pg_sub (zv 0) pe_int (set_v o)))
  (pss_one (ps_ret (zv 3))))) pss_nil)
  (pss_cons (ps_set (i := 4) sc__law_pick.nd rfl (by first | exact Or.inl rfl | exact Or.inr rfl) (pe_callTy (cbr_v o) (by rfl) D.b_int (by decide +kernel) (pa_cons (pe_ix (ixr_v o) (zv 0) pe_int (fun _ _ => rfl)) pa_nil)))
  (pss_cons (ps_asg (pe_op (opr_v o) (pe_callTy (cbr_v o) (by rfl) D.b_int (by decide +kernel) (pa_cons (pe_op (opr_v o) (pe_op (opr_v o) (pe_op (opr_v o) (zv 4) pe_int) (pe_op (opr_v o) pe_int (pe_ix (ixr_v o) (zv 0) pe_int (fun _ _ => rfl)))) (pe_op (opr_v o) (pe_callTy (cbr_v o) (by rfl) D.b_int (by decide +kernel) (pa_cons (zv 4) pa_nil)) pe_int)) pa_nil)) pe_int) (pg_sub (zv 0) pe_int (set_v o)))
  (pss_one (ps_ret (pe_op (opr_v o) (pe_callTy (cbr_v o) (by rfl) D.b_int (by decide +kernel) (pa_cons (pe_op (opr_v o) (pe_ix (ixr_v o) (zv 0) pe_int (fun _ _ => rfl)) pe_int) pa_nil)) (zv 1))))))))

def t__law_right_k0 (D : Wd P K mg) (n : En) (W : WX) : TS := (tSeq (tAsg (uDisp [((tC (.str "first")), (tV 4)), ((tC (.str "after")), (tV 5)), ((tC (.str "before")), (tOp (vOp n (binaryOp .Sub)) (tV 4) (tC (.int 1)))), ((tC (.str "last")), (tOp (vOp n (binaryOp .Sub)) (tV 5) (tC (.int 1)))), ((tC (.str "first equal")), (tV 4)), ((tC (.str "last equal")), (tOp (vOp n (binaryOp .Sub)) (tV 5) (tC (.int 1))))]) (gName 6))
  (tRet (tOp (vOp n (compareOp .Eq)) (tV 2) (tOp (vIx n) (tV 6) (tV 0)))))
def t__law_right_k1 (D : Wd P K mg) (n : En) (W : WX) : TS := (tSeq (uIfS (uTest (tOp (vOp n (compareOp .Eq)) (tV 0) (tC (.str "any equal")))) (tRet (uChain (vOp n (compareOp .LtE)) (vOp n (compareOp .Lt)) (tV 4) (tV 2) (tV 5))) tNext)
  (t__law_right_k0 D n W))
def t__law_right_k2 (D : Wd P K mg) (n : En) (W : WX) : TS := (tSeq (uIfS (uTest (tOp (vOp n (compareOp .Eq)) (tV 0) (tC (.str "between")))) (tRet (uChain (vOp n (compareOp .LtE)) (vOp n (compareOp .LtE)) (tV 4) (tV 2) (tV 5))) tNext)
  (t__law_right_k1 D n W))
def t__law_right_k3 (D : Wd P K mg) (n : En) (W : WX) : TS := (tSeq (uIfS (uTest (tOp (vOp n (compareOp .Is)) (tV 2) (tC .non))) (tRet (tC (.bl false))) tNext)
  (t__law_right_k2 D n W))
def t__law_right (D : Wd P K mg) (n : En) (W : WX) : TS := (tSeq (tAsg (tV 1) (uTupG n.K 3 (uCons (gName 3) (uCons (gName 4) (uCons (gName 5) uNil)))))
  (tSeq (uIfS (uAnd (uTest (tOp (vOp n (compareOp .In)) (tV 0) (uLst (tCons (tC (.str "first equal")) (tCons (tC (.str "last equal")) (tCons (tC (.str "any equal")) tNil)))))) (uTest (tOp (vOp n (compareOp .Eq)) (tV 4) (tV 5)))) (tRet (tOp (vOp n (compareOp .Is)) (tV 2) (tC .non))) tNext)
  (t__law_right_k3 D n W)))
theorem d__law_right (D : Wd P K mg) (cdv : Value) (A : Around) (outer : List Env) (s : Shared) (H : Hp) (E : XK) (f : Addr) (o : Of ⟨P, w, K, mg, base, A.deeper (envOfC "_law_right" (defScope s__law_right) s.heap.objs.size f cdv)⟩ (cxOf (L2.CX P w) P w K mg base ["_law_hope", "_law_placed", "_law_gained", "_law_n", "_law_t", "_law_u", "_law_wanted"] "_law_right" (defScope s__law_right) f cdv A outer s H E))
    (tk : Takes (cxOf (L2.CX P w) P w K mg base ["_law_hope", "_law_placed", "_law_gained", "_law_n", "_law_t", "_law_u", "_law_wanted"] "_law_right" (defScope s__law_right) f cdv A outer s H E) (fun cls d _ H => E cls d H)) :
    PSs (cxOf (L2.CX P w) P w K mg base ["_law_hope", "_law_placed", "_law_gained", "_law_n", "_law_t", "_law_u", "_law_wanted"] "_law_right" (defScope s__law_right) f cdv A outer s H E) (defBody s__law_right) (t__law_right D ⟨P, w, K, mg, base, A.deeper (envOfC "_law_right" (defScope s__law_right) s.heap.objs.size f cdv)⟩ (fun cls d _ H => E cls d H)) := by
  have hp : PassesOwn (model (cxOf (L2.CX P w) P w K mg base ["_law_hope", "_law_placed", "_law_gained", "_law_n", "_law_t", "_law_u", "_law_wanted"] "_law_right" (defScope s__law_right) f cdv A outer s H E).prog (cxOf (L2.CX P w) P w K mg base ["_law_hope", "_law_placed", "_law_gained", "_law_n", "_law_t", "_law_u", "_law_wanted"] "_law_right" (defScope s__law_right) f cdv A outer s H E).w) (cxOf (L2.CX P w) P w K mg base ["_law_hope", "_law_placed", "_law_gained", "_law_n", "_law_t", "_law_u", "_law_wanted"] "_law_right" (defScope s__law_right) f cdv A outer s H E).A (cxOf (L2.CX P w) P w K mg base ["_law_hope", "_law_placed", "_law_gained", "_law_n", "_law_t", "_law_u", "_law_wanted"] "_law_right" (defScope s__law_right) f cdv A outer s H E).env (cxOf (L2.CX P w) P w K mg base ["_law_hope", "_law_placed", "_law_gained", "_law_n", "_law_t", "_law_u", "_law_wanted"] "_law_right" (defScope s__law_right) f cdv A outer s H E).xe := passes_of rfl
  exact (pss_cons (ps_asg (zv 1) (c_tup (pg_tup rfl (c_cons (pgs_cons (pg_name (i := 3) sc__law_right.nd rfl (by first | exact Or.inl rfl | exact Or.inr rfl)) (c_cons (pgs_cons (pg_name (i := 4) sc__law_right.nd rfl (by first | exact Or.inl rfl | exact Or.inr rfl)) (c_cons (pgs_cons (pg_name (i := 5) sc__law_right.nd rfl (by first | exact Or.inl rfl | exact Or.inr rfl)) (c_nil pgs_nil))))))))))
  (pss_cons (z_if (PW.pt (zw_and (z_cmpT (opr_v o) (zv 0) (z_lst (pa_cons pe_str (pa_cons pe_str (pa_cons pe_str pa_nil)))) (by rfl)) (pw_and1 (z_cmpT (opr_v o) (zv 4) (zv 5) (nomark _))))) (pss_one (ps_ret (pe_cmpR (opr_v o) (zv 2) pe_non (nomark _)))) pss_nil)
  (pss_cons (z_if (z_cmpT (opr_v o) (zv 2) pe_non (nomark _)) (pss_one (ps_ret pe_bl)) pss_nil)
  (pss_cons (z_if (z_cmpT (opr_v o) (zv 0) pe_str (nomark _)) (pss_one (ps_ret (z_chain (opr_v o) (opr_v o) (zv 4) (zv 2) (zv 5)))) pss_nil)
  (pss_cons (z_if (z_cmpT (opr_v o) (zv 0) pe_str (nomark _)) (pss_one (ps_ret (z_chain (opr_v o) (opr_v o) (zv 4) (zv 2) (zv 5)))) pss_nil)
  (pss_cons (ps_set (i := 6) sc__law_right.nd rfl (by first | exact Or.inl rfl | exact Or.inr rfl) (z_disp (pps_cons pe_str (zv 4) (pps_cons pe_str (zv 5) (pps_cons pe_str (pe_op (opr_v o) (zv 4) pe_int) (pps_cons pe_str (pe_op (opr_v o) (zv 5) pe_int) (pps_cons pe_str (zv 4) (pps_cons pe_str (pe_op (opr_v o) (zv 5) pe_int) pps_nil))))))))
  (pss_one (ps_ret (pe_cmpR (opr_v o) (zv 2) (pe_ix (ixr_v o) (zv 6) (zv 0) (fun _ _ => rfl)) (nomark _))))))))))


def t__law_wishes (D : Wd P K mg) (n : En) (W : WX) : TS := (tRet (uLst (tCons (tC (.str "first")) (tCons (tC (.str "after")) (tCons (tC (.str "before")) (tCons (tC (.str "last")) (tCons (tC (.str "between")) (tCons (tC (.str "first equal")) (tCons (tC (.str "last equal")) (tCons (tC (.str "any equal")) tNil))))))))))
theorem d__law_wishes (D : Wd P K mg) (cdv : Value) (A : Around) (outer : List Env) (s : Shared) (H : Hp) (E : XK) (f : Addr) (o : Of ⟨P, w, K, mg, base, A.deeper (envOfC "_law_wishes" (defScope s__law_wishes) s.heap.objs.size f cdv)⟩ (cxOf (L2.CX P w) P w K mg base [] "_law_wishes" (defScope s__law_wishes) f cdv A outer s H E))
    (tk : Takes (cxOf (L2.CX P w) P w K mg base [] "_law_wishes" (defScope s__law_wishes) f cdv A outer s H E) (fun cls d _ H => E cls d H)) :
    PSs (cxOf (L2.CX P w) P w K mg base [] "_law_wishes" (defScope s__law_wishes) f cdv A outer s H E) (defBody s__law_wishes) (t__law_wishes D ⟨P, w, K, mg, base, A.deeper (envOfC "_law_wishes" (defScope s__law_wishes) s.heap.objs.size f cdv)⟩ (fun cls d _ H => E cls d H)) := by
  have hp : PassesOwn (model (cxOf (L2.CX P w) P w K mg base [] "_law_wishes" (defScope s__law_wishes) f cdv A outer s H E).prog (cxOf (L2.CX P w) P w K mg base [] "_law_wishes" (defScope s__law_wishes) f cdv A outer s H E).w) (cxOf (L2.CX P w) P w K mg base [] "_law_wishes" (defScope s__law_wishes) f cdv A outer s H E).A (cxOf (L2.CX P w) P w K mg base [] "_law_wishes" (defScope s__law_wishes) f cdv A outer s H E).env (cxOf (L2.CX P w) P w K mg base [] "_law_wishes" (defScope s__law_wishes) f cdv A outer s H E).xe := passes_of rfl
  exact (pss_one (ps_ret (z_lst (pa_cons pe_str (pa_cons pe_str (pa_cons pe_str (pa_cons pe_str (pa_cons pe_str (pa_cons pe_str (pa_cons pe_str (pa_cons pe_str pa_nil)))))))))))

def t__law_rows_k0 (D : Wd P K mg) (n : En) (W : WX) : TS := (tAsg (tOp (vOp n (binaryOp .Add)) (tV 1) (uLcR2 (tCons (tV 2) (tCons (tOp (vOp n (binaryOp .Add)) (tV 0) (tC (.int 1))) tNil)) (gName 3) tYes (uTup (tCons (tV 0) (tCons (tV 2) (tCons (tV 3) tNil)))) [3])) (gName 1))
def t__law_rows (D : Wd P K mg) (n : En) (W : WX) : TS := (tSeq (tAsg (uLst tNil) (gName 1))
  (tSeq (uForR1 (tCons (tOp (vOp n (binaryOp .Add)) (tV 0) (tC (.int 1))) tNil) (gName 2) (t__law_rows_k0 D n W))
  (tRet (tV 1))))
theorem d__law_rows (D : Wd P K mg) (cdv : Value) (A : Around) (outer : List Env) (s : Shared) (H : Hp) (E : XK) (f : Addr) (o : Of ⟨P, w, K, mg, base, A.deeper (envOfC "_law_rows" (defScope s__law_rows) s.heap.objs.size f cdv)⟩ (cxOf (L2.CX P w) P w K mg base ["_law_size", "_law_found", "_law_t", "_law_u"] "_law_rows" (defScope s__law_rows) f cdv A outer s H E))
    (tk : Takes (cxOf (L2.CX P w) P w K mg base ["_law_size", "_law_found", "_law_t", "_law_u"] "_law_rows" (defScope s__law_rows) f cdv A outer s H E) (fun cls d _ H => E cls d H)) :
    PSs (cxOf (L2.CX P w) P w K mg base ["_law_size", "_law_found", "_law_t", "_law_u"] "_law_rows" (defScope s__law_rows) f cdv A outer s H E) (defBody s__law_rows) (t__law_rows D ⟨P, w, K, mg, base, A.deeper (envOfC "_law_rows" (defScope s__law_rows) s.heap.objs.size f cdv)⟩ (fun cls d _ H => E cls d H)) := by
  have hp : PassesOwn (model (cxOf (L2.CX P w) P w K mg base ["_law_size", "_law_found", "_law_t", "_law_u"] "_law_rows" (defScope s__law_rows) f cdv A outer s H E).prog (cxOf (L2.CX P w) P w K mg base ["_law_size", "_law_found", "_law_t", "_law_u"] "_law_rows" (defScope s__law_rows) f cdv A outer s H E).w) (cxOf (L2.CX P w) P w K mg base ["_law_size", "_law_found", "_law_t", "_law_u"] "_law_rows" (defScope s__law_rows) f cdv A outer s H E).A (cxOf (L2.CX P w) P w K mg base ["_law_size", "_law_found", "_law_t", "_law_u"] "_law_rows" (defScope s__law_rows) f cdv A outer s H E).env (cxOf (L2.CX P w) P w K mg base ["_law_size", "_law_found", "_law_t", "_law_u"] "_law_rows" (defScope s__law_rows) f cdv A outer s H E).xe := passes_of rfl
  exact (pss_cons (ps_set (i := 1) sc__law_rows.nd rfl (by first | exact Or.inl rfl | exact Or.inr rfl) (z_lst pa_nil))
  (pss_cons (c_forR1 (ps_for hp rfl (pi_range1 (by rfl) D.b_range (pa_cons (pe_op (opr_v o) (zv 0) pe_int) pa_nil)) (pg_name (i := 2) sc__law_rows.nd rfl (by first | exact Or.inl rfl | exact Or.inr rfl)) (pss_one (ps_set (i := 1) sc__law_rows.nd rfl (by first | exact Or.inl rfl | exact Or.inr rfl) (pe_op (opr_v o) (zv 1) (c_lcR2 (pe_lc (own := [("_law_u", 3)]) rfl sc__law_rows.nd (pi_range2 (by rfl) D.b_range (pa_cons (zv 2) (pa_cons (pe_op (opr_v o) (zv 0) pe_int) pa_nil))) (blkOk_by (own := [("_law_u", 3)]) (N := ["_law_size", "_law_found", "_law_t", "_law_u"]) (sc := defScope s__law_rows) (by decide +kernel)) (fun _ _ _ _ _ => (pg_name (i := 3) sc__law_rows.nd rfl (by first | exact Or.inl rfl | exact Or.inr rfl))) (fun _ _ _ _ _ => pts_nil) (fun _ _ _ _ _ => (z_tup (pa_cons (zv 0) (pa_cons (zv 2) (pa_cons (zv 3) pa_nil))))))))))))
  (pss_one (ps_ret (zv 1)))))

def t__law_great_k0 (D : Wd P K mg) (n : En) (W : WX) : TS := (tSeq (tAsg (uLst (tCons (tCallU n W (.ref D.a__law_pick) (tCons (tV 0) (tCons (tC (.int 4)) tNil))) (tCons (tOp (vOp n (binaryOp .Sub)) (tV 2) (tCallU n W (.ref D.a__law_pick) (tCons (tV 0) (tCons (tC (.int 4)) tNil)))) (tCons (tOp (vOp n (binaryOp .Sub)) (tOp (vOp n (binaryOp .Add)) (tOp (vOp n (binaryOp .FloorDiv)) (tCB (vCB n (.type "int")) (tCons (tV 2) tNil)) (tC (.int 2))) (tCallU n W (.ref D.a__law_pick) (tCons (tV 0) (tCons (tC (.int 5)) tNil)))) (tC (.int 2))) tNil)))) (gName 3))
  (tSeq (tAsg (tOp (vOp n (binaryOp .Add)) (tV 3) (uLst (tCons (tOp (vOp n (binaryOp .FloorDiv)) (tCB (vCB n (.type "int")) (tCons (tOp (vOp n (binaryOp .Mult)) (tV 2) (tCallU n W (.ref D.a__law_pick) (tCons (tV 0) (tCons (tOp (vOp n (binaryOp .Pow)) (tC (.int 10)) (tC (.int 6))) tNil)))) tNil)) (tOp (vOp n (binaryOp .Pow)) (tC (.int 10)) (tC (.int 6)))) tNil))) (gName 3))
  (tSeq (tAsg (tCB (vCB n (.builtin "max")) (tCons (tC (.int 0)) (tCons (tCB (vCB n (.builtin "min")) (tCons (tV 2) (tCons (tOp (vIx n) (tV 3) (tCallU n W (.ref D.a__law_pick) (tCons (tV 0) (tCons (tC (.int 4)) tNil)))) tNil))) tNil))) (gName 4))
  (tSeq (tAsg (uLst (tCons (tV 4) (tCons (tOp (vOp n (binaryOp .Add)) (tV 4) (tC (.int 1))) (tCons (tOp (vOp n (binaryOp .Add)) (tV 4) (tCallU n W (.ref D.a__law_pick) (tCons (tV 0) (tCons (tC (.int 5)) tNil)))) (tCons (tV 2) (tCons (tOp (vOp n (binaryOp .Sub)) (tV 2) (tCallU n W (.ref D.a__law_pick) (tCons (tV 0) (tCons (tC (.int 3)) tNil)))) (tCons (tOp (vOp n (binaryOp .FloorDiv)) (tCB (vCB n (.type "int")) (tCons (tOp (vOp n (binaryOp .Add)) (tV 4) (tV 2)) tNil)) (tC (.int 2))) tNil))))))) (gName 3))
  (tRet (uTup (tCons (tV 2) (tCons (tV 4) (tCons (tCB (vCB n (.builtin "max")) (tCons (tV 4) (tCons (tCB (vCB n (.builtin "min")) (tCons (tV 2) (tCons (tOp (vIx n) (tV 3) (tCallU n W (.ref D.a__law_pick) (tCons (tV 0) (tCons (tC (.int 6)) tNil)))) tNil))) tNil))) tNil)))))))))
def t__law_great (D : Wd P K mg) (n : En) (W : WX) : TS := (tSeq (tAsg (tCallU n W (.ref D.a__law_pick) (tCons (tV 0) (tCons (tC (.int 4)) tNil))) (gName 1))
  (tSeq (tAsg (tOp (vOp n (binaryOp .Add)) (tCallU n W (.ref D.a__law_pick) (tCons (tV 0) (tCons (tOp (vIx n) (uLst (tCons (tC (.int 60)) (tCons (tC (.int 3000)) (tCons (tOp (vOp n (binaryOp .Pow)) (tC (.int 10)) (tC (.int 6))) (tCons (tOp (vOp n (binaryOp .Pow)) (tC (.int 10)) (tC (.int 6))) tNil))))) (tV 1)) tNil))) (tC (.int 1))) (gName 2))
  (tSeq (uIfS (uTest (tOp (vOp n (compareOp .Eq)) (tV 1) (tC (.int 3)))) (tAsg (tOp (vOp n (binaryOp .Add)) (tOp (vOp n (binaryOp .Mult)) (tV 2) (tOp (vOp n (binaryOp .Pow)) (tC (.int 10)) (tC (.int 33)))) (tCallU n W (.ref D.a__law_pick) (tCons (tV 0) (tCons (tOp (vOp n (binaryOp .Pow)) (tC (.int 10)) (tC (.int 6))) tNil)))) (gName 2)) tNext)
  (t__law_great_k0 D n W))))
theorem d__law_great (D : Wd P K mg) (cdv : Value) (A : Around) (outer : List Env) (s : Shared) (H : Hp) (E : XK) (f : Addr) (o : Of ⟨P, w, K, mg, base, A.deeper (envOfC "_law_great" (defScope s__law_great) s.heap.objs.size f cdv)⟩ (cxOf (L2.CX P w) P w K mg base ["_law_store_here", "_law_way", "_law_n", "_law_some", "_law_t"] "_law_great" (defScope s__law_great) f cdv A outer s H E))
    (tk : Takes (cxOf (L2.CX P w) P w K mg base ["_law_store_here", "_law_way", "_law_n", "_law_some", "_law_t"] "_law_great" (defScope s__law_great) f cdv A outer s H E) (fun cls d _ H => E cls d H)) :
    PSs (cxOf (L2.CX P w) P w K mg base ["_law_store_here", "_law_way", "_law_n", "_law_some", "_law_t"] "_law_great" (defScope s__law_great) f cdv A outer s H E) (defBody s__law_great) (t__law_great D ⟨P, w, K, mg, base, A.deeper (envOfC "_law_great" (defScope s__law_great) s.heap.objs.size f cdv)⟩ (fun cls d _ H => E cls d H)) := by
  have hp : PassesOwn (model (cxOf (L2.CX P w) P w K mg base ["_law_store_here", "_law_way", "_law_n", "_law_some", "_law_t"] "_law_great" (defScope s__law_great) f cdv A outer s H E).prog (cxOf (L2.CX P w) P w K mg base ["_law_store_here", "_law_way", "_law_n", "_law_some", "_law_t"] "_law_great" (defScope s__law_great) f cdv A outer s H E).w) (cxOf (L2.CX P w) P w K mg base ["_law_store_here", "_law_way", "_law_n", "_law_some", "_law_t"] "_law_great" (defScope s__law_great) f cdv A outer s H E).A (cxOf (L2.CX P w) P w K mg base ["_law_store_here", "_law_way", "_law_n", "_law_some", "_law_t"] "_law_great" (defScope s__law_great) f cdv A outer s H E).env (cxOf (L2.CX P w) P w K mg base ["_law_store_here", "_law_way", "_law_n", "_law_some", "_law_t"] "_law_great" (defScope s__law_great) f cdv A outer s H E).xe := passes_of rfl
  exact (pss_cons (ps_set (i := 1) sc__law_great.nd rfl (by first | exact Or.inl rfl | exact Or.inr rfl) (z_call o tk D.h__law_pick D.k__law_pick (pa_cons (zv 0) (pa_cons pe_int pa_nil))))
  (pss_cons (ps_set (i := 2) sc__law_great.nd rfl (by first | exact Or.inl rfl | exact Or.inr rfl) (pe_op (opr_v o) (z_call o tk D.h__law_pick D.k__law_pick (pa_cons (zv 0) (pa_cons (pe_ix (ixr_v o) (z_lst (pa_cons pe_int (pa_cons pe_int (pa_cons (pe_op (opr_v o) pe_int pe_int) (pa_cons (pe_op (opr_v o) pe_int pe_int) pa_nil))))) (zv 1) (fun _ _ => rfl)) pa_nil))) pe_int))
  (pss_cons (z_if (z_cmpT (opr_v o) (zv 1) pe_int (nomark _)) (pss_one (ps_set (i := 2) sc__law_great.nd rfl (by first | exact Or.inl rfl | exact Or.inr rfl) (pe_op (opr_v o) (pe_op (opr_v o) (zv 2) (pe_op (opr_v o) pe_int pe_int)) (z_call o tk D.h__law_pick D.k__law_pick (pa_cons (zv 0) (pa_cons (pe_op (opr_v o) pe_int pe_int) pa_nil)))))) pss_nil)
  (pss_cons (ps_set (i := 3) sc__law_great.nd rfl (by first | exact Or.inl rfl | exact Or.inr rfl) (z_lst (pa_cons (z_call o tk D.h__law_pick D.k__law_pick (pa_cons (zv 0) (pa_cons pe_int pa_nil))) (pa_cons (pe_op (opr_v o) (zv 2) (z_call o tk D.h__law_pick D.k__law_pick (pa_cons (zv 0) (pa_cons pe_int pa_nil)))) (pa_cons (pe_op (opr_v o) (pe_op (opr_v o) (pe_op (opr_v o) (pe_callTy (cbr_v o) (by rfl) D.b_int (by decide +kernel) (pa_cons (zv 2) pa_nil)) pe_int) (z_call o tk D.h__law_pick D.k__law_pick (pa_cons (zv 0) (pa_cons pe_int pa_nil)))) pe_int) pa_nil)))))
  (pss_cons (ps_set (i := 3) sc__law_great.nd rfl (by first | exact Or.inl rfl | exact Or.inr rfl) (pe_op (opr_v o) (zv 3) (z_lst (pa_cons (pe_op (opr_v o) (pe_callTy (cbr_v o) (by rfl) D.b_int (by decide +kernel) (pa_cons (pe_op (opr_v o) (zv 2) (z_call o tk D.h__law_pick D.k__law_pick (pa_cons (zv 0) (pa_cons (pe_op (opr_v o) pe_int pe_int) pa_nil)))) pa_nil)) (pe_op (opr_v o) pe_int pe_int)) pa_nil))))
  (pss_cons (ps_set (i := 4) sc__law_great.nd rfl (by first | exact Or.inl rfl | exact Or.inr rfl) (pe_callB (cbr_v o) (by rfl) D.b_max (by decide +kernel) (pa_cons pe_int (pa_cons (pe_callB (cbr_v o) (by rfl) D.b_min (by decide +kernel) (pa_cons (zv 2) (pa_cons (pe_ix (ixr_v o) (zv 3) (z_call o tk D.h__law_pick D.k__law_pick (pa_cons (zv 0) (pa_cons pe_int pa_nil))) (fun _ _ => rfl)) pa_nil))) pa_nil))))
  (pss_cons (ps_set (i := 3) sc__law_great.nd rfl (by first | exact Or.inl rfl | exact Or.inr rfl) (z_lst (pa_cons (zv 4) (pa_cons (pe_op (opr_v o) (zv 4) pe_int) (pa_cons (pe_op (opr_v o) (zv 4) (z_call o tk D.h__law_pick D.k__law_pick (pa_cons (zv 0) (pa_cons pe_int pa_nil)))) (pa_cons (zv 2) (pa_cons (pe_op (opr_v o) (zv 2) (z_call o tk D.h__law_pick D.k__law_pick (pa_cons (zv 0) (pa_cons pe_int pa_nil)))) (pa_cons (pe_op (opr_v o) (pe_callTy (cbr_v o) (by rfl) D.b_int (by decide +kernel) (pa_cons (pe_op (opr_v o) (zv 4) (zv 2)) pa_nil)) pe_int) pa_nil))))))))
  (pss_one (ps_ret (z_tup (pa_cons (zv 2) (pa_cons (zv 4) (pa_cons (pe_callB (cbr_v o) (by rfl) D.b_max (by decide +kernel) (pa_cons (zv 4) (pa_cons (pe_callB (cbr_v o) (by rfl) D.b_min (by decide +kernel) (pa_cons (zv 2) (pa_cons (pe_ix (ixr_v o) (zv 3) (z_call o tk D.h__law_pick D.k__law_pick (pa_cons (zv 0) (pa_cons pe_int pa_nil))) (fun _ _ => rfl)) pa_nil))) pa_nil))) pa_nil)))))))))))))

def t_law_k0 (D : Wd P K mg) (n : En) (W : WX) : TS := (uIfS (uTest (tOp (vOp n (compareOp .NotEq)) (tCB (vCB n (.builtin "repr")) (tCons (tCallU n W (.ref D.a_is_right) (tCons (tV 9) (tCons (tV 6) (tCons (tV 7) tNil)))) tNil)) (tCB (vCB n (.builtin "repr")) (tCons (tOp (vOp n (compareOp .In)) (tV 9) (tV 8)) tNil)))) (tRet (tC (.bl false))) tNext)
def t_law_k1 (D : Wd P K mg) (n : En) (W : WX) : TS := (uIfS (uOr (uTest (tOp (vOp n (compareOp .NotEq)) (tCallU n W (.ref D.a_wishes_of) (tCons (tV 6) (tCons (tV 7) tNil))) (tCB (vCB n (.type "tuple")) (tCons (tV 8) tNil)))) (uTest (tOp (vOp n (compareOp .NotEq)) (tCallK n W (.ref D.a_wishes_of) ["result", "row"] tNil (tCons (tV 7) (tCons (tV 6) tNil))) (tCB (vCB n (.type "tuple")) (tCons (tV 8) tNil))))) (tRet (tC (.bl false))) tNext)
def t_law_k2 (D : Wd P K mg) (n : En) (W : WX) : TS := (tSeq (tAsg (uLcL n.K (tCallU n W (.ref D.a__law_wishes) tNil) (gName 9) (tTruU n (tCallU n (fun _ _ _ _ => False) (.ref D.a__law_right) (tCons (tV 9) (tCons (uTup (tCons (tV 2) (tCons (tV 3) (tCons (tV 4) tNil)))) (tCons (tV 7) tNil))))) (tV 9) [9]) (gName 8))
  (tSeq (uForL n.K (tCallU n W (.ref D.a__law_wishes) tNil) (gName 9) (t_law_k0 D n W))
  (t_law_k1 D n W)))
def t_law_k3 (D : Wd P K mg) (n : En) (W : WX) : TS := (tSeq (tAsg (tOp (vIx n) (uLst (tCons (tC (.bl true)) (tCons (tC (.bl false)) (tCons (tC (.str "0")) (tCons (tC (.str "")) (tCons (uTup (tCons (tV 3) tNil)) (tCons (uLst tNil) (tCons uDic tNil)))))))) (tCallU n W (.ref D.a__law_pick) (tCons (tV 1) (tCons (tC (.int 7)) tNil)))) (gName 10))
  (tSeq (tAsg (tOp (vIx n) (tCallU n W (.ref D.a__law_wishes) tNil) (tCallU n W (.ref D.a__law_pick) (tCons (tV 1) (tCons (tC (.int 8)) tNil)))) (gName 9))
  (uIfS (uOr (uTest (tOp (vOp n (compareOp .NotEq)) (tCallU n W (.ref D.a_wishes_of) (tCons (tV 6) (tCons (tV 10) tNil))) (uTup tNil))) (uTest (tOp (vOp n (compareOp .IsNot)) (tCallK n W (.ref D.a_is_right) ["result", "row", "wish"] tNil (tCons (tV 10) (tCons (tV 6) (tCons (tV 9) tNil)))) (tC (.bl false))))) (tRet (tC (.bl false))) tNext)))
def t_law_k4 (D : Wd P K mg) (n : En) (W : WX) : TS := (tSeq (tAsg (tCallU n W (.ref D.a_Row) (tCons (tV 2) (tCons (tV 3) (tCons (tV 4) tNil)))) (gName 6))
  (tSeq (uForL n.K (uLst (tCons (tC .non) (tCons (tOp (vOp n (binaryOp .Sub)) (tC (.int 0)) (tC (.int 1))) (tCons (tC (.int 0)) (tCons (tOp (vOp n (binaryOp .Sub)) (tV 3) (tC (.int 1))) (tCons (tV 3) (tCons (tOp (vOp n (binaryOp .Add)) (tV 3) (tC (.int 1))) (tCons (tOp (vOp n (binaryOp .Sub)) (tV 4) (tC (.int 2))) (tCons (tOp (vOp n (binaryOp .Sub)) (tV 4) (tC (.int 1))) (tCons (tV 4) (tCons (tOp (vOp n (binaryOp .Add)) (tV 4) (tC (.int 1))) (tCons (tV 2) (tCons (tOp (vOp n (binaryOp .FloorDiv)) (tCB (vCB n (.type "int")) (tCons (tOp (vOp n (binaryOp .Add)) (tV 3) (tV 4)) tNil)) (tC (.int 2))) tNil))))))))))))) (gName 7) (t_law_k2 D n W))
  (t_law_k3 D n W)))
def t_law (D : Wd P K mg) (n : En) (W : WX) : TS := (tSeq (tAsg (tCallU n W (.ref D.a__law_store) (tCons (tV 0) tNil)) (gName 1))
  (tSeq (uForL n.K (tOp (vOp n (binaryOp .Add)) (tCallU n W (.ref D.a__law_rows) (tCons (tCallU n W (.ref D.a__law_pick) (tCons (tV 1) (tCons (tC (.int 6)) tNil))) tNil)) (uLcR1 (tCons (tC (.int 3)) tNil) (gName 5) tYes (tCallU n (fun _ _ _ _ => False) (.ref D.a__law_great) (tCons (tV 1) tNil)) [5])) (uTupG n.K 3 (uCons (gName 2) (uCons (gName 3) (uCons (gName 4) uNil)))) (t_law_k4 D n W))
  (tRet (tC (.bl true)))))
theorem d_law (D : Wd P K mg) (cdv : Value) (A : Around) (outer : List Env) (s : Shared) (H : Hp) (E : XK) (f : Addr) (o : Of ⟨P, w, K, mg, base, A.deeper (envOfC "law" (defScope s_law) s.heap.objs.size f cdv)⟩ (cxOf (L2.CX P w) P w K mg base ["_law_script", "_law_store_here", "_law_n", "_law_t", "_law_u", "_law_turn", "_law_placed", "_law_gained", "_law_due", "_law_hope", "_law_odd"] "law" (defScope s_law) f cdv A outer s H E))
    (tk : Takes (cxOf (L2.CX P w) P w K mg base ["_law_script", "_law_store_here", "_law_n", "_law_t", "_law_u", "_law_turn", "_law_placed", "_law_gained", "_law_due", "_law_hope", "_law_odd"] "law" (defScope s_law) f cdv A outer s H E) (fun cls d _ H => E cls d H)) :
    PSs (cxOf (L2.CX P w) P w K mg base ["_law_script", "_law_store_here", "_law_n", "_law_t", "_law_u", "_law_turn", "_law_placed", "_law_gained", "_law_due", "_law_hope", "_law_odd"] "law" (defScope s_law) f cdv A outer s H E) (defBody s_law) (t_law D ⟨P, w, K, mg, base, A.deeper (envOfC "law" (defScope s_law) s.heap.objs.size f cdv)⟩ (fun cls d _ H => E cls d H)) := by
  have hp : PassesOwn (model (cxOf (L2.CX P w) P w K mg base ["_law_script", "_law_store_here", "_law_n", "_law_t", "_law_u", "_law_turn", "_law_placed", "_law_gained", "_law_due", "_law_hope", "_law_odd"] "law" (defScope s_law) f cdv A outer s H E).prog (cxOf (L2.CX P w) P w K mg base ["_law_script", "_law_store_here", "_law_n", "_law_t", "_law_u", "_law_turn", "_law_placed", "_law_gained", "_law_due", "_law_hope", "_law_odd"] "law" (defScope s_law) f cdv A outer s H E).w) (cxOf (L2.CX P w) P w K mg base ["_law_script", "_law_store_here", "_law_n", "_law_t", "_law_u", "_law_turn", "_law_placed", "_law_gained", "_law_due", "_law_hope", "_law_odd"] "law" (defScope s_law) f cdv A outer s H E).A (cxOf (L2.CX P w) P w K mg base ["_law_script", "_law_store_here", "_law_n", "_law_t", "_law_u", "_law_turn", "_law_placed", "_law_gained", "_law_due", "_law_hope", "_law_odd"] "law" (defScope s_law) f cdv A outer s H E).env (cxOf (L2.CX P w) P w K mg base ["_law_script", "_law_store_here", "_law_n", "_law_t", "_law_u", "_law_turn", "_law_placed", "_law_gained", "_law_due", "_law_hope", "_law_odd"] "law" (defScope s_law) f cdv A outer s H E).xe := passes_of rfl
  exact (pss_cons (ps_set (i := 1) sc_law.nd rfl (by first | exact Or.inl rfl | exact Or.inr rfl) (z_call o tk D.h__law_store D.k__law_store (pa_cons (zv 0) pa_nil)))
  (pss_cons (c_forL (ps_for hp rfl (pi_list (pe_op (opr_v o) (z_call o tk D.h__law_rows D.k__law_rows (pa_cons (z_call o tk D.h__law_pick D.k__law_pick (pa_cons (zv 1) (pa_cons pe_int pa_nil))) pa_nil)) (c_lcR1 (pe_lc (own := [("_law_turn", 5)]) rfl sc_law.nd (pi_range1 (by rfl) D.b_range (pa_cons pe_int pa_nil)) (blkOk_by (own := [("_law_turn", 5)]) (N := ["_law_script", "_law_store_here", "_law_n", "_law_t", "_law_u", "_law_turn", "_law_placed", "_law_gained", "_law_due", "_law_hope", "_law_odd"]) (sc := defScope s_law) (by decide +kernel)) (fun _ _ _ _ _ => (pg_name (i := 5) sc_law.nd rfl (by first | exact Or.inl rfl | exact Or.inr rfl))) (fun _ _ _ _ _ => pts_nil) (fun _ _ _ _ _ => (z_call (of_blk o) takes0 D.h__law_great D.k__law_great (pa_cons (zv 1) pa_nil))))))) (c_tup (pg_tup rfl (c_cons (pgs_cons (pg_name (i := 2) sc_law.nd rfl (by first | exact Or.inl rfl | exact Or.inr rfl)) (c_cons (pgs_cons (pg_name (i := 3) sc_law.nd rfl (by first | exact Or.inl rfl | exact Or.inr rfl)) (c_cons (pgs_cons (pg_name (i := 4) sc_law.nd rfl (by first | exact Or.inl rfl | exact Or.inr rfl)) (c_nil pgs_nil))))))))) (pss_cons (ps_set (i := 6) sc_law.nd rfl (by first | exact Or.inl rfl | exact Or.inr rfl) (z_call o tk D.h_Row D.k_Row (pa_cons (zv 2) (pa_cons (zv 3) (pa_cons (zv 4) pa_nil)))))
  (pss_cons (c_forL (ps_for hp rfl (pi_list (z_lst (pa_cons pe_non (pa_cons (pe_op (opr_v o) pe_int pe_int) (pa_cons pe_int (pa_cons (pe_op (opr_v o) (zv 3) pe_int) (pa_cons (zv 3) (pa_cons (pe_op (opr_v o) (zv 3) pe_int) (pa_cons (pe_op (opr_v o) (zv 4) pe_int) (pa_cons (pe_op (opr_v o) (zv 4) pe_int) (pa_cons (zv 4) (pa_cons (pe_op (opr_v o) (zv 4) pe_int) (pa_cons (zv 2) (pa_cons (pe_op (opr_v o) (pe_callTy (cbr_v o) (by rfl) D.b_int (by decide +kernel) (pa_cons (pe_op (opr_v o) (zv 3) (zv 4)) pa_nil)) pe_int) pa_nil)))))))))))))) (pg_name (i := 7) sc_law.nd rfl (by first | exact Or.inl rfl | exact Or.inr rfl)) (pss_cons (s_lcL (ps_setLc (i := 8) (own := [("_law_hope", 9)]) rfl sc_law.nd rfl rfl (sw_true rfl rfl rfl (by decide +kernel)) (pi_list (z_call0 o tk D.h__law_wishes D.k__law_wishes)) (blkOk_by (own := [("_law_hope", 9)]) (N := ["_law_script", "_law_store_here", "_law_n", "_law_t", "_law_u", "_law_turn", "_law_placed", "_law_gained", "_law_due", "_law_hope", "_law_odd"]) (sc := defScope s_law) (by decide +kernel)) (fun _ _ _ _ _ => (pg_name (i := 9) sc_law.nd rfl (by first | exact Or.inl rfl | exact Or.inr rfl))) (fun _ _ _ _ _ => (pts_one (z_tru (of_blk o) (z_call (of_blk o) takes0 D.h__law_right D.k__law_right (pa_cons (zv 9) (pa_cons (z_tup (pa_cons (zv 2) (pa_cons (zv 3) (pa_cons (zv 4) pa_nil)))) (pa_cons (zv 7) pa_nil))))))) (fun _ _ _ _ _ => (zv 9))))
  (pss_cons (c_forL (ps_for hp rfl (pi_list (z_call0 o tk D.h__law_wishes D.k__law_wishes)) (pg_name (i := 9) sc_law.nd rfl (by first | exact Or.inl rfl | exact Or.inr rfl)) (pss_one (z_if (z_cmpT (opr_v o) (pe_callB (cbr_v o) (by rfl) D.b_repr (by decide +kernel) (pa_cons (z_call o tk D.h_is_right D.k_is_right (pa_cons (zv 9) (pa_cons (zv 6) (pa_cons (zv 7) pa_nil)))) pa_nil)) (pe_callB (cbr_v o) (by rfl) D.b_repr (by decide +kernel) (pa_cons (pe_cmpR (opr_v o) (zv 9) (zv 8) (by rfl)) pa_nil)) (nomark _)) (pss_one (ps_ret pe_bl)) pss_nil))))
  (pss_one (z_if (PW.pt (zw_or (z_cmpT (opr_v o) (z_call o tk D.h_wishes_of D.k_wishes_of (pa_cons (zv 6) (pa_cons (zv 7) pa_nil))) (pe_callTy (cbr_v o) (by rfl) D.b_tuple (by decide +kernel) (pa_cons (zv 8) pa_nil)) (nomark _)) (pw_or1 (z_cmpT (opr_v o) (z_callK0 o tk D.h_wishes_of D.k_wishes_of (pk_cons (zv 7) (pk_cons (zv 6) pk_nil))) (pe_callTy (cbr_v o) (by rfl) D.b_tuple (by decide +kernel) (pa_cons (zv 8) pa_nil)) (nomark _))))) (pss_one (ps_ret pe_bl)) pss_nil))))))
  (pss_cons (ps_set (i := 10) sc_law.nd rfl (by first | exact Or.inl rfl | exact Or.inr rfl) (pe_ix (ixr_v o) (z_lst (pa_cons pe_bl (pa_cons pe_bl (pa_cons pe_str (pa_cons pe_str (pa_cons (z_tup (pa_cons (zv 3) pa_nil)) (pa_cons (z_lst pa_nil) (pa_cons z_dic pa_nil)))))))) (z_call o tk D.h__law_pick D.k__law_pick (pa_cons (zv 1) (pa_cons pe_int pa_nil))) (fun _ _ => rfl)))
  (pss_cons (ps_set (i := 9) sc_law.nd rfl (by first | exact Or.inl rfl | exact Or.inr rfl) (pe_ix (ixr_v o) (z_call0 o tk D.h__law_wishes D.k__law_wishes) (z_call o tk D.h__law_pick D.k__law_pick (pa_cons (zv 1) (pa_cons pe_int pa_nil))) (fun _ _ => rfl)))
  (pss_one (z_if (PW.pt (zw_or (z_cmpT (opr_v o) (z_call o tk D.h_wishes_of D.k_wishes_of (pa_cons (zv 6) (pa_cons (zv 10) pa_nil))) (z_tup pa_nil) (nomark _)) (pw_or1 (z_cmpT (opr_v o) (z_callK0 o tk D.h_is_right D.k_is_right (pk_cons (zv 10) (pk_cons (zv 6) (pk_cons (zv 9) pk_nil)))) pe_bl (nomark _))))) (pss_one (ps_ret pe_bl)) pss_nil))))))))
  (pss_one (ps_ret pe_bl))))

end
end Pf

namespace Pf
open PySem PySem.Spec PyProof.Rows L2 RZ Z ZE
local macro_rules | `(tactic| tb_rel) => `(tactic| first
  | (refine vOp_id ?_; first | (with_reducible refine e_add ?_) | (with_reducible refine e_sub ?_) | (with_reducible refine e_lt ?_) | (with_reducible refine e_le ?_) | (with_reducible refine e_gt ?_) | (with_reducible refine e_ge ?_) | (with_reducible refine e_eqI ?_) | (with_reducible refine e_neI ?_) | (with_reducible refine e_iadd ?_))
  | refine e_truB ?_
  | (refine vCB_id ?_; first | (with_reducible refine e_int ?_) | (with_reducible refine e_max ?_) | (with_reducible refine e_min ?_) | (with_reducible refine e_abs ?_))
  | (refine vUn_id ?_; with_reducible refine e_neg ?_))
local macro_rules | `(tactic| kbo_bools) => `(tactic| (intro vs H Q E h; repeat (first | (obtain ⟨e, _⟩ := h; (subst e; rfl)) | (obtain ⟨_, h⟩ := h))))
local macro_rules | `(tactic| k_subL) => `(tactic| first | assumption | exact List.mem_cons_self | exact Stk.mem (by assumption) | (apply List.mem_cons_of_mem; k_subL))
local macro_rules | `(tactic| k_clsL) => `(tactic| first | exact List.nil_subset _ | assumption | exact List.Subset.refl _ | (refine List.cons_subset.mpr ⟨by k_subL, ?_⟩; k_clsL))
local macro_rules | `(tactic| tlg_ne) => `(tactic| first | assumption | exact Ne.symm (by assumption) | (apply Stk.ne; assumption; lsm_bools))
local macro_rules | `(tactic| o_fieldsN) => `(tactic| first | exact List.not_mem_nil | assumption | (refine nm_cons (by tlg_ne) ?_; o_fieldsN))
local macro_rules | `(tactic| lsm_bools) => `(tactic| first | assumption | (apply Stk.go; assumption; lsm_bools; k_clsL; o_fieldsN) | (apply Stk.goN; assumption; assumption; ktu_offL; kp_flats; k_clsL; o_fieldsN))
local macro_rules | `(tactic| ktu_offL) => `(tactic| first | assumption | (apply Stk.go; assumption; ktu_offL; k_clsL; o_fieldsN))
local macro_rules | `(tactic| kp_flats) => `(tactic| first | assumption | exact Mk1.al (by assumption) | exact Stk.al (by assumption) | (apply Al.go; assumption; kp_flats) | exact Al.nil)
local macro_rules | `(tactic| ktu_offI) => `(tactic| first | assumption | (apply Mk1.go; assumption; ktu_offI; k_clsL; o_fieldsN))
local macro_rules | `(tactic| lcg_sub) => `(tactic| first | assumption | exact Lk.refl | (apply Lk.go; assumption; lcg_sub; k_clsL))
local macro_rules | `(tactic| keq_rows) => `(tactic| first | exact .int _ | exact .str _ | exact .bl _ | exact .non | assumption | (apply Kd.go; assumption; keq_rows; k_clsL) | (apply Kd.goN; assumption; got_up))
local macro_rules | `(tactic| got_up) => `(tactic| first | assumption | (apply Kd.go; assumption; got_up; k_clsL) | (apply Kd.goN; assumption; l_intsC))
local macro_rules | `(tactic| l_intsC) => `(tactic| first | assumption | (apply Kd.go; assumption; l_intsC; k_clsL))
local macro_rules | `(tactic| lcg_src) => `(tactic| first | exact KdL.nil | (apply KdL.cons; keq_rows; lcg_src))
local macro_rules | `(tactic| kat_tups) => `(tactic| first | exact Kd.str (M := []) _ | exact Kd.int (M := []) _ | exact Kd.bl (M := []) _ | exact Kd.non (M := []) | keq_rows)
local macro_rules | `(tactic| kct_strs) => `(tactic| first | decide +kernel | assumption | simp [okD, PyData.canLay0, PyData.canLayAll0, PyData.depth, PyData.depthAll] | simp [okD, PyData.canLay0, PyData.canLayAll0, PyData.depth, PyData.depthAll, *])
local macro_rules | `(tactic| top_caught) => `(tactic| (refine vOp_id ?_; first
  | (with_reducible refine opEq_id ?_; first | refine k_eqo (r := true) (Rm.units' (by assumption)) (by kat_tups) (by kat_tups) (by kct_strs) (by kct_strs) (by decide +kernel) ?_ | refine k_eqo (r := false) (Rm.units' (by assumption)) (by kat_tups) (by kat_tups) (by kct_strs) (by kct_strs) (by decide +kernel) ?_)
  | (with_reducible refine opNotEq_id ?_; first | refine k_neo (r := true) (Rm.units' (by assumption)) (by kat_tups) (by kat_tups) (by kct_strs) (by kct_strs) (by decide +kernel) ?_ | refine k_neo (r := false) (Rm.units' (by assumption)) (by kat_tups) (by kat_tups) (by kct_strs) (by kct_strs) (by decide +kernel) ?_)
  | (with_reducible refine opIn_id ?_; first | refine k_inL2 (r := true) (Rm.units' (by assumption)) (by kat_tups) (by kat_tups) (by kct_strs) (by kct_strs) (by decide +kernel) ?_ | refine k_inL2 (r := false) (Rm.units' (by assumption)) (by kat_tups) (by kat_tups) (by kct_strs) (by kct_strs) (by decide +kernel) ?_ | refine k_inT2 (r := true) (Rm.units' (by assumption)) (by kat_tups) (by kat_tups) (by kct_strs) (by kct_strs) (by decide +kernel) ?_ | refine k_inT2 (r := false) (Rm.units' (by assumption)) (by kat_tups) (by kat_tups) (by kct_strs) (by kct_strs) (by decide +kernel) ?_)
  | (with_reducible refine opNotIn_id ?_; first | refine k_ninL2 (r := true) (Rm.units' (by assumption)) (by kat_tups) (by kat_tups) (by kct_strs) (by kct_strs) (by decide +kernel) ?_ | refine k_ninL2 (r := false) (Rm.units' (by assumption)) (by kat_tups) (by kat_tups) (by kct_strs) (by kct_strs) (by decide +kernel) ?_ | refine k_ninT2 (r := true) (Rm.units' (by assumption)) (by kat_tups) (by kat_tups) (by kct_strs) (by kct_strs) (by decide +kernel) ?_ | refine k_ninT2 (r := false) (Rm.units' (by assumption)) (by kat_tups) (by kat_tups) (by kct_strs) (by kct_strs) (by decide +kernel) ?_)))
local macro_rules | `(tactic| tb_start) => `(tactic| first
  | (refine byb_id ?_; first | refine byb_t ?_ | refine byb_f ?_) | tb_rel
  | (refine vIx_id ?_; first | refine k_ixT (by keq_rows) (by rfl) ?_ | refine k_ixL (by keq_rows) (by rfl) ?_)
  | refine k_dic (Wd.ki (by assumption)) (by kp_flats) fun _ _ _ _ _ => ?_
  | (refine vOp_id ?_; with_reducible refine opIs_id ?_; first | (with_reducible refine e_isBl ?_) | refine k_isNon (by keq_rows) ?_ | refine e_isN ?_)
  | (refine vOp_id ?_; with_reducible refine opIsNot_id ?_; first | (with_reducible refine e_isnotBl ?_) | refine k_notNon (by keq_rows) ?_ | refine e_notN ?_)
  | (refine vTup_id ?_; refine k_tup (Wd.ki (by assumption)) (by kp_flats) (by lcg_src) (by rfl) fun _ _ _ _ _ => ?_)
  | (refine vLst_id ?_; refine k_lst (Wd.ki (by assumption)) (by kp_flats) (by lcg_src) (by rfl) fun _ _ _ _ _ => ?_)
  | (refine vUnp_id ?_; refine k_unp (by keq_rows) (by rfl) ?_)
  | refine kAll.mk fun _ _ => ?_
  | (refine vCB_id ?_; first | refine k_lenT (by keq_rows) ?_ | refine k_lenL (by keq_rows) ?_))
local macro_rules | `(tactic| kcf_all) => `(tactic| repeat tb_start)
local macro_rules | `(tactic| kcj_in) => `(tactic| repeat (first | tb_start | top_caught))
local macro_rules | `(tactic| kas_types) => `(tactic| repeat tb_rel)
section
variable {P : Program} {w : World} {K : PySem.W.Frag} {mg : Str → Option Value} {base : Heap}
def spPick : Sp := fun vs H Q _ => ∃ M s m, vs = [.ref s, .int m] ∧ Stk M H s ∧ 0 < m ∧ m < 1073741824 ∧ ∀ r H', 0 ≤ r → r < m → Lk [s] H H' → Stk M H' s → Q (.int r) H'
theorem r__law_pick (D : Wd P K mg) (A : Around) (E : XK) (hr : Rm 0 A) (vs : List V) (H : Hp) (Q : VK) (h : spPick vs H Q E) :
    t__law_pick D ⟨P, w, K, mg, base, A⟩ (fun cls d _ H => E cls d H) { nx := fun _ H' => Q .non H', rt := Q } (start ["_law_store_here", "_law_many", "_law_rest", "_law_digit", "_law_old"] vs) H := by
  obtain ⟨M, s, m, rfl, ⟨al, mem, x, l, ds, c, hs, hl, nls, h0, h1, hd, h60, avl⟩, m0, m1, k⟩ := h
  refine e_ixL (.of hs) rfl ?_
  refine e_add ?_
  refine n_setL hs rfl fun H1 b1 hs1 => ?_
  have hl1 := b1 _ _ nls hl
  refine e_ixL (.of hs1) rfl ?_
  refine n_lst (by rfl) fun p H2 np s2 hp => ?_
  have hs2 := s2 _ _ hs1
  have hl2 := s2 _ _ hl1
  refine e_neLI (ns := ds) (ms := []) hr (.of hl2) (.of hp) ?_
  cases ds with
  | cons d ds =>
    have hd0 : 0 ≤ d := hd d (List.mem_cons_self ..)
    refine e_ixL (.of hs2) rfl ?_
    refine e_ixL (.of hl2) at0 ?_
    refine n_divmod ⟨m0, m1⟩ fun t H3 nt s3 ht => ?_
    refine n_unp (.of ht) rfl ?_
    have hs3 := s3 _ _ hs2
    have hl3 := s3 _ _ hl2
    have q0 : 0 ≤ d / m := Int.ediv_nonneg hd0 (by omega)
    refine e_gt ?_
    have fin : ∀ (a : Addr) (H4 : Hp) (as : List Int), Same H3 H4 → (∀ z ∈ as, 0 ≤ z) → as.length ≤ 1 → H4 a = some (.lst (as.map V.int)) →
        vIx (⟨P, w, K, mg, base, A⟩ : En) (.ref s) (.int 1) H4 (fun z H5 => vSl (⟨P, w, K, mg, base, A⟩ : En) z (some 1) none H5 fun y H6 => vOp ⟨P, w, K, mg, base, A⟩ (binaryOp .Add) (.ref a) y H6 fun z H7 => vSet ⟨P, w, K, mg, base, A⟩ (.ref s) (.int 1) z H7 fun H8 => Q (.int (d % m)) H8) := by
      intro a H4 as s4 has hal ha
      refine e_ixL (.of (s4 _ _ hs3)) rfl ?_
      refine n_slL (.of (s4 _ _ hl3)) fun b H5 nb s5 hb => ?_
      have e1 : cutV (List.map V.int (d :: ds)) (some 1) none = ds.map V.int := cut_drop 1 _
      rw [e1] at hb
      simp only [List.length_cons] at h60
      refine n_cat (s5 _ _ ha) hb (le_line (Nat.ble_eq_true_of_le (by simp only [List.length_map]; omega))) fun e H6 ne s6 he => ?_
      refine n_setL (s6 _ _ (s5 _ _ (s4 _ _ hs3))) rfl fun H7 b7 hs7 => ?_
      rw [← List.map_append] at he
      have nes : e ≠ s := ne_fresh (s5 _ _ (s4 _ _ hs3)) ne
      have bb : Lk [s] H H7 := .but (b1.trans ((to_but s2).trans ((to_but s3).trans ((to_but s4).trans ((to_but s5).trans ((to_but s6).trans b7)))))) (by rw [hs7]; simp)
      refine k _ _ (Int.emod_nonneg _ (by omega)) (Int.emod_lt_of_pos _ m0) bb ⟨al.lk bb, mem, _, e, as ++ ds, _, hs7, b7 _ _ nes he, nes, h0, h1, ?_, by simp only [List.length_append]; omega, ?_⟩
      · intro z hz
        rcases List.mem_append.mp hz with hz | hz
        · exact has z hz
        · exact hd z (List.mem_cons_of_mem _ hz)
      · intro z
        have l5 : Lk [s] H H5 := .but (b1.trans ((to_but s2).trans ((to_but s3).trans ((to_but s4).trans (to_but s5))))) (by rw [s5 _ _ (s4 _ _ hs3)]; simp)
        exact (al.lk l5) e z ne
    refine byb_d (fun c => ?_) (fun c => ?_)
    · refine n_lst (by rfl) fun a H4 na s4 ha => ?_
      exact fin a H4 [d / m] s4 (by simpa using q0) (Nat.le_refl _) ha
    · refine n_lst (by rfl) fun a H4 na s4 ha => ?_
      exact fin a H4 [] s4 (by simp) (Nat.zero_le _) ha
  | nil =>
    refine e_ixL (.of hs2) rfl ?_
    refine e_int ?_
    refine e_mul (.inl ⟨by omega, by omega⟩) ?_
    refine e_ixL (.of hs2) rfl ?_
    refine e_mul (.inl ⟨by decide, by decide⟩) ?_
    kas_types
    refine e_mod (by decide) ?_
    kas_types
    refine e_mod (by decide) ?_
    refine n_setL hs2 rfl fun H3 b3 hs3 => ?_
    refine e_ixL (.of hs3) rfl ?_
    refine e_fdiv ⟨by decide, by decide⟩ ?_
    kas_types
    refine e_mod m0 ?_
    have bb : Lk [s] H H3 := .but ((b1.trans (to_but s2)).trans b3) (by rw [hs3]; simp)
    exact k _ _ (Int.emod_nonneg _ (by omega)) (Int.emod_lt_of_pos _ m0) bb ⟨al.lk bb, mem, _, l, [], _, hs3, b3 _ _ nls hl2, nls, Int.emod_nonneg _ (by decide), Int.emod_lt_of_pos _ (by decide), by simp, Nat.zero_le _, avl⟩
def spStore (K : PySem.W.Frag) : Sp := fun vs H Q _ => ∃ (a : Addr) (ns : List Int), vs = [.ref a] ∧ SqL K H a (ns.map V.int) ∧ ns.length ≤ 63 ∧ ∀ s H', H s = none → Lk [] H H' → Stk [s] H' s → Q (.ref s) H'
theorem r__law_store (D : Wd P K mg) (A : Around) (E : XK) (hr : Rm 0 A) (vs : List V) (H : Hp) (Q : VK) (h : spStore K vs H Q E) :
    t__law_store D ⟨P, w, K, mg, base, A⟩ (fun cls d _ H => E cls d H) { nx := fun _ H' => Q .non H', rt := Q } (start ["_law_script", "_law_mixed", "_law_cell"] vs) H := by
  obtain ⟨a, ns, rfl, hS, hl, k⟩ := h
  refine n_slL hS fun p H1 np s1 hp => ?_
  rw [show (some (60 : Int)) = some ((60 : Nat) : Int) from rfl, cut_take, ← List.map_take] at hp
  refine n_forL (fun i σ H' => ∃ (m : Int) (v : Option V), σ = [some (.ref a), some (.int m), v] ∧ Same H1 H' ∧ 0 ≤ m ∧ m < 2147483647) (.of hp) ⟨11, none, rfl, .refl _, by decide, by decide⟩ (fun i σ H' _ ⟨_, _, _, s, _⟩ => s.seq (.of hp)) ?_ ?_
  · rintro i x σ H2 hi ⟨m, v, rfl, s2, m0, m1⟩
    rw [List.getElem?_map] at hi
    obtain ⟨z, hz, rfl⟩ := Option.map_eq_some_iff.mp hi
    refine e_mul (.inl ⟨by omega, by omega⟩) ?_
    kas_types
    refine e_mod (by decide) ?_
    exact ⟨_, _, rfl, s2, Int.emod_nonneg _ (by decide), Int.emod_lt_of_pos _ (by decide)⟩
  · rintro σ H2 ⟨m, v, rfl, s2, m0, m1⟩
    refine n_slL (s2.seq (s1.seq hS)) fun q H3 nq s3 hq => ?_
    rw [show (some (60 : Int)) = some ((60 : Nat) : Int) from rfl, cut_take, ← List.map_take] at hq
    refine n_lcL (fun D i ys H' => ∃ ds : List Int, ys = ds.map V.int ∧ ∀ d ∈ ds, 0 ≤ d) (.of hq) (by simp only [List.length_map, List.length_take]; omega) (fun D H4 _ _ _ => ⟨[], rfl, by simp⟩) ?_ ?_
    · rintro D i x ys H4 Next hi nD s4 hD ⟨ds, rfl, hds⟩ hl hlt k2
      rw [List.getElem?_map] at hi
      obtain ⟨z, hz, rfl⟩ := Option.map_eq_some_iff.mp hi
      refine ⟨rfl, ?_⟩
      kas_types
      refine byb_d (fun c => ?_) (fun c => ?_)
      · kas_types
        refine byb_nd (fun c2 => ?_) (fun c2 => ?_)
        · exact k2 _ _ s4 hD ⟨ds, rfl, hds⟩ (Nat.le_succ_of_le hl)
        · kas_types
          refine n_put hD (lt_line hl (by simp only [List.length_map, List.length_take] at hlt; omega)) fun H5 b5 h5 => ?_
          refine k2 _ _ (same_but s4 b5 nD) h5 ⟨ds ++ [if z < 0 then -z else z], by simp, ?_⟩ (by simp only [List.length_append, List.length_singleton]; omega)
          intro d hd
          rcases List.mem_append.mp hd with hd | hd
          · exact hds d hd
          · simp only [List.mem_singleton] at hd
            subst hd
            split <;> omega
      · kas_types
        refine n_put hD (lt_line hl (by simp only [List.length_map, List.length_take] at hlt; omega)) fun H5 b5 h5 => ?_
        refine k2 _ _ (same_but s4 b5 nD) h5 ⟨ds ++ [if z < 0 then -z else z], by simp, ?_⟩ (by simp only [List.length_append, List.length_singleton]; omega)
        intro d hd
        rcases List.mem_append.mp hd with hd | hd
        · exact hds d hd
        · simp only [List.mem_singleton] at hd
          subst hd
          split <;> omega
    · rintro D ys H4 nD s4 hD ⟨ds, rfl, hds⟩ hll
      refine n_lst (by rfl) fun s H5 ns' s5 hs => ?_
      have hlen : ds.length ≤ 60 := by simp only [List.length_map, List.length_take] at hll; omega
      refine k s H5 ?_ (.same (s1.trans (s2.trans (s3.trans (s4.trans s5))))) ⟨fun a m => ?_, List.mem_singleton_self _, m, D, ds, 0, hs, s5 _ _ hD, ?_, m0, m1, hds, hlen, ?_⟩
      · exact Same.free (s1.trans (s2.trans (s3.trans s4))) ns'
      · rw [List.mem_singleton.mp m, hs]; simp
      · exact ne_fresh' hD ns'
      · exact fun z => ne_fresh' hD ns' (List.mem_singleton.mp z)
theorem okb__law_pick (D : Wd P K mg) : FnB P w K mg base 1 D.a__law_pick D.fd__law_pick ["_law_store_here", "_law_many"] spPick :=
  fn_b D.F__law_pick sc__law_pick (t__law_pick D) (by kbo_bools) (fun cdv A outer s H E o tk => d__law_pick D cdv A outer s H E _ o tk) (fun A E hr vs H Q h => r__law_pick D A E hr vs H Q h)
theorem ok__law_pick (D : Wd P K mg) : FnZ P w K mg base 1 D.a__law_pick spPick := (okb__law_pick D).z0 D.B__law_pick (by kbo_bools)
theorem okb__law_store (D : Wd P K mg) : FnB P w K mg base 1 D.a__law_store D.fd__law_store ["_law_script"] (spStore K) :=
  fn_b D.F__law_store sc__law_store (t__law_store D) (by kbo_bools) (fun cdv A outer s H E o tk => d__law_store D cdv A outer s H E _ o tk) (fun A E hr vs H Q h => r__law_store D A E hr vs H Q h)
theorem ok__law_store (D : Wd P K mg) : FnZ P w K mg base 1 D.a__law_store (spStore K) := (okb__law_store D).z0 D.B__law_store (by kbo_bools)
/-- a draw -/
theorem n_pick (D : Wd P K mg) {A : Around} {k : Nat} (hr : Rm k A) {s : Addr} {m : Int} {H : Hp} {Q : VK} {W : XK} {M : List Addr} (hs : Stk M H s) (h0 : 0 < m) (h1 : m < 1073741824) (q : ∀ r H', 0 ≤ r → r < m → Lk [s] H H' → Stk M H' s → Q (.int r) H') (hk : 1 ≤ k := by decide) :
    vCall ⟨P, w, K, mg, base, A⟩ (.ref D.a__law_pick) [.ref s, .int m] W H Q := call_z hr (ok__law_pick D) ⟨M, s, m, rfl, hs, h0, h1, q⟩ hk

/-- is_integer of data -/
def spIntD (K : PySem.W.Frag) : Sp := fun vs H Q _ => ∃ M x d, vs = [x] ∧ Kd M K H x d ∧ isPl d = true ∧ Q (.bl (isIntD d)) H
theorem r_is_integer (D : Wd P K mg) (A : Around) (E : XK) (hr : Rm 0 A) (vs : List V) (H : Hp) (Q : VK) (h : spIntD K vs H Q E) :
    t_is_integer D ⟨P, w, K, mg, base, A⟩ (fun cls d _ H => E cls d H) { nx := fun _ H' => Q .non H', rt := Q } (start ["value"] vs) H := by
  obtain ⟨M, x, d, rfl, hx, p, q⟩ := h
  refine k_isiI hx p ?_
  tb_rel
  cases hi : isIntD d with
  | true =>
    cases hx with
    | int i =>
      refine k_isiB (.int (M := M) i) rfl ?_
      kas_types
      exact q
    | _ => cases hi
  | false =>
    rw [hi] at q
    cases hb : tyN d == some "bool" with
    | true =>
      refine k_isiB hx p ?_
      rw [hb]
      kas_types
      exact q
    | false => exact q
theorem okb_is_integer (D : Wd P K mg) : FnB P w K mg base 1 D.a_is_integer D.fd_is_integer ["value"] (spIntD K) :=
  fn_b D.F_is_integer sc_is_integer (t_is_integer D) (by kbo_bools) (fun cdv A outer s H E o tk => d_is_integer D cdv A outer s H E _ o tk) (fun A E hr vs H Q h => r_is_integer D A E hr vs H Q h)
theorem ok_is_integer (D : Wd P K mg) : FnZ P w K mg base 1 D.a_is_integer (spIntD K) := (okb_is_integer D).z0 D.B_is_integer (by kbo_bools)
theorem n_isint (D : Wd P K mg) {A : Around} {k : Nat} (hr : Rm k A) {x : V} {d : PyData} {M : List Addr} {H : Hp} {Q : VK} {W : XK} (h : Kd M K H x d) (p : isPl d = true) (q : Q (.bl (isIntD d)) H) (hk : 1 ≤ k := by decide) : vCall ⟨P, w, K, mg, base, A⟩ (.ref D.a_is_integer) [x] W H Q :=
  call_z hr (ok_is_integer D) ⟨M, x, d, rfl, h, p, q⟩ hk
theorem n_isint' (D : Wd P K mg) {A : Around} {k : Nat} (hr : Rm k A) {i : Int} {H : Hp} {Q : VK} {W : XK} (q : Q (.bl true) H) (hk : 1 ≤ k := by decide) : vCall ⟨P, w, K, mg, base, A⟩ (.ref D.a_is_integer) [.int i] W H Q :=
  n_isint D hr (.int (M := []) i) rfl q hk

abbrev rowD (C : Addr) (n t u : Int) : PyData := objD C [(.str "place", .tuple [.int n, .int t, .int u])]
def spRow (C : Addr) : Sp := fun vs H Q _ => ∃ (x dx : Addr) (n t u : Int), vs = [.ref x, .int n, .int t, .int u] ∧ H x = some (.ins C dx []) ∧ 0 ≤ t ∧ t ≤ u ∧ u ≤ n ∧
  ∀ H' p, H p = none → But x H H' → H' x = some (.ins C dx [("place", .ref p)]) → H' p = some (.tup [.int n, .int t, .int u]) → Q .non H'
theorem r_Row_init (D : Wd P K mg) (A : Around) (E : XK) (hr : Rm 1 A) (vs : List V) (H : Hp) (Q : VK) (h : spRow D.a_Row vs H Q E) :
    t_Row_init D ⟨P, w, K, mg, base, A⟩ (fun cls d _ H => E cls d H) { nx := fun _ H' => Q .non H', rt := Q } (start ["self", "length", "below", "upto"] vs) H := by
  obtain ⟨x, dx, n, t, u, rfl, hx, h0, h1, h2, k⟩ := h
  refine n_isint' D hr ?_
  kas_types
  refine byb_d (fun c => by omega) (fun c => ?_)
  refine n_isint' D hr ?_
  kas_types
  refine byb_d (fun c => ?_) (fun c => by omega)
  kas_types
  refine byb_nd (fun c => ?_) (fun c => by omega)
  refine n_isint' D hr ?_
  kas_types
  refine byb_d (fun c => ?_) (fun c => by omega)
  kas_types
  refine byb_nd (fun c => ?_) (fun c => by omega)
  refine n_tup (by rfl) fun p H1 np s1 hp => ?_
  refine ⟨x, _, dx, _, rfl, s1 _ _ hx, D.c_Row, D.n_Row_place, (by show 0 < 1000; decide), ?_⟩
  refine k _ p np ((to_but s1).trans but_upd) upd_same ?_
  rw [upd_ne (ne_fresh hx np)]
  exact hp
theorem okb_Row_init (D : Wd P K mg) : FnB P w K mg base 2 D.a_Row_init D.fd_Row_init ["self", "length", "below", "upto"] (spRow D.a_Row) :=
  fn_b D.F_Row_init sc_Row_init (t_Row_init D) (by kbo_bools) (fun cdv A outer s H E o tk => d_Row_init D cdv A outer s H E _ o tk) (fun A E hr vs H Q h => r_Row_init D A E hr vs H Q h)
theorem ok_Row_init (D : Wd P K mg) : FnZ P w K mg base 2 D.a_Row_init (spRow D.a_Row) := (okb_Row_init D).z0 D.B_Row_init (by kbo_bools)
/-- Row(n, t, u) -/
theorem n_Row (D : Wd P K mg) {A : Around} {k : Nat} (hr : Rm k A) {n t u : Int} {M : List Addr} {H : Hp} {Q : VK} {W : XK} (al : Al M H) (h0 : 0 ≤ t) (h1 : t ≤ u) (h2 : u ≤ n) (q : ∀ a H', H a = none → Lk [] H H' → Kd M K H' (.ref a) (rowD D.a_Row n t u) → Q (.ref a) H') (hk : 3 ≤ k := by decide) :
    vCall ⟨P, w, K, mg, base, A⟩ (.ref D.a_Row) [.int n, .int t, .int u] W H Q := by
  refine make_z hr D.M_Row (ok_Row_init D) (fun x dx nx nd ne => ⟨x, dx, n, t, u, rfl, upd_same, h0, h1, h2, fun H' p np b hx hp => ⟨rfl, ?_⟩⟩) hk
  have s : Same H H' := same_but ((same_upd nd).trans (same_upd (by rw [upd_ne ne.symm]; exact nx))) b nx
  have npH : H p = none := by
    cases e : H p with
    | none => rfl
    | some o =>
      have := (same_upd (o := .own x) nd).trans (same_upd (o := .ins D.a_Row dx []) (by rw [upd_ne ne.symm]; exact nx)) p o e
      rw [np] at this; cases this
  exact q x H' nx (.same s) (.obj (al.off nx) hx (.cons (.tup (.inl ⟨al.off npH, .of hp⟩) (.cons (.int _) (.cons (.int _) (.cons (.int _) .nil)))) .nil))
def spProp (K : PySem.W.Frag) (C : Addr) (f : Int → Int → Int → Int) : Sp := fun vs H Q _ => ∃ (M : List Addr) (x : V) (n t u : Int), vs = [x] ∧ Kd M K H x (rowD C n t u) ∧ Q (.int (f n t u)) H
theorem n_place (D : Wd P K mg) {A : Around} {x : V} {n t u : Int} {M : List Addr} {H : Hp} {Q : VK} {W : XK} (h : Kd M K H x (rowD D.a_Row n t u)) (q : kOut M K H (.tuple [.int n, .int t, .int u]) fun v => Q v H) : vAttr ⟨P, w, K, mg, base, A⟩ "place" x W H Q :=
  k_fld h D.c_Row D.n_Row_place (by rfl) q

theorem r_Row_below (D : Wd P K mg) (A : Around) (E : XK) (hr : Rm 0 A) (vs : List V) (H : Hp) (Q : VK) (h : spProp K D.a_Row (fun n t u => t) vs H Q E) :
    t_Row_below D ⟨P, w, K, mg, base, A⟩ (fun cls d _ H => E cls d H) { nx := fun _ H' => Q .non H', rt := Q } (start ["self"] vs) H := by
  obtain ⟨M, x, n, t, u, rfl, hx, q⟩ := h
  refine n_place D hx ?_
  kcf_all
  exact q
theorem okb_Row_below (D : Wd P K mg) : FnB P w K mg base 1 D.a_Row_below D.fd_Row_below ["self"] (spProp K D.a_Row (fun n t u => t)) :=
  fn_b D.F_Row_below sc_Row_below (t_Row_below D) (by kbo_bools) (fun cdv A outer s H E o tk => d_Row_below D cdv A outer s H E _ o tk) (fun A E hr vs H Q h => r_Row_below D A E hr vs H Q h)
theorem ok_Row_below (D : Wd P K mg) : FnZ P w K mg base 1 D.a_Row_below (spProp K D.a_Row (fun n t u => t)) := (okb_Row_below D).z0 D.B_Row_below (by kbo_bools)
theorem n_below (D : Wd P K mg) {A : Around} {k : Nat} (hr : Rm k A) {x : V} {n t u : Int} {M : List Addr} {H : Hp} {Q : VK} {W : XK} (h : Kd M K H x (rowD D.a_Row n t u)) (q : Q (.int t) H) (hk : 2 ≤ k := by decide) : vAttr ⟨P, w, K, mg, base, A⟩ "below" x W H Q := by
  cases id h with
  | obj m ha r => exact attr_prop hr ha D.c_Row D.P_Row_below (ok_Row_below D) ⟨M, _, n, t, u, rfl, h, q⟩ hk

theorem r_Row_upto (D : Wd P K mg) (A : Around) (E : XK) (hr : Rm 0 A) (vs : List V) (H : Hp) (Q : VK) (h : spProp K D.a_Row (fun n t u => u) vs H Q E) :
    t_Row_upto D ⟨P, w, K, mg, base, A⟩ (fun cls d _ H => E cls d H) { nx := fun _ H' => Q .non H', rt := Q } (start ["self"] vs) H := by
  obtain ⟨M, x, n, t, u, rfl, hx, q⟩ := h
  refine n_place D hx ?_
  kcf_all
  exact q
theorem okb_Row_upto (D : Wd P K mg) : FnB P w K mg base 1 D.a_Row_upto D.fd_Row_upto ["self"] (spProp K D.a_Row (fun n t u => u)) :=
  fn_b D.F_Row_upto sc_Row_upto (t_Row_upto D) (by kbo_bools) (fun cdv A outer s H E o tk => d_Row_upto D cdv A outer s H E _ o tk) (fun A E hr vs H Q h => r_Row_upto D A E hr vs H Q h)
theorem ok_Row_upto (D : Wd P K mg) : FnZ P w K mg base 1 D.a_Row_upto (spProp K D.a_Row (fun n t u => u)) := (okb_Row_upto D).z0 D.B_Row_upto (by kbo_bools)
theorem n_upto (D : Wd P K mg) {A : Around} {k : Nat} (hr : Rm k A) {x : V} {n t u : Int} {M : List Addr} {H : Hp} {Q : VK} {W : XK} (h : Kd M K H x (rowD D.a_Row n t u)) (q : Q (.int u) H) (hk : 2 ≤ k := by decide) : vAttr ⟨P, w, K, mg, base, A⟩ "upto" x W H Q := by
  cases id h with
  | obj m ha r => exact attr_prop hr ha D.c_Row D.P_Row_upto (ok_Row_upto D) ⟨M, _, n, t, u, rfl, h, q⟩ hk

/-- value in words, a string -/
def isWordD (d : PyData) (es : List PyData) : Bool := match d with
  | .str s => es.any fun z => PyData.eqv z (.str s)
  | _ => false
def okS : PyData → Bool
  | .str s => PyData.strOk s
  | _ => true
def spWordD (K : PySem.W.Frag) : Sp := fun vs H Q _ => ∃ M N x y d es, vs = [x, y] ∧ Kd M K H x d ∧ isPl d = true ∧ okS d = true ∧ Kd N K H y (.tuple es) ∧ okD (.list es) = true ∧ Q (.bl (isWordD d es)) H
theorem r_is_word (D : Wd P K mg) (A : Around) (E : XK) (hr : Rm 0 A) (vs : List V) (H : Hp) (Q : VK) (h : spWordD K vs H Q E) :
    t_is_word D ⟨P, w, K, mg, base, A⟩ (fun cls d _ H => E cls d H) { nx := fun _ H' => Q .non H', rt := Q } (start ["value", "words"] vs) H := by
  obtain ⟨M, N, x, y, d, es, rfl, hx, p, o, hy, o', q⟩ := h
  refine k_isiS hx p ?_
  tb_rel
  cases hx with
  | str s => exact byb_t (k_inT2 (Rm.units' hr) (.str (M := M) s) hy (by simpa [okD, PyData.canLay0, PyData.depth, okS] using o) o' rfl q)
  | _ => exact q
theorem okb_is_word (D : Wd P K mg) : FnB P w K mg base 1 D.a_is_word D.fd_is_word ["value", "words"] (spWordD K) :=
  fn_b D.F_is_word sc_is_word (t_is_word D) (by kbo_bools) (fun cdv A outer s H E o tk => d_is_word D cdv A outer s H E _ o tk) (fun A E hr vs H Q h => r_is_word D A E hr vs H Q h)
theorem ok_is_word (D : Wd P K mg) : FnZ P w K mg base 1 D.a_is_word (spWordD K) := (okb_is_word D).z0 D.B_is_word (by kbo_bools)
def wishesD : List PyData := [.str "first", .str "after", .str "before", .str "last", .str "between", .str "first equal", .str "last equal", .str "any equal"]
def isWishD (d : PyData) : Bool := isWordD d wishesD
def spWishD (K : PySem.W.Frag) : Sp := fun vs H Q _ => ∃ M x d, vs = [x] ∧ Kd M K H x d ∧ isPl d = true ∧ okS d = true ∧ Q (.bl (isWishD d)) H
theorem r_is_wish (D : Wd P K mg) (A : Around) (E : XK) (hr : Rm 1 A) (vs : List V) (H : Hp) (Q : VK) (h : spWishD K vs H Q E) :
    t_is_wish D ⟨P, w, K, mg, base, A⟩ (fun cls d _ H => E cls d H) { nx := fun _ H' => Q .non H', rt := Q } (start ["value"] vs) H := by
  obtain ⟨M, x, d, rfl, hx, p, o, q⟩ := h
  exact call_z hr (ok_is_word D) ⟨M, [], x, _, d, wishesD, rfl, hx, p, o, D.con_WISHES [] H, by decide +kernel, q⟩
theorem okb_is_wish (D : Wd P K mg) : FnB P w K mg base 2 D.a_is_wish D.fd_is_wish ["value"] (spWishD K) :=
  fn_b D.F_is_wish sc_is_wish (t_is_wish D) (by kbo_bools) (fun cdv A outer s H E o tk => d_is_wish D cdv A outer s H E _ o tk) (fun A E hr vs H Q h => r_is_wish D A E hr vs H Q h)
theorem ok_is_wish (D : Wd P K mg) : FnZ P w K mg base 2 D.a_is_wish (spWishD K) := (okb_is_wish D).z0 D.B_is_wish (by kbo_bools)
theorem n_iswish (D : Wd P K mg) {A : Around} {k : Nat} (hr : Rm k A) {x : V} {d : PyData} {M : List Addr} {H : Hp} {Q : VK} {W : XK} (h : Kd M K H x d) (p : isPl d = true) (o : okS d = true) (q : Q (.bl (isWishD d)) H) (hk : 2 ≤ k := by decide) : vCall ⟨P, w, K, mg, base, A⟩ (.ref D.a_is_wish) [x] W H Q :=
  call_z hr (ok_is_wish D) ⟨M, x, d, rfl, h, p, o, q⟩ hk
end
end Pf

namespace Pf
open PySem PySem.Spec PyProof.Rows L2 RZ Z ZE
local macro_rules | `(tactic| tb_rel) => `(tactic| first
  | (refine vOp_id ?_; first | (with_reducible refine e_add ?_) | (with_reducible refine e_sub ?_) | (with_reducible refine e_lt ?_) | (with_reducible refine e_le ?_) | (with_reducible refine e_gt ?_) | (with_reducible refine e_ge ?_) | (with_reducible refine e_eqI ?_) | (with_reducible refine e_neI ?_) | (with_reducible refine e_iadd ?_))
  | refine e_truB ?_
  | (refine vCB_id ?_; first | (with_reducible refine e_int ?_) | (with_reducible refine e_max ?_) | (with_reducible refine e_min ?_) | (with_reducible refine e_abs ?_))
  | (refine vUn_id ?_; with_reducible refine e_neg ?_))
local macro_rules | `(tactic| kbo_bools) => `(tactic| (intro vs H Q E h; repeat (first | (obtain ⟨e, _⟩ := h; (subst e; rfl)) | (obtain ⟨_, h⟩ := h))))
local macro_rules | `(tactic| k_subL) => `(tactic| first | assumption | exact List.mem_cons_self | exact Stk.mem (by assumption) | (apply List.mem_cons_of_mem; k_subL))
local macro_rules | `(tactic| k_clsL) => `(tactic| first | exact List.nil_subset _ | assumption | exact List.Subset.refl _ | (refine List.cons_subset.mpr ⟨by k_subL, ?_⟩; k_clsL))
local macro_rules | `(tactic| tlg_ne) => `(tactic| first | assumption | exact Ne.symm (by assumption) | (apply Stk.ne; assumption; lsm_bools))
local macro_rules | `(tactic| o_fieldsN) => `(tactic| first | exact List.not_mem_nil | assumption | (refine nm_cons (by tlg_ne) ?_; o_fieldsN))
local macro_rules | `(tactic| lsm_bools) => `(tactic| first | assumption | (apply Stk.go; assumption; lsm_bools; k_clsL; o_fieldsN) | (apply Stk.goN; assumption; assumption; ktu_offL; kp_flats; k_clsL; o_fieldsN))
local macro_rules | `(tactic| ktu_offL) => `(tactic| first | assumption | (apply Stk.go; assumption; ktu_offL; k_clsL; o_fieldsN))
local macro_rules | `(tactic| kp_flats) => `(tactic| first | assumption | exact Mk1.al (by assumption) | exact Stk.al (by assumption) | (apply Al.go; assumption; kp_flats) | exact Al.nil)
local macro_rules | `(tactic| ktu_offI) => `(tactic| first | assumption | (apply Mk1.go; assumption; ktu_offI; k_clsL; o_fieldsN))
local macro_rules | `(tactic| lcg_sub) => `(tactic| first | assumption | exact Lk.refl | (apply Lk.go; assumption; lcg_sub; k_clsL))
local macro_rules | `(tactic| keq_rows) => `(tactic| first | exact .int _ | exact .str _ | exact .bl _ | exact .non | assumption | (apply Kd.go; assumption; keq_rows; k_clsL) | (apply Kd.goN; assumption; got_up))
local macro_rules | `(tactic| got_up) => `(tactic| first | assumption | (apply Kd.go; assumption; got_up; k_clsL) | (apply Kd.goN; assumption; l_intsC))
local macro_rules | `(tactic| l_intsC) => `(tactic| first | assumption | (apply Kd.go; assumption; l_intsC; k_clsL))
local macro_rules | `(tactic| lcg_src) => `(tactic| first | exact KdL.nil | (apply KdL.cons; keq_rows; lcg_src))
local macro_rules | `(tactic| kat_tups) => `(tactic| first | exact Kd.str (M := []) _ | exact Kd.int (M := []) _ | exact Kd.bl (M := []) _ | exact Kd.non (M := []) | keq_rows)
local macro_rules | `(tactic| kct_strs) => `(tactic| first | decide +kernel | assumption | simp [okD, PyData.canLay0, PyData.canLayAll0, PyData.depth, PyData.depthAll] | simp [okD, PyData.canLay0, PyData.canLayAll0, PyData.depth, PyData.depthAll, *])
local macro_rules | `(tactic| top_caught) => `(tactic| (refine vOp_id ?_; first
  | (with_reducible refine opEq_id ?_; first | refine k_eqo (r := true) (Rm.units' (by assumption)) (by kat_tups) (by kat_tups) (by kct_strs) (by kct_strs) (by decide +kernel) ?_ | refine k_eqo (r := false) (Rm.units' (by assumption)) (by kat_tups) (by kat_tups) (by kct_strs) (by kct_strs) (by decide +kernel) ?_)
  | (with_reducible refine opNotEq_id ?_; first | refine k_neo (r := true) (Rm.units' (by assumption)) (by kat_tups) (by kat_tups) (by kct_strs) (by kct_strs) (by decide +kernel) ?_ | refine k_neo (r := false) (Rm.units' (by assumption)) (by kat_tups) (by kat_tups) (by kct_strs) (by kct_strs) (by decide +kernel) ?_)
  | (with_reducible refine opIn_id ?_; first | refine k_inL2 (r := true) (Rm.units' (by assumption)) (by kat_tups) (by kat_tups) (by kct_strs) (by kct_strs) (by decide +kernel) ?_ | refine k_inL2 (r := false) (Rm.units' (by assumption)) (by kat_tups) (by kat_tups) (by kct_strs) (by kct_strs) (by decide +kernel) ?_ | refine k_inT2 (r := true) (Rm.units' (by assumption)) (by kat_tups) (by kat_tups) (by kct_strs) (by kct_strs) (by decide +kernel) ?_ | refine k_inT2 (r := false) (Rm.units' (by assumption)) (by kat_tups) (by kat_tups) (by kct_strs) (by kct_strs) (by decide +kernel) ?_)
  | (with_reducible refine opNotIn_id ?_; first | refine k_ninL2 (r := true) (Rm.units' (by assumption)) (by kat_tups) (by kat_tups) (by kct_strs) (by kct_strs) (by decide +kernel) ?_ | refine k_ninL2 (r := false) (Rm.units' (by assumption)) (by kat_tups) (by kat_tups) (by kct_strs) (by kct_strs) (by decide +kernel) ?_ | refine k_ninT2 (r := true) (Rm.units' (by assumption)) (by kat_tups) (by kat_tups) (by kct_strs) (by kct_strs) (by decide +kernel) ?_ | refine k_ninT2 (r := false) (Rm.units' (by assumption)) (by kat_tups) (by kat_tups) (by kct_strs) (by kct_strs) (by decide +kernel) ?_)))
local macro_rules | `(tactic| tb_start) => `(tactic| first
  | (refine byb_id ?_; first | refine byb_t ?_ | refine byb_f ?_) | tb_rel
  | (refine vIx_id ?_; first | refine k_ixT (by keq_rows) (by rfl) ?_ | refine k_ixL (by keq_rows) (by rfl) ?_)
  | refine k_dic (Wd.ki (by assumption)) (by kp_flats) fun _ _ _ _ _ => ?_
  | (refine vOp_id ?_; with_reducible refine opIs_id ?_; first | (with_reducible refine e_isBl ?_) | refine k_isNon (by keq_rows) ?_ | refine e_isN ?_)
  | (refine vOp_id ?_; with_reducible refine opIsNot_id ?_; first | (with_reducible refine e_isnotBl ?_) | refine k_notNon (by keq_rows) ?_ | refine e_notN ?_)
  | (refine vTup_id ?_; refine k_tup (Wd.ki (by assumption)) (by kp_flats) (by lcg_src) (by rfl) fun _ _ _ _ _ => ?_)
  | (refine vLst_id ?_; refine k_lst (Wd.ki (by assumption)) (by kp_flats) (by lcg_src) (by rfl) fun _ _ _ _ _ => ?_)
  | (refine vUnp_id ?_; refine k_unp (by keq_rows) (by rfl) ?_)
  | refine kAll.mk fun _ _ => ?_
  | (refine vCB_id ?_; first | refine k_lenT (by keq_rows) ?_ | refine k_lenL (by keq_rows) ?_))
local macro_rules | `(tactic| kcf_all) => `(tactic| repeat tb_start)
local macro_rules | `(tactic| kcj_in) => `(tactic| repeat (first | tb_start | top_caught))
local macro_rules | `(tactic| kas_types) => `(tactic| repeat tb_rel)
section
variable {P : Program} {w : World} {K : PySem.W.Frag} {mg : Str → Option Value} {base : Heap}
/-- the wishes by number; what is right for them -/
def wishAt (i : Nat) : Str := match i with
  | 0 => "first" | 1 => "after" | 2 => "before" | 3 => "last" | 4 => "between" | 5 => "first equal" | 6 => "last equal" | _ => "any equal"
def rangeAt (i : Nat) (t u : Int) : Option (Int × Int) := match i with
  | 0 => some (t, t) | 1 => some (u, u) | 2 => some (t - 1, t - 1) | 3 => some (u - 1, u - 1) | 4 => some (t, u)
  | 5 => if t = u then none else some (t, t)
  | 6 => if t = u then none else some (u - 1, u - 1)
  | _ => if t = u then none else some (t, u - 1)
def rangeD (i : Nat) (t u : Int) : PyData := match rangeAt i t u with
  | none => .none
  | some (a, b) => .tuple [.int a, .int b]
def rightAt (i : Nat) (t u : Int) (d : PyData) : Bool := match rangeAt i t u with
  | none => isNonD d
  | some (a, b) => (match d with
    | .int g => decide (a ≤ g) && decide (g ≤ b)
    | _ => false)
theorem eight {i : Nat} (h : i < 8) : i = 0 ∨ i = 1 ∨ i = 2 ∨ i = 3 ∨ i = 4 ∨ i = 5 ∨ i = 6 ∨ i = 7 := by omega
theorem wish_is {i : Nat} (h : i < 8) : isWishD (.str (wishAt i)) = true ∧ okS (.str (wishAt i)) = true := by
  rcases eight h with rfl | rfl | rfl | rfl | rfl | rfl | rfl | rfl <;> decide +kernel
def spCheckWish (K : PySem.W.Frag) : Sp := fun vs H Q _ => ∃ i, vs = [.str (wishAt i)] ∧ i < 8 ∧ Q .non H
theorem r_check_wish (D : Wd P K mg) (A : Around) (E : XK) (hr : Rm 2 A) (vs : List V) (H : Hp) (Q : VK) (h : spCheckWish K vs H Q E) :
    t_check_wish D ⟨P, w, K, mg, base, A⟩ (fun cls d _ H => E cls d H) { nx := fun _ H' => Q .non H', rt := Q } (start ["wish"] vs) H := by
  obtain ⟨i, rfl, hi, q⟩ := h
  refine n_iswish D hr (.str (M := []) _) rfl (wish_is hi).2 ?_
  rw [(wish_is hi).1]
  kas_types
  refine byb_f ?_
  exact q
theorem okb_check_wish (D : Wd P K mg) : FnB P w K mg base 3 D.a_check_wish D.fd_check_wish ["wish"] (spCheckWish K) :=
  fn_b D.F_check_wish sc_check_wish (t_check_wish D) (by kbo_bools) (fun cdv A outer s H E o tk => d_check_wish D cdv A outer s H E _ o tk) (fun A E hr vs H Q h => r_check_wish D A E hr vs H Q h)
theorem ok_check_wish (D : Wd P K mg) : FnZ P w K mg base 3 D.a_check_wish (spCheckWish K) := (okb_check_wish D).z0 D.B_check_wish (by kbo_bools)
def spCheckRow (K : PySem.W.Frag) (C : Addr) : Sp := fun vs H Q _ => ∃ M x n t u, vs = [x] ∧ Kd M K H x (rowD C n t u) ∧ Q .non H
theorem r_check_row (D : Wd P K mg) (A : Around) (E : XK) (hr : Rm 0 A) (vs : List V) (H : Hp) (Q : VK) (h : spCheckRow K D.a_Row vs H Q E) :
    t_check_row D ⟨P, w, K, mg, base, A⟩ (fun cls d _ H => E cls d H) { nx := fun _ H' => Q .non H', rt := Q } (start ["row"] vs) H := by
  obtain ⟨M, x, n, t, u, rfl, hx, q⟩ := h
  refine k_isiO hx D.c_Row D.i_Row ?_
  kas_types
  refine byb_f ?_
  exact q
theorem okb_check_row (D : Wd P K mg) : FnB P w K mg base 1 D.a_check_row D.fd_check_row ["row"] (spCheckRow K D.a_Row) :=
  fn_b D.F_check_row sc_check_row (t_check_row D) (by kbo_bools) (fun cdv A outer s H E o tk => d_check_row D cdv A outer s H E _ o tk) (fun A E hr vs H Q h => r_check_row D A E hr vs H Q h)
theorem ok_check_row (D : Wd P K mg) : FnZ P w K mg base 1 D.a_check_row (spCheckRow K D.a_Row) := (okb_check_row D).z0 D.B_check_row (by kbo_bools)
def spRange (K : PySem.W.Frag) (C : Addr) : Sp := fun vs H Q _ => ∃ M i x n t u, vs = [.str (wishAt i), x] ∧ i < 8 ∧ Al M H ∧ Kd M K H x (rowD C n t u) ∧ ∀ v H', Lk [] H H' → Kd M K H' v (rangeD i t u) → Q v H'
theorem r_wished_range (D : Wd P K mg) (A : Around) (E : XK) (hr : Rm 2 A) (vs : List V) (H : Hp) (Q : VK) (h : spRange K D.a_Row vs H Q E) :
    t_wished_range D ⟨P, w, K, mg, base, A⟩ (fun cls d _ H => E cls d H) { nx := fun _ H' => Q .non H', rt := Q } (start ["wish", "row", "below", "upto"] vs) H := by
  obtain ⟨M, i, x, n, t, u, rfl, hi, al, hx, q⟩ := h
  refine n_below D hr hx ?_
  refine n_upto D hr hx ?_
  rcases eight hi with rfl | rfl | rfl | rfl | rfl | rfl | rfl | rfl
  all_goals kcj_in
  · exact q _ _ (by lcg_sub) (by keq_rows)
  · exact q _ _ (by lcg_sub) (by keq_rows)
  · exact q _ _ (by lcg_sub) (by keq_rows)
  · exact q _ _ (by lcg_sub) (by keq_rows)
  · exact q _ _ (by lcg_sub) (by keq_rows)
  all_goals
    by_cases c : t = u
    · rw [decide_eq_true c]
      have e : ∀ i, 5 ≤ i → rangeD i t u = .none := fun i hi => by
        have : i = 5 ∨ i = 6 ∨ ∃ j, i = j + 7 := by
          rcases Nat.lt_or_ge i 7 with h | h
          · omega
          · exact .inr (.inr ⟨i - 7, by omega⟩)
        rcases this with rfl | rfl | ⟨j, rfl⟩ <;> simp [rangeD, rangeAt, c]
      kcj_in
      refine q _ _ (by lcg_sub) ?_
      rw [e _ (by decide)]
      exact .non
    · rw [decide_eq_false c]
      kcj_in
      refine q _ _ (by lcg_sub) ?_
      simp only [rangeD, rangeAt, if_neg c]
      keq_rows
theorem okb_wished_range (D : Wd P K mg) : FnB P w K mg base 3 D.a_wished_range D.fd_wished_range ["wish", "row"] (spRange K D.a_Row) :=
  fn_b D.F_wished_range sc_wished_range (t_wished_range D) (by kbo_bools) (fun cdv A outer s H E o tk => d_wished_range D cdv A outer s H E _ o tk) (fun A E hr vs H Q h => r_wished_range D A E hr vs H Q h)
theorem ok_wished_range (D : Wd P K mg) : FnZ P w K mg base 3 D.a_wished_range (spRange K D.a_Row) := (okb_wished_range D).z0 D.B_wished_range (by kbo_bools)
end
end Pf

namespace Pf
open PySem PySem.Spec PyProof.Rows L2 RZ Z ZE
local macro_rules | `(tactic| tb_rel) => `(tactic| first
  | (refine vOp_id ?_; first | (with_reducible refine e_add ?_) | (with_reducible refine e_sub ?_) | (with_reducible refine e_lt ?_) | (with_reducible refine e_le ?_) | (with_reducible refine e_gt ?_) | (with_reducible refine e_ge ?_) | (with_reducible refine e_eqI ?_) | (with_reducible refine e_neI ?_) | (with_reducible refine e_iadd ?_))
  | refine e_truB ?_
  | (refine vCB_id ?_; first | (with_reducible refine e_int ?_) | (with_reducible refine e_max ?_) | (with_reducible refine e_min ?_) | (with_reducible refine e_abs ?_))
  | (refine vUn_id ?_; with_reducible refine e_neg ?_))
local macro_rules | `(tactic| kbo_bools) => `(tactic| (intro vs H Q E h; repeat (first | (obtain ⟨e, _⟩ := h; (subst e; rfl)) | (obtain ⟨_, h⟩ := h))))
local macro_rules | `(tactic| k_subL) => `(tactic| first | assumption | exact List.mem_cons_self | exact Stk.mem (by assumption) | (apply List.mem_cons_of_mem; k_subL))
local macro_rules | `(tactic| k_clsL) => `(tactic| first | exact List.nil_subset _ | assumption | exact List.Subset.refl _ | (refine List.cons_subset.mpr ⟨by k_subL, ?_⟩; k_clsL))
local macro_rules | `(tactic| tlg_ne) => `(tactic| first | assumption | exact Ne.symm (by assumption) | (apply Stk.ne; assumption; lsm_bools))
local macro_rules | `(tactic| o_fieldsN) => `(tactic| first | exact List.not_mem_nil | assumption | (refine nm_cons (by tlg_ne) ?_; o_fieldsN))
local macro_rules | `(tactic| lsm_bools) => `(tactic| first | assumption | (apply Stk.go; assumption; lsm_bools; k_clsL; o_fieldsN) | (apply Stk.goN; assumption; assumption; ktu_offL; kp_flats; k_clsL; o_fieldsN))
local macro_rules | `(tactic| ktu_offL) => `(tactic| first | assumption | (apply Stk.go; assumption; ktu_offL; k_clsL; o_fieldsN))
local macro_rules | `(tactic| kp_flats) => `(tactic| first | assumption | exact Mk1.al (by assumption) | exact Stk.al (by assumption) | (apply Al.go; assumption; kp_flats) | exact Al.nil)
local macro_rules | `(tactic| ktu_offI) => `(tactic| first | assumption | (apply Mk1.go; assumption; ktu_offI; k_clsL; o_fieldsN))
local macro_rules | `(tactic| lcg_sub) => `(tactic| first | assumption | exact Lk.refl | (apply Lk.go; assumption; lcg_sub; k_clsL))
local macro_rules | `(tactic| keq_rows) => `(tactic| first | exact .int _ | exact .str _ | exact .bl _ | exact .non | assumption | (apply Kd.go; assumption; keq_rows; k_clsL) | (apply Kd.goN; assumption; got_up))
local macro_rules | `(tactic| got_up) => `(tactic| first | assumption | (apply Kd.go; assumption; got_up; k_clsL) | (apply Kd.goN; assumption; l_intsC))
local macro_rules | `(tactic| l_intsC) => `(tactic| first | assumption | (apply Kd.go; assumption; l_intsC; k_clsL))
local macro_rules | `(tactic| lcg_src) => `(tactic| first | exact KdL.nil | (apply KdL.cons; keq_rows; lcg_src))
local macro_rules | `(tactic| kat_tups) => `(tactic| first | exact Kd.str (M := []) _ | exact Kd.int (M := []) _ | exact Kd.bl (M := []) _ | exact Kd.non (M := []) | keq_rows)
local macro_rules | `(tactic| kct_strs) => `(tactic| first | decide +kernel | assumption | simp [okD, PyData.canLay0, PyData.canLayAll0, PyData.depth, PyData.depthAll] | simp [okD, PyData.canLay0, PyData.canLayAll0, PyData.depth, PyData.depthAll, *])
local macro_rules | `(tactic| top_caught) => `(tactic| (refine vOp_id ?_; first
  | (with_reducible refine opEq_id ?_; first | refine k_eqo (r := true) (Rm.units' (by assumption)) (by kat_tups) (by kat_tups) (by kct_strs) (by kct_strs) (by decide +kernel) ?_ | refine k_eqo (r := false) (Rm.units' (by assumption)) (by kat_tups) (by kat_tups) (by kct_strs) (by kct_strs) (by decide +kernel) ?_)
  | (with_reducible refine opNotEq_id ?_; first | refine k_neo (r := true) (Rm.units' (by assumption)) (by kat_tups) (by kat_tups) (by kct_strs) (by kct_strs) (by decide +kernel) ?_ | refine k_neo (r := false) (Rm.units' (by assumption)) (by kat_tups) (by kat_tups) (by kct_strs) (by kct_strs) (by decide +kernel) ?_)
  | (with_reducible refine opIn_id ?_; first | refine k_inL2 (r := true) (Rm.units' (by assumption)) (by kat_tups) (by kat_tups) (by kct_strs) (by kct_strs) (by decide +kernel) ?_ | refine k_inL2 (r := false) (Rm.units' (by assumption)) (by kat_tups) (by kat_tups) (by kct_strs) (by kct_strs) (by decide +kernel) ?_ | refine k_inT2 (r := true) (Rm.units' (by assumption)) (by kat_tups) (by kat_tups) (by kct_strs) (by kct_strs) (by decide +kernel) ?_ | refine k_inT2 (r := false) (Rm.units' (by assumption)) (by kat_tups) (by kat_tups) (by kct_strs) (by kct_strs) (by decide +kernel) ?_)
  | (with_reducible refine opNotIn_id ?_; first | refine k_ninL2 (r := true) (Rm.units' (by assumption)) (by kat_tups) (by kat_tups) (by kct_strs) (by kct_strs) (by decide +kernel) ?_ | refine k_ninL2 (r := false) (Rm.units' (by assumption)) (by kat_tups) (by kat_tups) (by kct_strs) (by kct_strs) (by decide +kernel) ?_ | refine k_ninT2 (r := true) (Rm.units' (by assumption)) (by kat_tups) (by kat_tups) (by kct_strs) (by kct_strs) (by decide +kernel) ?_ | refine k_ninT2 (r := false) (Rm.units' (by assumption)) (by kat_tups) (by kat_tups) (by kct_strs) (by kct_strs) (by decide +kernel) ?_)))
local macro_rules | `(tactic| tb_start) => `(tactic| first
  | (refine byb_id ?_; first | refine byb_t ?_ | refine byb_f ?_) | tb_rel
  | (refine vIx_id ?_; first | refine k_ixT (by keq_rows) (by rfl) ?_ | refine k_ixL (by keq_rows) (by rfl) ?_)
  | refine k_dic (Wd.ki (by assumption)) (by kp_flats) fun _ _ _ _ _ => ?_
  | (refine vOp_id ?_; with_reducible refine opIs_id ?_; first | (with_reducible refine e_isBl ?_) | refine k_isNon (by keq_rows) ?_ | refine e_isN ?_)
  | (refine vOp_id ?_; with_reducible refine opIsNot_id ?_; first | (with_reducible refine e_isnotBl ?_) | refine k_notNon (by keq_rows) ?_ | refine e_notN ?_)
  | (refine vTup_id ?_; refine k_tup (Wd.ki (by assumption)) (by kp_flats) (by lcg_src) (by rfl) fun _ _ _ _ _ => ?_)
  | (refine vLst_id ?_; refine k_lst (Wd.ki (by assumption)) (by kp_flats) (by lcg_src) (by rfl) fun _ _ _ _ _ => ?_)
  | (refine vUnp_id ?_; refine k_unp (by keq_rows) (by rfl) ?_)
  | refine kAll.mk fun _ _ => ?_
  | (refine vCB_id ?_; first | refine k_lenT (by keq_rows) ?_ | refine k_lenL (by keq_rows) ?_))
local macro_rules | `(tactic| kcf_all) => `(tactic| repeat tb_start)
local macro_rules | `(tactic| kcj_in) => `(tactic| repeat (first | tb_start | top_caught))
local macro_rules | `(tactic| kas_types) => `(tactic| repeat tb_rel)
section
variable {P : Program} {w : World} {K : PySem.W.Frag} {mg : Str → Option Value} {base : Heap}
theorem n_chkw (D : Wd P K mg) {A : Around} {k : Nat} (hr : Rm k A) {i : Nat} (hi : i < 8) {H : Hp} {Q : VK} {W : XK} (q : Q .non H) (hk : 3 ≤ k := by decide) : vCall ⟨P, w, K, mg, base, A⟩ (.ref D.a_check_wish) [.str (wishAt i)] W H Q :=
  call_z hr (ok_check_wish D) ⟨i, rfl, hi, q⟩ hk
theorem n_chkr (D : Wd P K mg) {A : Around} {k : Nat} (hr : Rm k A) {M : List Addr} {x : V} {n t u : Int} {H : Hp} {Q : VK} {W : XK} (h : Kd M K H x (rowD D.a_Row n t u)) (q : Q .non H) (hk : 1 ≤ k := by decide) : vCall ⟨P, w, K, mg, base, A⟩ (.ref D.a_check_row) [x] W H Q :=
  call_z hr (ok_check_row D) ⟨M, x, n, t, u, rfl, h, q⟩ hk
theorem n_range (D : Wd P K mg) {A : Around} {k : Nat} (hr : Rm k A) {M : List Addr} {i : Nat} (hi : i < 8) {x : V} {n t u : Int} {H : Hp} {Q : VK} {W : XK} (al : Al M H) (h : Kd M K H x (rowD D.a_Row n t u)) (q : ∀ v H', Lk [] H H' → Kd M K H' v (rangeD i t u) → Q v H') (hk : 3 ≤ k := by decide) : vCall ⟨P, w, K, mg, base, A⟩ (.ref D.a_wished_range) [.str (wishAt i), x] W H Q :=
  call_z hr (ok_wished_range D) ⟨M, i, x, n, t, u, rfl, hi, al, h, q⟩ hk
def spIsRight (K : PySem.W.Frag) (C : Addr) : Sp := fun vs H Q _ => ∃ M i x n t u y d, vs = [.str (wishAt i), x, y] ∧ i < 8 ∧ Al M H ∧ Kd M K H x (rowD C n t u) ∧ Kd M K H y d ∧ isPl d = true ∧ ∀ H', Lk [] H H' → Q (.bl (rightAt i t u d)) H'
theorem r_is_right (D : Wd P K mg) (A : Around) (E : XK) (hr : Rm 3 A) (vs : List V) (H : Hp) (Q : VK) (h : spIsRight K D.a_Row vs H Q E) :
    t_is_right D ⟨P, w, K, mg, base, A⟩ (fun cls d _ H => E cls d H) { nx := fun _ H' => Q .non H', rt := Q } (start ["wish", "row", "result", "wished"] vs) H := by
  obtain ⟨M, i, x, n, t, u, y, d, rfl, hi, al, hx, hy, p, q⟩ := h
  refine n_chkw D hr hi ?_
  refine n_chkr D hr hx ?_
  refine n_range D hr hi al hx fun v H1 l1 hv => ?_
  refine k_isNon hv ?_
  cases e : rangeAt i t u with
  | none =>
    have e1 : rangeD i t u = .none := by simp [rangeD, e]
    have e2 : rightAt i t u d = isNonD d := by simp [rightAt, e]
    rw [e1]
    refine byb_t ?_
    refine k_isNon (M := M) (d := d) (by keq_rows) ?_
    rw [← e2]
    exact q _ l1
  | some ab =>
    obtain ⟨a, b⟩ := ab
    have e1 : rangeD i t u = .tuple [.int a, .int b] := by simp [rangeD, e]
    rw [e1] at hv ⊢
    refine byb_f ?_
    refine n_isint D hr (M := M) (d := d) (by keq_rows) p ?_
    kas_types
    cases hy with
    | int g =>
      have e2 : rightAt i t u (.int g) = (decide (a ≤ g) && decide (g ≤ b)) := by simp [rightAt, e]
      rw [e2] at q
      kcf_all
      refine byb_d (fun c => ?_) (fun c => ?_)
      · rw [decide_eq_true c, Bool.true_and] at q
        kcf_all
        exact q _ l1
      · rw [decide_eq_false c, Bool.false_and] at q
        exact q _ l1
    | _ =>
      simp only [rightAt, e] at q
      exact q _ l1
theorem okb_is_right (D : Wd P K mg) : FnB P w K mg base 4 D.a_is_right D.fd_is_right ["wish", "row", "result"] (spIsRight K D.a_Row) :=
  fn_b D.F_is_right sc_is_right (t_is_right D) (by kbo_bools) (fun cdv A outer s H E o tk => d_is_right D cdv A outer s H E _ o tk) (fun A E hr vs H Q h => r_is_right D A E hr vs H Q h)
theorem ok_is_right (D : Wd P K mg) : FnZ P w K mg base 4 D.a_is_right (spIsRight K D.a_Row) := (okb_is_right D).z0 D.B_is_right (by kbo_bools)
theorem n_right (D : Wd P K mg) {A : Around} {k : Nat} (hr : Rm k A) {M : List Addr} {i : Nat} (hi : i < 8) {x y : V} {n t u : Int} {d : PyData} {H : Hp} {Q : VK} {W : XK} (al : Al M H) (h : Kd M K H x (rowD D.a_Row n t u)) (hy : Kd M K H y d) (p : isPl d = true) (q : ∀ H', Lk [] H H' → Q (.bl (rightAt i t u d)) H') (hk : 4 ≤ k := by decide) :
    vCall ⟨P, w, K, mg, base, A⟩ (.ref D.a_is_right) [.str (wishAt i), x, y] W H Q := call_z hr (ok_is_right D) ⟨M, i, x, n, t, u, y, d, rfl, hi, al, h, hy, p, q⟩ hk
/-- the wishes for which it is right -/
def duesUpTo (k : Nat) (t u : Int) (d : PyData) : List PyData := ((List.range k).filter fun i => rightAt i t u d).map fun i => .str (wishAt i)
theorem dues_succ (k : Nat) (t u : Int) (d : PyData) : duesUpTo (k + 1) t u d = duesUpTo k t u d ++ (if rightAt k t u d then [.str (wishAt k)] else []) := by
  unfold duesUpTo
  rw [List.range_succ, List.filter_append, List.map_append]
  congr 1
  by_cases c : rightAt k t u d = true <;> simp [c]
theorem dues_len (k : Nat) (t u : Int) (d : PyData) : (duesUpTo k t u d).length ≤ k := by
  unfold duesUpTo
  rw [List.length_map]
  exact Nat.le_trans (List.length_filter_le _ _) (by rw [List.length_range]; exact Nat.le_refl _)
theorem wish_get {i : Nat} {d : PyData} (h : wishesD[i]? = some d) : i < 8 ∧ d = .str (wishAt i) := by
  have : i < 8 := by
    have := (List.getElem?_eq_some_iff.mp h).1
    simpa [wishesD] using this
  refine ⟨this, ?_⟩
  rcases eight this with rfl | rfl | rfl | rfl | rfl | rfl | rfl | rfl <;> (cases h; rfl)
def spWishesOf (K : PySem.W.Frag) (C : Addr) : Sp := fun vs H Q _ => ∃ M x n t u y d, vs = [x, y] ∧ Al M H ∧ Kd M K H x (rowD C n t u) ∧ Kd M K H y d ∧ isPl d = true ∧ ∀ v H', Lk [] H H' → Kd M K H' v (.tuple (duesUpTo 8 t u d)) → Q v H'
theorem r_wishes_of (D : Wd P K mg) (A : Around) (E : XK) (hr : Rm 4 A) (vs : List V) (H : Hp) (Q : VK) (h : spWishesOf K D.a_Row vs H Q E) :
    t_wishes_of D ⟨P, w, K, mg, base, A⟩ (fun cls d _ H => E cls d H) { nx := fun _ H' => Q .non H', rt := Q } (start ["row", "result", "wish"] vs) H := by
  obtain ⟨M, x, n, t, u, y, d, rfl, al, hx, hy, p, q⟩ := h
  refine n_chkr D hr hx ?_
  refine k_lcT (M := M) [] (fun p i es H1 => es = duesUpTo i t u d) (by k_clsL) al (D.con_WISHES M H) (by decide) (fun _ _ _ _ _ => rfl) ?_ ?_
  · intro p i dw vw es H1 Next hi np nm l1 mk hw pv le nx
    subst pv
    obtain ⟨hi8, rfl⟩ := wish_get hi
    cases hw
    refine ⟨rfl, ?_⟩
    refine n_right D hr hi8 (M := p :: M) mk.al (by keq_rows) (by keq_rows) ‹_› fun H2 l2 => ?_
    kas_types
    have e := dues_succ i t u d
    cases c : rightAt i t u d with
    | true =>
      rw [c, if_pos rfl] at e
      refine byb_t ?_
      refine mk.put (N := []) (by lcg_sub) (by k_clsL) (by o_fieldsN) (.str _) (by have := dues_len i t u d; omega) fun H3 l3 mk3 => ?_
      rw [← e] at mk3
      exact nx _ H3 (by lcg_sub) mk3 rfl (dues_len _ _ _ _)
    | false =>
      rw [c, if_neg (by decide), List.append_nil] at e
      refine byb_f ?_
      exact nx _ H2 (by lcg_sub) (mk.go l2 (by k_clsL) (by o_fieldsN)) e.symm (Nat.le_succ_of_le (dues_len _ _ _ _))
  · intro p es H1 np l1 kl e
    subst e
    refine k_tupleL (M := M) (by kp_flats) kl fun p2 H2 np2 l2 kt => ?_
    exact q _ H2 (by lcg_sub) kt
theorem okb_wishes_of (D : Wd P K mg) : FnB P w K mg base 5 D.a_wishes_of D.fd_wishes_of ["row", "result"] (spWishesOf K D.a_Row) :=
  fn_b D.F_wishes_of sc_wishes_of (t_wishes_of D) (by kbo_bools) (fun cdv A outer s H E o tk => d_wishes_of D cdv A outer s H E _ o tk) (fun A E hr vs H Q h => r_wishes_of D A E hr vs H Q h)
theorem ok_wishes_of (D : Wd P K mg) : FnZ P w K mg base 5 D.a_wishes_of (spWishesOf K D.a_Row) := (okb_wishes_of D).z0 D.B_wishes_of (by kbo_bools)
end
end Pf

namespace Pf
open PySem PySem.Spec PyProof.Rows L2 RZ Z ZE
local macro_rules | `(tactic| tb_rel) => `(tactic| first
  | (refine vOp_id ?_; first | (with_reducible refine e_add ?_) | (with_reducible refine e_sub ?_) | (with_reducible refine e_lt ?_) | (with_reducible refine e_le ?_) | (with_reducible refine e_gt ?_) | (with_reducible refine e_ge ?_) | (with_reducible refine e_eqI ?_) | (with_reducible refine e_neI ?_) | (with_reducible refine e_iadd ?_))
  | refine e_truB ?_
  | (refine vCB_id ?_; first | (with_reducible refine e_int ?_) | (with_reducible refine e_max ?_) | (with_reducible refine e_min ?_) | (with_reducible refine e_abs ?_))
  | (refine vUn_id ?_; with_reducible refine e_neg ?_))
local macro_rules | `(tactic| kbo_bools) => `(tactic| (intro vs H Q E h; repeat (first | (obtain ⟨e, _⟩ := h; (subst e; rfl)) | (obtain ⟨_, h⟩ := h))))
local macro_rules | `(tactic| k_subL) => `(tactic| first | assumption | exact List.mem_cons_self | exact Stk.mem (by assumption) | (apply List.mem_cons_of_mem; k_subL))
local macro_rules | `(tactic| k_clsL) => `(tactic| first | exact List.nil_subset _ | assumption | exact List.Subset.refl _ | (refine List.cons_subset.mpr ⟨by k_subL, ?_⟩; k_clsL))
local macro_rules | `(tactic| tlg_ne) => `(tactic| first | assumption | exact Ne.symm (by assumption) | (apply Stk.ne; assumption; lsm_bools))
local macro_rules | `(tactic| o_fieldsN) => `(tactic| first | exact List.not_mem_nil | assumption | (refine nm_cons (by tlg_ne) ?_; o_fieldsN))
local macro_rules | `(tactic| lsm_bools) => `(tactic| first | assumption | (apply Stk.go; assumption; lsm_bools; k_clsL; o_fieldsN) | (apply Stk.goN; assumption; assumption; ktu_offL; kp_flats; k_clsL; o_fieldsN))
local macro_rules | `(tactic| ktu_offL) => `(tactic| first | assumption | (apply Stk.go; assumption; ktu_offL; k_clsL; o_fieldsN))
local macro_rules | `(tactic| kp_flats) => `(tactic| first | assumption | exact Mk1.al (by assumption) | exact Stk.al (by assumption) | (apply Al.go; assumption; kp_flats) | exact Al.nil)
local macro_rules | `(tactic| ktu_offI) => `(tactic| first | assumption | (apply Mk1.go; assumption; ktu_offI; k_clsL; o_fieldsN))
local macro_rules | `(tactic| lcg_sub) => `(tactic| first | assumption | exact Lk.refl | (apply Lk.go; assumption; lcg_sub; k_clsL))
local macro_rules | `(tactic| keq_rows) => `(tactic| first | exact .int _ | exact .str _ | exact .bl _ | exact .non | assumption | (apply Kd.go; assumption; keq_rows; k_clsL) | (apply Kd.goN; assumption; got_up))
local macro_rules | `(tactic| got_up) => `(tactic| first | assumption | (apply Kd.go; assumption; got_up; k_clsL) | (apply Kd.goN; assumption; l_intsC))
local macro_rules | `(tactic| l_intsC) => `(tactic| first | assumption | (apply Kd.go; assumption; l_intsC; k_clsL))
local macro_rules | `(tactic| lcg_src) => `(tactic| first | exact KdL.nil | (apply KdL.cons; keq_rows; lcg_src))
local macro_rules | `(tactic| kat_tups) => `(tactic| first | exact Kd.str (M := []) _ | exact Kd.int (M := []) _ | exact Kd.bl (M := []) _ | exact Kd.non (M := []) | keq_rows)
local macro_rules | `(tactic| kct_strs) => `(tactic| first | decide +kernel | assumption | simp [okD, PyData.canLay0, PyData.canLayAll0, PyData.depth, PyData.depthAll] | simp [okD, PyData.canLay0, PyData.canLayAll0, PyData.depth, PyData.depthAll, *])
local macro_rules | `(tactic| top_caught) => `(tactic| (refine vOp_id ?_; first
  | (with_reducible refine opEq_id ?_; first | refine k_eqo (r := true) (Rm.units' (by assumption)) (by kat_tups) (by kat_tups) (by kct_strs) (by kct_strs) (by decide +kernel) ?_ | refine k_eqo (r := false) (Rm.units' (by assumption)) (by kat_tups) (by kat_tups) (by kct_strs) (by kct_strs) (by decide +kernel) ?_)
  | (with_reducible refine opNotEq_id ?_; first | refine k_neo (r := true) (Rm.units' (by assumption)) (by kat_tups) (by kat_tups) (by kct_strs) (by kct_strs) (by decide +kernel) ?_ | refine k_neo (r := false) (Rm.units' (by assumption)) (by kat_tups) (by kat_tups) (by kct_strs) (by kct_strs) (by decide +kernel) ?_)
  | (with_reducible refine opIn_id ?_; first | refine k_inL2 (r := true) (Rm.units' (by assumption)) (by kat_tups) (by kat_tups) (by kct_strs) (by kct_strs) (by decide +kernel) ?_ | refine k_inL2 (r := false) (Rm.units' (by assumption)) (by kat_tups) (by kat_tups) (by kct_strs) (by kct_strs) (by decide +kernel) ?_ | refine k_inT2 (r := true) (Rm.units' (by assumption)) (by kat_tups) (by kat_tups) (by kct_strs) (by kct_strs) (by decide +kernel) ?_ | refine k_inT2 (r := false) (Rm.units' (by assumption)) (by kat_tups) (by kat_tups) (by kct_strs) (by kct_strs) (by decide +kernel) ?_)
  | (with_reducible refine opNotIn_id ?_; first | refine k_ninL2 (r := true) (Rm.units' (by assumption)) (by kat_tups) (by kat_tups) (by kct_strs) (by kct_strs) (by decide +kernel) ?_ | refine k_ninL2 (r := false) (Rm.units' (by assumption)) (by kat_tups) (by kat_tups) (by kct_strs) (by kct_strs) (by decide +kernel) ?_ | refine k_ninT2 (r := true) (Rm.units' (by assumption)) (by kat_tups) (by kat_tups) (by kct_strs) (by kct_strs) (by decide +kernel) ?_ | refine k_ninT2 (r := false) (Rm.units' (by assumption)) (by kat_tups) (by kat_tups) (by kct_strs) (by kct_strs) (by decide +kernel) ?_)))
local macro_rules | `(tactic| tb_start) => `(tactic| first
  | (refine byb_id ?_; first | refine byb_t ?_ | refine byb_f ?_) | tb_rel
  | (refine vIx_id ?_; first | refine k_ixT (by keq_rows) (by rfl) ?_ | refine k_ixL (by keq_rows) (by rfl) ?_)
  | refine k_dic (Wd.ki (by assumption)) (by kp_flats) fun _ _ _ _ _ => ?_
  | (refine vOp_id ?_; with_reducible refine opIs_id ?_; first | (with_reducible refine e_isBl ?_) | refine k_isNon (by keq_rows) ?_ | refine e_isN ?_)
  | (refine vOp_id ?_; with_reducible refine opIsNot_id ?_; first | (with_reducible refine e_isnotBl ?_) | refine k_notNon (by keq_rows) ?_ | refine e_notN ?_)
  | (refine vTup_id ?_; refine k_tup (Wd.ki (by assumption)) (by kp_flats) (by lcg_src) (by rfl) fun _ _ _ _ _ => ?_)
  | (refine vLst_id ?_; refine k_lst (Wd.ki (by assumption)) (by kp_flats) (by lcg_src) (by rfl) fun _ _ _ _ _ => ?_)
  | (refine vUnp_id ?_; refine k_unp (by keq_rows) (by rfl) ?_)
  | refine kAll.mk fun _ _ => ?_
  | (refine vCB_id ?_; first | refine k_lenT (by keq_rows) ?_ | refine k_lenL (by keq_rows) ?_))
local macro_rules | `(tactic| kcf_all) => `(tactic| repeat tb_start)
local macro_rules | `(tactic| kcj_in) => `(tactic| repeat (first | tb_start | top_caught))
local macro_rules | `(tactic| kas_types) => `(tactic| repeat tb_rel)
section
variable {P : Program} {w : World} {K : PySem.W.Frag} {mg : Str → Option Value} {base : Heap}
theorem dec_and {a b c : Prop} [Decidable a] [Decidable b] [Decidable c] (h : a ∧ b ↔ c) : (decide a && decide b) = decide c := by
  rw [← Bool.decide_and, decide_eq_decide]; exact h
def spLRight (K : PySem.W.Frag) : Sp := fun vs H Q _ => ∃ M i x n t u y d, vs = [.str (wishAt i), x, y] ∧ i < 8 ∧ Al M H ∧ Kd M K H x (.tuple [.int n, .int t, .int u]) ∧ Kd M K H y d ∧ (d = .none ∨ ∃ g, d = .int g) ∧ ∀ H', Lk [] H H' → Q (.bl (rightAt i t u d)) H'
theorem r__law_right (D : Wd P K mg) (A : Around) (E : XK) (hr : Rm 0 A) (vs : List V) (H : Hp) (Q : VK) (h : spLRight K vs H Q E) :
    t__law_right D ⟨P, w, K, mg, base, A⟩ (fun cls d _ H => E cls d H) { nx := fun _ H' => Q .non H', rt := Q } (start ["_law_hope", "_law_placed", "_law_gained", "_law_n", "_law_t", "_law_u", "_law_wanted"] vs) H := by
  obtain ⟨M, i, x, n, t, u, y, d, rfl, hi, al, hx, hy, hd, q⟩ := h
  rcases hd with rfl | ⟨g, rfl⟩
  · cases hy
    rcases eight hi with rfl | rfl | rfl | rfl | rfl | rfl | rfl | rfl
    all_goals kcj_in
    · exact q _ (by lcg_sub)
    · exact q _ (by lcg_sub)
    · exact q _ (by lcg_sub)
    · exact q _ (by lcg_sub)
    · exact q _ (by lcg_sub)
    all_goals
      by_cases c : t = u
      · simp only [rightAt, rangeAt, if_pos c] at q
        rw [decide_eq_true c]
        kcj_in
        exact q _ (by lcg_sub)
      · simp only [rightAt, rangeAt, if_neg c] at q
        rw [decide_eq_false c]
        kcj_in
        exact q _ (by lcg_sub)
  · cases hy
    rcases eight hi with rfl | rfl | rfl | rfl | rfl | rfl | rfl | rfl
    all_goals kcj_in
    · refine n_disp0 fun p H1 np l1 hp => ?_
      kcj_in
      refine n_dispA hp rfl rfl fun H2 l2 h2 => ?_
      refine e_ixD hr.units' h2 (k := .inr "first") rfl (v := .int t) (by kernel_rfl) ?_
      kas_types
      rw [← dec_and (a := t ≤ g) (b := g ≤ t) (by omega)]
      exact q _ (Lk.less (p := p) (by lcg_sub) (Lk.free (N := []) (by lcg_sub) np))
    · refine n_disp0 fun p H1 np l1 hp => ?_
      kcj_in
      refine n_dispA hp rfl rfl fun H2 l2 h2 => ?_
      refine e_ixD hr.units' h2 (k := .inr "after") rfl (v := .int u) (by kernel_rfl) ?_
      kas_types
      rw [← dec_and (a := u ≤ g) (b := g ≤ u) (by omega)]
      exact q _ (Lk.less (p := p) (by lcg_sub) (Lk.free (N := []) (by lcg_sub) np))
    · refine n_disp0 fun p H1 np l1 hp => ?_
      kcj_in
      refine n_dispA hp rfl rfl fun H2 l2 h2 => ?_
      refine e_ixD hr.units' h2 (k := .inr "before") rfl (v := .int (t - 1)) (by kernel_rfl) ?_
      kas_types
      rw [← dec_and (a := t - 1 ≤ g) (b := g ≤ t - 1) (by omega)]
      exact q _ (Lk.less (p := p) (by lcg_sub) (Lk.free (N := []) (by lcg_sub) np))
    · refine n_disp0 fun p H1 np l1 hp => ?_
      kcj_in
      refine n_dispA hp rfl rfl fun H2 l2 h2 => ?_
      refine e_ixD hr.units' h2 (k := .inr "last") rfl (v := .int (u - 1)) (by kernel_rfl) ?_
      kas_types
      rw [← dec_and (a := u - 1 ≤ g) (b := g ≤ u - 1) (by omega)]
      exact q _ (Lk.less (p := p) (by lcg_sub) (Lk.free (N := []) (by lcg_sub) np))
    · refine byb_d (fun c => ?_) (fun c => ?_)
      · kcj_in
        have e : rightAt 4 t u (.int g) = decide (g ≤ u) := by simp [rightAt, rangeAt, c]
        rw [← e]
        exact q _ (by lcg_sub)
      · have e : rightAt 4 t u (.int g) = false := by simp [rightAt, rangeAt, c]
        rw [e] at q
        exact q _ (by lcg_sub)
    · by_cases c : t = u
      · simp only [rightAt, rangeAt, if_pos c] at q
        rw [decide_eq_true c]
        kcj_in
        exact q _ (by lcg_sub)
      · simp only [rightAt, rangeAt, if_neg c] at q
        rw [decide_eq_false c]
        kcj_in
        refine n_disp0 fun p H1 np l1 hp => ?_
        kcj_in
        refine n_dispA hp rfl rfl fun H2 l2 h2 => ?_
        refine e_ixD hr.units' h2 (k := .inr "first equal") rfl (v := .int t) (by kernel_rfl) ?_
        kas_types
        rw [← dec_and (a := t ≤ g) (b := g ≤ t) (by omega)]
        exact q _ (Lk.less (p := p) (by lcg_sub) (Lk.free (N := []) (by lcg_sub) np))
    · by_cases c : t = u
      · simp only [rightAt, rangeAt, if_pos c] at q
        rw [decide_eq_true c]
        kcj_in
        exact q _ (by lcg_sub)
      · simp only [rightAt, rangeAt, if_neg c] at q
        rw [decide_eq_false c]
        kcj_in
        refine n_disp0 fun p H1 np l1 hp => ?_
        kcj_in
        refine n_dispA hp rfl rfl fun H2 l2 h2 => ?_
        refine e_ixD hr.units' h2 (k := .inr "last equal") rfl (v := .int (u - 1)) (by kernel_rfl) ?_
        kas_types
        rw [← dec_and (a := u - 1 ≤ g) (b := g ≤ u - 1) (by omega)]
        exact q _ (Lk.less (p := p) (by lcg_sub) (Lk.free (N := []) (by lcg_sub) np))
    · by_cases c : t = u
      · simp only [rightAt, rangeAt, if_pos c] at q
        rw [decide_eq_true c]
        kcj_in
        exact q _ (by lcg_sub)
      · simp only [rightAt, rangeAt, if_neg c] at q
        rw [decide_eq_false c]
        kcj_in
        refine byb_d (fun c2 => ?_) (fun c2 => ?_)
        · kcj_in
          have e : (decide (t ≤ g) && decide (g ≤ u - 1)) = decide (g < u) := by
            rw [decide_eq_true c2, Bool.true_and, decide_eq_decide]; omega
          rw [← e]
          exact q _ (by lcg_sub)
        · rw [decide_eq_false c2, Bool.false_and] at q
          exact q _ (by lcg_sub)
theorem okb__law_right (D : Wd P K mg) : FnB P w K mg base 1 D.a__law_right D.fd__law_right ["_law_hope", "_law_placed", "_law_gained"] (spLRight K) :=
  fn_b D.F__law_right sc__law_right (t__law_right D) (by kbo_bools) (fun cdv A outer s H E o tk => d__law_right D cdv A outer s H E _ o tk) (fun A E hr vs H Q h => r__law_right D A E hr vs H Q h)
theorem ok__law_right (D : Wd P K mg) : FnZ P w K mg base 1 D.a__law_right (spLRight K) := (okb__law_right D).z0 D.B__law_right (by kbo_bools)
def spWishes (K : PySem.W.Frag) : Sp := fun vs H Q _ => ∃ M, vs = [] ∧ Al M H ∧ ∀ p H', H p = none → Lk [] H H' → Kd M K H' (.ref p) (.list wishesD) → Q (.ref p) H'
theorem r__law_wishes (D : Wd P K mg) (A : Around) (E : XK) (hr : Rm 0 A) (vs : List V) (H : Hp) (Q : VK) (h : spWishes K vs H Q E) :
    t__law_wishes D ⟨P, w, K, mg, base, A⟩ (fun cls d _ H => E cls d H) { nx := fun _ H' => Q .non H', rt := Q } (start [] vs) H := by
  obtain ⟨M, rfl, al, q⟩ := h
  refine k_lst (M := M) (Wd.ki D) (by kp_flats) (by lcg_src) (by rfl) fun p H1 np l1 k1 => ?_
  exact q p H1 np l1 k1
theorem okb__law_wishes (D : Wd P K mg) : FnB P w K mg base 1 D.a__law_wishes D.fd__law_wishes [] (spWishes K) :=
  fn_b D.F__law_wishes sc__law_wishes (t__law_wishes D) (by kbo_bools) (fun cdv A outer s H E o tk => d__law_wishes D cdv A outer s H E _ o tk) (fun A E hr vs H Q h => r__law_wishes D A E hr vs H Q h)
theorem ok__law_wishes (D : Wd P K mg) : FnZ P w K mg base 1 D.a__law_wishes (spWishes K) := (okb__law_wishes D).z0 D.B__law_wishes (by kbo_bools)
theorem n_wishes (D : Wd P K mg) {A : Around} {k : Nat} (hr : Rm k A) {M : List Addr} {H : Hp} {Q : VK} {W : XK} (al : Al M H) (q : ∀ p H', H p = none → Lk [] H H' → Kd M K H' (.ref p) (.list wishesD) → Q (.ref p) H') (hk : 1 ≤ k := by decide) : vCall ⟨P, w, K, mg, base, A⟩ (.ref D.a__law_wishes) [] W H Q :=
  call_z hr (ok__law_wishes D) ⟨M, rfl, al, q⟩ hk
end
end Pf

namespace Pf
open PySem PySem.Spec PyProof.Rows L2 RZ Z ZE
local macro_rules | `(tactic| tb_rel) => `(tactic| first
  | (refine vOp_id ?_; first | (with_reducible refine e_add ?_) | (with_reducible refine e_sub ?_) | (with_reducible refine e_lt ?_) | (with_reducible refine e_le ?_) | (with_reducible refine e_gt ?_) | (with_reducible refine e_ge ?_) | (with_reducible refine e_eqI ?_) | (with_reducible refine e_neI ?_) | (with_reducible refine e_iadd ?_))
  | refine e_truB ?_
  | (refine vCB_id ?_; first | (with_reducible refine e_int ?_) | (with_reducible refine e_max ?_) | (with_reducible refine e_min ?_) | (with_reducible refine e_abs ?_))
  | (refine vUn_id ?_; with_reducible refine e_neg ?_))
local macro_rules | `(tactic| kbo_bools) => `(tactic| (intro vs H Q E h; repeat (first | (obtain ⟨e, _⟩ := h; (subst e; rfl)) | (obtain ⟨_, h⟩ := h))))
local macro_rules | `(tactic| k_subL) => `(tactic| first | assumption | exact List.mem_cons_self | exact Stk.mem (by assumption) | (apply List.mem_cons_of_mem; k_subL))
local macro_rules | `(tactic| k_clsL) => `(tactic| first | exact List.nil_subset _ | assumption | exact List.Subset.refl _ | (refine List.cons_subset.mpr ⟨by k_subL, ?_⟩; k_clsL))
local macro_rules | `(tactic| tlg_ne) => `(tactic| first | assumption | exact Ne.symm (by assumption) | (apply Stk.ne; assumption; lsm_bools))
local macro_rules | `(tactic| o_fieldsN) => `(tactic| first | exact List.not_mem_nil | assumption | (refine nm_cons (by tlg_ne) ?_; o_fieldsN))
local macro_rules | `(tactic| lsm_bools) => `(tactic| first | assumption | (apply Stk.go; assumption; lsm_bools; k_clsL; o_fieldsN) | (apply Stk.goN; assumption; assumption; ktu_offL; kp_flats; k_clsL; o_fieldsN))
local macro_rules | `(tactic| ktu_offL) => `(tactic| first | assumption | (apply Stk.go; assumption; ktu_offL; k_clsL; o_fieldsN))
local macro_rules | `(tactic| kp_flats) => `(tactic| first | assumption | exact Mk1.al (by assumption) | exact Stk.al (by assumption) | (apply Al.go; assumption; kp_flats) | exact Al.nil)
local macro_rules | `(tactic| ktu_offI) => `(tactic| first | assumption | (apply Mk1.go; assumption; ktu_offI; k_clsL; o_fieldsN))
local macro_rules | `(tactic| lcg_sub) => `(tactic| first | assumption | exact Lk.refl | (apply Lk.go; assumption; lcg_sub; k_clsL))
local macro_rules | `(tactic| keq_rows) => `(tactic| first | exact .int _ | exact .str _ | exact .bl _ | exact .non | assumption | (apply Kd.go; assumption; keq_rows; k_clsL) | (apply Kd.goN; assumption; got_up))
local macro_rules | `(tactic| got_up) => `(tactic| first | assumption | (apply Kd.go; assumption; got_up; k_clsL) | (apply Kd.goN; assumption; l_intsC))
local macro_rules | `(tactic| l_intsC) => `(tactic| first | assumption | (apply Kd.go; assumption; l_intsC; k_clsL))
local macro_rules | `(tactic| lcg_src) => `(tactic| first | exact KdL.nil | (apply KdL.cons; keq_rows; lcg_src))
local macro_rules | `(tactic| kat_tups) => `(tactic| first | exact Kd.str (M := []) _ | exact Kd.int (M := []) _ | exact Kd.bl (M := []) _ | exact Kd.non (M := []) | keq_rows)
local macro_rules | `(tactic| kct_strs) => `(tactic| first | decide +kernel | assumption | simp [okD, PyData.canLay0, PyData.canLayAll0, PyData.depth, PyData.depthAll] | simp [okD, PyData.canLay0, PyData.canLayAll0, PyData.depth, PyData.depthAll, *])
local macro_rules | `(tactic| top_caught) => `(tactic| (refine vOp_id ?_; first
  | (with_reducible refine opEq_id ?_; first | refine k_eqo (r := true) (Rm.units' (by assumption)) (by kat_tups) (by kat_tups) (by kct_strs) (by kct_strs) (by decide +kernel) ?_ | refine k_eqo (r := false) (Rm.units' (by assumption)) (by kat_tups) (by kat_tups) (by kct_strs) (by kct_strs) (by decide +kernel) ?_)
  | (with_reducible refine opNotEq_id ?_; first | refine k_neo (r := true) (Rm.units' (by assumption)) (by kat_tups) (by kat_tups) (by kct_strs) (by kct_strs) (by decide +kernel) ?_ | refine k_neo (r := false) (Rm.units' (by assumption)) (by kat_tups) (by kat_tups) (by kct_strs) (by kct_strs) (by decide +kernel) ?_)
  | (with_reducible refine opIn_id ?_; first | refine k_inL2 (r := true) (Rm.units' (by assumption)) (by kat_tups) (by kat_tups) (by kct_strs) (by kct_strs) (by decide +kernel) ?_ | refine k_inL2 (r := false) (Rm.units' (by assumption)) (by kat_tups) (by kat_tups) (by kct_strs) (by kct_strs) (by decide +kernel) ?_ | refine k_inT2 (r := true) (Rm.units' (by assumption)) (by kat_tups) (by kat_tups) (by kct_strs) (by kct_strs) (by decide +kernel) ?_ | refine k_inT2 (r := false) (Rm.units' (by assumption)) (by kat_tups) (by kat_tups) (by kct_strs) (by kct_strs) (by decide +kernel) ?_)
  | (with_reducible refine opNotIn_id ?_; first | refine k_ninL2 (r := true) (Rm.units' (by assumption)) (by kat_tups) (by kat_tups) (by kct_strs) (by kct_strs) (by decide +kernel) ?_ | refine k_ninL2 (r := false) (Rm.units' (by assumption)) (by kat_tups) (by kat_tups) (by kct_strs) (by kct_strs) (by decide +kernel) ?_ | refine k_ninT2 (r := true) (Rm.units' (by assumption)) (by kat_tups) (by kat_tups) (by kct_strs) (by kct_strs) (by decide +kernel) ?_ | refine k_ninT2 (r := false) (Rm.units' (by assumption)) (by kat_tups) (by kat_tups) (by kct_strs) (by kct_strs) (by decide +kernel) ?_)))
local macro_rules | `(tactic| tb_start) => `(tactic| first
  | (refine byb_id ?_; first | refine byb_t ?_ | refine byb_f ?_) | tb_rel
  | (refine vIx_id ?_; first | refine k_ixT (by keq_rows) (by rfl) ?_ | refine k_ixL (by keq_rows) (by rfl) ?_)
  | refine k_dic (Wd.ki (by assumption)) (by kp_flats) fun _ _ _ _ _ => ?_
  | (refine vOp_id ?_; with_reducible refine opIs_id ?_; first | (with_reducible refine e_isBl ?_) | refine k_isNon (by keq_rows) ?_ | refine e_isN ?_)
  | (refine vOp_id ?_; with_reducible refine opIsNot_id ?_; first | (with_reducible refine e_isnotBl ?_) | refine k_notNon (by keq_rows) ?_ | refine e_notN ?_)
  | (refine vTup_id ?_; refine k_tup (Wd.ki (by assumption)) (by kp_flats) (by lcg_src) (by rfl) fun _ _ _ _ _ => ?_)
  | (refine vLst_id ?_; refine k_lst (Wd.ki (by assumption)) (by kp_flats) (by lcg_src) (by rfl) fun _ _ _ _ _ => ?_)
  | (refine vUnp_id ?_; refine k_unp (by keq_rows) (by rfl) ?_)
  | refine kAll.mk fun _ _ => ?_
  | (refine vCB_id ?_; first | refine k_lenT (by keq_rows) ?_ | refine k_lenL (by keq_rows) ?_))
local macro_rules | `(tactic| kcf_all) => `(tactic| repeat tb_start)
local macro_rules | `(tactic| kcj_in) => `(tactic| repeat (first | tb_start | top_caught))
local macro_rules | `(tactic| kas_types) => `(tactic| repeat tb_rel)
section
variable {P : Program} {w : World} {K : PySem.W.Frag} {mg : Str → Option Value} {base : Heap}
/-- a triple that is a row -/
def TriD (d : PyData) : Prop := ∃ n t u : Int, d = .tuple [.int n, .int t, .int u] ∧ 0 ≤ t ∧ t ≤ u ∧ u ≤ n ∧ n < 10 ^ 50
def spRowsD (K : PySem.W.Frag) : Sp := fun vs H Q _ => ∃ M n, vs = [.int n] ∧ 0 ≤ n ∧ n ≤ 10 ∧ Al M H ∧ ∀ p H' ds, H p = none → Lk [] H H' → Kd M K H' (.ref p) (.list ds) → (∀ d ∈ ds, TriD d) → ds.length ≤ 200 → Q (.ref p) H'
theorem r__law_rows (D : Wd P K mg) (A : Around) (E : XK) (hr : Rm 0 A) (vs : List V) (H : Hp) (Q : VK) (h : spRowsD K vs H Q E) :
    t__law_rows D ⟨P, w, K, mg, base, A⟩ (fun cls d _ H => E cls d H) { nx := fun _ H' => Q .non H', rt := Q } (start ["_law_size", "_law_found", "_law_t", "_law_u"] vs) H := by
  obtain ⟨M, n, rfl, h0, h1, al, k⟩ := h
  refine k_lst (M := M) (Wd.ki D) (by kp_flats) (by lcg_src) (by rfl) fun p H1 np l1 k1 => ?_
  kas_types
  refine n_forR1 (fun i σ H' => ∃ (q : Addr) (ds : List PyData) (v v' : Option V), σ = [some (.int n), some (.ref q), v, v'] ∧ H q = none ∧ Lk [] H H' ∧ Kd M K H' (.ref q) (.list ds) ∧ (∀ d ∈ ds, TriD d) ∧ ds.length ≤ i * 11) (by omega) (by omega) ⟨p, [], none, none, rfl, np, l1, k1, by intro d hd; simp at hd, by simp⟩ ?_ ?_
  · rintro i σ H2 hi ⟨q, ds, v, v', rfl, nq, l2, kq, hd, hl⟩
    kas_types
    refine k_lcR2 (M := M) (K := K) [] (fun _ i es _ => (∀ d ∈ es, TriD d) ∧ es.length ≤ i) (by k_clsL) (by kp_flats) (by omega) (by omega) (fun _ _ _ _ _ => ⟨by intro d hd; simp at hd, by simp⟩) ?_ ?_
    · rintro p c es H3 Next hc np nm l3 mk ⟨hz, hz2⟩ le nx
      refine ⟨rfl, ?_⟩
      refine k_tup (M := p :: M) (Wd.ki D) (by kp_flats) (by lcg_src) (by rfl) fun t H4 nt l4 k4 => ?_
      refine mk.put (N := []) (by lcg_sub) (by k_clsL) (by o_fieldsN) k4 (by omega) fun H5 l5 mk5 => ?_
      refine nx _ H5 (by lcg_sub) mk5 ⟨?_, by simp only [List.length_append, List.length_singleton]; omega⟩ (by simp only [List.length_append, List.length_singleton]; omega)
      intro d hd
      rcases List.mem_append.mp hd with hd | hd
      · exact hz d hd
      · rw [List.mem_singleton.mp hd]
        exact ⟨n, i, _, rfl, by omega, by omega, by omega, by omega⟩
    · rintro p es H3 np l3 ke ⟨hz, hz2⟩
      refine k_catL (M := M) (by kp_flats) (by keq_rows) ke (by omega) fun q2 H4 nq2 l4 k4 => ?_
      refine ⟨q2, ds ++ es, _, _, rfl, Lk.free (N := []) (by lcg_sub) nq2, by lcg_sub, k4, ?_, by rw [List.length_append]; omega⟩
      intro d hd'
      rcases List.mem_append.mp hd' with hd' | hd'
      · exact hd d hd'
      · exact hz d hd'
  · rintro σ H2 ⟨q, ds, v, v', rfl, nq, l2, kq, hd, hl⟩
    exact k q H2 ds nq l2 kq hd (by omega)
theorem okb__law_rows (D : Wd P K mg) : FnB P w K mg base 1 D.a__law_rows D.fd__law_rows ["_law_size"] (spRowsD K) :=
  fn_b D.F__law_rows sc__law_rows (t__law_rows D) (by kbo_bools) (fun cdv A outer s H E o tk => d__law_rows D cdv A outer s H E _ o tk) (fun A E hr vs H Q h => r__law_rows D A E hr vs H Q h)
theorem ok__law_rows (D : Wd P K mg) : FnZ P w K mg base 1 D.a__law_rows (spRowsD K) := (okb__law_rows D).z0 D.B__law_rows (by kbo_bools)

def spGreatD (K : PySem.W.Frag) : Sp := fun vs H Q _ => ∃ M s, vs = [.ref s] ∧ Stk M H s ∧ ∀ v H' d, Lk [s] H H' → Stk M H' s → Kd M K H' v d → TriD d → Q v H'
theorem e_powC {n : En} {H : Hp} {Q : VK} {i j c : Int} (h : CPow i j) (e : i ^ j.toNat = c) (q : Q (.int c) H) : vOp n (binaryOp .Pow) (.int i) (.int j) H Q := e_pow h (by rw [e]; exact q)
theorem pw10 {j : Int} (h0 : 0 ≤ j) (h1 : j ≤ 1000000) : CPow 10 j := ⟨h0, h1, by decide⟩
theorem r_great0 (D : Wd P K mg) (A : Around) (E : XK) (hr : Rm 1 A) (M : List Addr) (s : Addr) (n w0 : Int) (H : Hp) (Q : VK) (hs : Stk M H s) (hn : 1 ≤ n) (hN : n < 10 ^ 45) (k : ∀ v H' d, Lk [s] H H' → Stk M H' s → Kd M K H' v d → TriD d → Q v H') :
    t__law_great_k0 D ⟨P, w, K, mg, base, A⟩ (fun cls d _ H => E cls d H) { nx := fun _ H' => Q .non H', rt := Q } [some (.ref s), some (.int w0), some (.int n), none, none] H := by
  refine n_pick D hr hs (by omega) (by omega) fun a0 H1 ha0 ha1 l1 hs1 => ?_
  refine n_pick D hr hs1 (by omega) (by omega) fun a1 H2 ha2 ha3 l2 hs2 => ?_
  kas_types
  refine e_fdiv ⟨by omega, by omega⟩ ?_
  refine n_pick D hr hs2 (by omega) (by omega) fun a2 H3 ha4 ha5 l3 hs3 => ?_
  kas_types
  refine k_lst (M := M) (Wd.ki D) (by kp_flats) (by lcg_src) (by rfl) fun p H4 np l4 kp => ?_
  refine e_powC (c := 1000000) (pw10 (by decide) (by decide)) (by decide) ?_
  refine n_pick D hr (M := M) (by lsm_bools) (by omega) (by omega) fun a3 H5 ha6 ha7 l5 hs5 => ?_
  refine e_mul (.inr ⟨by omega, by omega⟩) ?_
  kas_types
  refine e_powC (c := 1000000) (pw10 (by decide) (by decide)) (by decide) ?_
  refine e_fdiv ⟨by omega, by omega⟩ ?_
  refine k_lst (M := M) (Wd.ki D) (by kp_flats) (by lcg_src) (by rfl) fun p2 H6 np2 l6 kp2 => ?_
  refine k_catL (M := M) (by kp_flats) (by keq_rows) (by keq_rows) (by simp) fun p3 H7 np3 l7 kp3 => ?_
  refine n_pick D hr (M := M) (by lsm_bools) (by omega) (by omega) fun i1 H8 hi0 hi1 l8 hs8 => ?_
  refine k_ixLa (M := M) (by keq_rows) hi0 (by simpa using hi1) fun d hd => ?_
  have : ∃ z, d = .int z := by
    simp only [List.cons_append, List.nil_append, List.mem_cons, List.not_mem_nil, or_false] at hd
    rcases hd with rfl | rfl | rfl | rfl <;> exact ⟨_, rfl⟩
  obtain ⟨z, rfl⟩ := this
  kas_types
  generalize ht : (if (if z < n then z else n) > 0 then (if z < n then z else n) else 0 : Int) = t
  have t0 : 0 ≤ t ∧ t ≤ n := by
    rw [← ht]
    split <;> split <;> omega
  refine n_pick D hr hs8 (by omega) (by omega) fun a4 H9 hb0 hb1 l9 hs9 => ?_
  kas_types
  refine n_pick D hr hs9 (by omega) (by omega) fun a5 H10 hc0 hc1 l10 hs10 => ?_
  kas_types
  refine e_fdiv ⟨by omega, by omega⟩ ?_
  refine k_lst (M := M) (Wd.ki D) (by kp_flats) (by lcg_src) (by rfl) fun p4 H11 np4 l11 kp4 => ?_
  refine n_pick D hr (M := M) (by lsm_bools) (by omega) (by omega) fun i2 H12 hi2 hi3 l12 hs12 => ?_
  refine k_ixLa (M := M) (by keq_rows) hi2 (by simpa using hi3) fun d hd => ?_
  have : ∃ z, d = .int z := by
    simp only [List.mem_cons, List.not_mem_nil, or_false] at hd
    rcases hd with rfl | rfl | rfl | rfl | rfl | rfl <;> exact ⟨_, rfl⟩
  obtain ⟨y, rfl⟩ := this
  kas_types
  refine k_tup (M := M) (Wd.ki D) (by kp_flats) (by lcg_src) (by rfl) fun p5 H13 np5 l13 k13 => ?_
  have sm : [s] ⊆ [s] := List.Subset.refl _
  refine k _ H13 _ (by lcg_sub) (by lsm_bools) k13 ⟨_, _, _, rfl, t0.1, ?_, ?_, by omega⟩
  · split <;> split <;> omega
  · split <;> split <;> omega
theorem r__law_great (D : Wd P K mg) (A : Around) (E : XK) (hr : Rm 1 A) (vs : List V) (H : Hp) (Q : VK) (h : spGreatD K vs H Q E) :
    t__law_great D ⟨P, w, K, mg, base, A⟩ (fun cls d _ H => E cls d H) { nx := fun _ H' => Q .non H', rt := Q } (start ["_law_store_here", "_law_way", "_law_n", "_law_some", "_law_t"] vs) H := by
  obtain ⟨M, s, rfl, hs, k⟩ := h
  refine n_pick D hr hs (by omega) (by omega) fun w0 H1 hw0 hw1 l1 hs1 => ?_
  refine e_powC (c := 1000000) (pw10 (by decide) (by decide)) (by decide) ?_
  refine e_powC (c := 1000000) (pw10 (by decide) (by decide)) (by decide) ?_
  refine k_lst (M := M) (Wd.ki D) (by kp_flats) (by lcg_src) (by rfl) fun p H2 np l2 kp => ?_
  refine k_ixLa (M := M) (by keq_rows) hw0 (by simpa using hw1) fun d hd => ?_
  have : ∃ m, d = .int m ∧ 60 ≤ m ∧ m ≤ 1000000 := by
    simp only [List.mem_cons, List.not_mem_nil, or_false] at hd
    rcases hd with rfl | rfl | rfl | rfl
    · exact ⟨60, rfl, by omega, by omega⟩
    · exact ⟨3000, rfl, by omega, by omega⟩
    · exact ⟨1000000, rfl, by omega, by omega⟩
    · exact ⟨1000000, rfl, by omega, by omega⟩
  obtain ⟨m, rfl, m0, m1⟩ := this
  refine n_pick D hr (M := M) (by lsm_bools) (by omega) (by omega) fun n0 H3 hn0 hn1 l3 hs3 => ?_
  kas_types
  refine byb_d (fun _ => ?_) (fun _ => ?_)
  · refine e_powC (c := 1000000000000000000000000000000000) (pw10 (by decide) (by decide)) (by decide) ?_
    refine e_mul (.inl ⟨by omega, by omega⟩) ?_
    refine e_powC (c := 1000000) (pw10 (by decide) (by decide)) (by decide) ?_
    refine n_pick D hr hs3 (by omega) (by omega) fun n1 H4 hn2 hn3 l4 hs4 => ?_
    kas_types
    exact r_great0 D A E hr M s _ _ H4 Q hs4 (by omega) (by omega) fun v H' d l => k v H' d (by lcg_sub)
  · exact r_great0 D A E hr M s _ _ H3 Q hs3 (by omega) (by omega) fun v H' d l => k v H' d (by lcg_sub)
theorem okb__law_great (D : Wd P K mg) : FnB P w K mg base 2 D.a__law_great D.fd__law_great ["_law_store_here"] (spGreatD K) :=
  fn_b D.F__law_great sc__law_great (t__law_great D) (by kbo_bools) (fun cdv A outer s H E o tk => d__law_great D cdv A outer s H E _ o tk) (fun A E hr vs H Q h => r__law_great D A E hr vs H Q h)
theorem ok__law_great (D : Wd P K mg) : FnZ P w K mg base 2 D.a__law_great (spGreatD K) := (okb__law_great D).z0 D.B__law_great (by kbo_bools)
theorem n_great (D : Wd P K mg) {A : Around} {k : Nat} (hr : Rm k A) {M : List Addr} {s : Addr} {H : Hp} {Q : VK} {W : XK} (hs : Stk M H s) (q : ∀ v H' d, Lk [s] H H' → Stk M H' s → Kd M K H' v d → TriD d → Q v H') (hk : 2 ≤ k := by decide) :
    vCall ⟨P, w, K, mg, base, A⟩ (.ref D.a__law_great) [.ref s] W H Q := call_z hr (ok__law_great D) ⟨M, s, rfl, hs, q⟩ hk
end
end Pf

namespace Pf
open PySem PySem.Spec PyProof.Rows L2 RZ Z ZE
local macro_rules | `(tactic| tb_rel) => `(tactic| first
  | (refine vOp_id ?_; first | (with_reducible refine e_add ?_) | (with_reducible refine e_sub ?_) | (with_reducible refine e_lt ?_) | (with_reducible refine e_le ?_) | (with_reducible refine e_gt ?_) | (with_reducible refine e_ge ?_) | (with_reducible refine e_eqI ?_) | (with_reducible refine e_neI ?_) | (with_reducible refine e_iadd ?_))
  | refine e_truB ?_
  | (refine vCB_id ?_; first | (with_reducible refine e_int ?_) | (with_reducible refine e_max ?_) | (with_reducible refine e_min ?_) | (with_reducible refine e_abs ?_))
  | (refine vUn_id ?_; with_reducible refine e_neg ?_))
local macro_rules | `(tactic| kbo_bools) => `(tactic| (intro vs H Q E h; repeat (first | (obtain ⟨e, _⟩ := h; (subst e; rfl)) | (obtain ⟨_, h⟩ := h))))
local macro_rules | `(tactic| k_subL) => `(tactic| first | assumption | exact List.mem_cons_self | exact Stk.mem (by assumption) | (apply List.mem_cons_of_mem; k_subL))
local macro_rules | `(tactic| k_clsL) => `(tactic| first | exact List.nil_subset _ | assumption | exact List.Subset.refl _ | (refine List.cons_subset.mpr ⟨by k_subL, ?_⟩; k_clsL))
local macro_rules | `(tactic| tlg_ne) => `(tactic| first | assumption | exact Ne.symm (by assumption) | (apply Stk.ne; assumption; lsm_bools))
local macro_rules | `(tactic| o_fieldsN) => `(tactic| first | exact List.not_mem_nil | assumption | (refine nm_cons (by tlg_ne) ?_; o_fieldsN))
local macro_rules | `(tactic| lsm_bools) => `(tactic| first | assumption | (apply Stk.go; assumption; lsm_bools; k_clsL; o_fieldsN) | (apply Stk.goN; assumption; assumption; ktu_offL; kp_flats; k_clsL; o_fieldsN))
local macro_rules | `(tactic| ktu_offL) => `(tactic| first | assumption | (apply Stk.go; assumption; ktu_offL; k_clsL; o_fieldsN))
local macro_rules | `(tactic| kp_flats) => `(tactic| first | assumption | exact Mk1.al (by assumption) | exact Stk.al (by assumption) | (apply Al.go; assumption; kp_flats) | exact Al.nil)
local macro_rules | `(tactic| ktu_offI) => `(tactic| first | assumption | (apply Mk1.go; assumption; ktu_offI; k_clsL; o_fieldsN))
local macro_rules | `(tactic| lcg_sub) => `(tactic| first | assumption | exact Lk.refl | (apply Lk.go; assumption; lcg_sub; k_clsL))
local macro_rules | `(tactic| keq_rows) => `(tactic| first | exact .int _ | exact .str _ | exact .bl _ | exact .non | assumption | (apply Kd.go; assumption; keq_rows; k_clsL) | (apply Kd.goN; assumption; got_up))
local macro_rules | `(tactic| got_up) => `(tactic| first | assumption | (apply Kd.go; assumption; got_up; k_clsL) | (apply Kd.goN; assumption; l_intsC))
local macro_rules | `(tactic| l_intsC) => `(tactic| first | assumption | (apply Kd.go; assumption; l_intsC; k_clsL))
local macro_rules | `(tactic| lcg_src) => `(tactic| first | exact KdL.nil | (apply KdL.cons; keq_rows; lcg_src))
local macro_rules | `(tactic| kat_tups) => `(tactic| first | exact Kd.str (M := []) _ | exact Kd.int (M := []) _ | exact Kd.bl (M := []) _ | exact Kd.non (M := []) | keq_rows)
local macro_rules | `(tactic| kct_strs) => `(tactic| first | decide +kernel | assumption | simp [okD, PyData.canLay0, PyData.canLayAll0, PyData.depth, PyData.depthAll] | simp [okD, PyData.canLay0, PyData.canLayAll0, PyData.depth, PyData.depthAll, *])
local macro_rules | `(tactic| top_caught) => `(tactic| (refine vOp_id ?_; first
  | (with_reducible refine opEq_id ?_; first | refine k_eqo (r := true) (Rm.units' (by assumption)) (by kat_tups) (by kat_tups) (by kct_strs) (by kct_strs) (by decide +kernel) ?_ | refine k_eqo (r := false) (Rm.units' (by assumption)) (by kat_tups) (by kat_tups) (by kct_strs) (by kct_strs) (by decide +kernel) ?_)
  | (with_reducible refine opNotEq_id ?_; first | refine k_neo (r := true) (Rm.units' (by assumption)) (by kat_tups) (by kat_tups) (by kct_strs) (by kct_strs) (by decide +kernel) ?_ | refine k_neo (r := false) (Rm.units' (by assumption)) (by kat_tups) (by kat_tups) (by kct_strs) (by kct_strs) (by decide +kernel) ?_)
  | (with_reducible refine opIn_id ?_; first | refine k_inL2 (r := true) (Rm.units' (by assumption)) (by kat_tups) (by kat_tups) (by kct_strs) (by kct_strs) (by decide +kernel) ?_ | refine k_inL2 (r := false) (Rm.units' (by assumption)) (by kat_tups) (by kat_tups) (by kct_strs) (by kct_strs) (by decide +kernel) ?_ | refine k_inT2 (r := true) (Rm.units' (by assumption)) (by kat_tups) (by kat_tups) (by kct_strs) (by kct_strs) (by decide +kernel) ?_ | refine k_inT2 (r := false) (Rm.units' (by assumption)) (by kat_tups) (by kat_tups) (by kct_strs) (by kct_strs) (by decide +kernel) ?_)
  | (with_reducible refine opNotIn_id ?_; first | refine k_ninL2 (r := true) (Rm.units' (by assumption)) (by kat_tups) (by kat_tups) (by kct_strs) (by kct_strs) (by decide +kernel) ?_ | refine k_ninL2 (r := false) (Rm.units' (by assumption)) (by kat_tups) (by kat_tups) (by kct_strs) (by kct_strs) (by decide +kernel) ?_ | refine k_ninT2 (r := true) (Rm.units' (by assumption)) (by kat_tups) (by kat_tups) (by kct_strs) (by kct_strs) (by decide +kernel) ?_ | refine k_ninT2 (r := false) (Rm.units' (by assumption)) (by kat_tups) (by kat_tups) (by kct_strs) (by kct_strs) (by decide +kernel) ?_)))
local macro_rules | `(tactic| tb_start) => `(tactic| first
  | (refine byb_id ?_; first | refine byb_t ?_ | refine byb_f ?_) | tb_rel
  | (refine vIx_id ?_; first | refine k_ixT (by keq_rows) (by rfl) ?_ | refine k_ixL (by keq_rows) (by rfl) ?_)
  | refine k_dic (Wd.ki (by assumption)) (by kp_flats) fun _ _ _ _ _ => ?_
  | (refine vOp_id ?_; with_reducible refine opIs_id ?_; first | (with_reducible refine e_isBl ?_) | refine k_isNon (by keq_rows) ?_ | refine e_isN ?_)
  | (refine vOp_id ?_; with_reducible refine opIsNot_id ?_; first | (with_reducible refine e_isnotBl ?_) | refine k_notNon (by keq_rows) ?_ | refine e_notN ?_)
  | (refine vTup_id ?_; refine k_tup (Wd.ki (by assumption)) (by kp_flats) (by lcg_src) (by rfl) fun _ _ _ _ _ => ?_)
  | (refine vLst_id ?_; refine k_lst (Wd.ki (by assumption)) (by kp_flats) (by lcg_src) (by rfl) fun _ _ _ _ _ => ?_)
  | (refine vUnp_id ?_; refine k_unp (by keq_rows) (by rfl) ?_)
  | refine kAll.mk fun _ _ => ?_
  | (refine vCB_id ?_; first | refine k_lenT (by keq_rows) ?_ | refine k_lenL (by keq_rows) ?_))
local macro_rules | `(tactic| kcf_all) => `(tactic| repeat tb_start)
local macro_rules | `(tactic| kcj_in) => `(tactic| repeat (first | tb_start | top_caught))
local macro_rules | `(tactic| kas_types) => `(tactic| repeat tb_rel)
section
variable {P : Program} {w : World} {K : PySem.W.Frag} {mg : Str → Option Value} {base : Heap}
theorem strOk_wish (i : Nat) : PyData.strOk (wishAt i) = true := by
  unfold wishAt
  split <;> decide +kernel
theorem dues_eq (t u : Int) (d : PyData) : duesUpTo 8 t u d = (((List.range 8).filter fun i => rightAt i t u d).map wishAt).map PyData.str := by
  rw [List.map_map]
  rfl
theorem dues_ok (t u : Int) (d : PyData) : okD (.list (duesUpTo 8 t u d)) = true ∧ okD (.tuple (duesUpTo 8 t u d)) = true := by
  rw [dues_eq]
  refine okLS fun x hx => ?_
  obtain ⟨i, _, rfl⟩ := List.mem_map.mp hx
  exact strOk_wish i
theorem dues_any {j : Nat} (hj : j < 8) (t u : Int) (d : PyData) : ((duesUpTo 8 t u d).any fun z => PyData.eqv z (.str (wishAt j))) = rightAt j t u d := by
  unfold duesUpTo
  rw [List.any_map, List.any_filter]
  have key : ∀ i ∈ List.range 8, PyData.eqv (.str (wishAt i)) (.str (wishAt j)) = (i == j) := by
    rcases eight hj with rfl | rfl | rfl | rfl | rfl | rfl | rfl | rfl <;> decide +kernel
  have e : ∀ (l : List Nat) (f g : Nat → Bool), (∀ i ∈ l, f i = g i) → l.any f = l.any g := by
    intro l f g h
    induction l with
    | nil => rfl
    | cons a r ih => rw [List.any_cons, List.any_cons, h a List.mem_cons_self, ih fun i hi => h i (List.mem_cons_of_mem _ hi)]
  rw [e (List.range 8) _ (fun i => rightAt i t u d && (i == j)) (fun i hi => by
    show (rightAt i t u d && PyData.eqv (.str (wishAt i)) (.str (wishAt j))) = _
    rw [key i hi])]
  rcases eight hj with rfl | rfl | rfl | rfl | rfl | rfl | rfl | rfl <;> simp [List.range_succ]
theorem n_wof (D : Wd P K mg) {A : Around} {k : Nat} (hr : Rm k A) {M : List Addr} {x y : V} {n t u : Int} {d : PyData} {H : Hp} {Q : VK} {W : XK} (al : Al M H) (h : Kd M K H x (rowD D.a_Row n t u)) (hy : Kd M K H y d) (p : isPl d = true) (q : ∀ v H', Lk [] H H' → Kd M K H' v (.tuple (duesUpTo 8 t u d)) → Q v H') (hk : 5 ≤ k := by decide) :
    vCall ⟨P, w, K, mg, base, A⟩ (.ref D.a_wishes_of) [x, y] W H Q := call_z hr (ok_wishes_of D) ⟨M, x, n, t, u, y, d, rfl, al, h, hy, p, q⟩ hk
theorem n_wofk (D : Wd P K mg) {A : Around} {k : Nat} (hr : Rm k A) {M : List Addr} {x y : V} {n t u : Int} {d : PyData} {H : Hp} {Q : VK} {W : XK} (al : Al M H) (h : Kd M K H x (rowD D.a_Row n t u)) (hy : Kd M K H y d) (p : isPl d = true) (q : ∀ v H', Lk [] H H' → Kd M K H' v (.tuple (duesUpTo 8 t u d)) → Q v H') (hk : 5 ≤ k := by decide) :
    vCallK ⟨P, w, K, mg, base, A⟩ (.ref D.a_wishes_of) ["result", "row"] [] [y, x] W H Q := callk_z hr (okb_wishes_of D) (kb_wishes_of_result_row D) rfl rfl ⟨M, x, n, t, u, y, d, rfl, al, h, hy, p, q⟩ hk
theorem n_rightk (D : Wd P K mg) {A : Around} {k : Nat} (hr : Rm k A) {M : List Addr} {i : Nat} (hi : i < 8) {x y : V} {n t u : Int} {d : PyData} {H : Hp} {Q : VK} {W : XK} (al : Al M H) (h : Kd M K H x (rowD D.a_Row n t u)) (hy : Kd M K H y d) (p : isPl d = true) (q : ∀ H', Lk [] H H' → Q (.bl (rightAt i t u d)) H') (hk : 4 ≤ k := by decide) :
    vCallK ⟨P, w, K, mg, base, A⟩ (.ref D.a_is_right) ["result", "row", "wish"] [] [y, x, .str (wishAt i)] W H Q := callk_z hr (okb_is_right D) (kb_is_right_result_row_wish D) rfl rfl ⟨M, i, x, n, t, u, y, d, rfl, hi, al, h, hy, p, q⟩ hk
theorem r_k0 (D : Wd P K mg) (A : Around) (W : WX) (hr : Rm 5 A) (G : Ends) (M : List Addr) (j : Nat) (hj : j < 8) (v0 v1 v2 v3 v4 v5 v10 : Option V) (x y z : V) (n t u : Int) (d : PyData) (p : isPl d = true) (H : Hp) (al : Al M H) (hx : Kd M K H x (rowD D.a_Row n t u)) (hy : Kd M K H y d) (hz : Kd M K H z (.list (duesUpTo 8 t u d)))
    (k : ∀ H', Lk [] H H' → G.nx [v0, v1, v2, v3, v4, v5, some x, some y, some z, some (.str (wishAt j)), v10] H') :
    t_law_k0 D ⟨P, w, K, mg, base, A⟩ W G [v0, v1, v2, v3, v4, v5, some x, some y, some z, some (.str (wishAt j)), v10] H := by
  refine n_right D hr hj al hx hy p fun H1 l1 => ?_
  refine e_reprBl ?_
  refine k_inL2 (r := rightAt j t u d) hr.units' (.str (M := M) _) (N := M) (by keq_rows) (by rcases eight hj with rfl | rfl | rfl | rfl | rfl | rfl | rfl | rfl <;> decide +kernel) (dues_ok t u d).1 (dues_any hj t u d) ?_
  refine e_reprBl ?_
  cases rightAt j t u d with
  | true =>
    kcj_in
    exact k _ l1
  | false =>
    kcj_in
    exact k _ l1
theorem r_k1 (D : Wd P K mg) (A : Around) (W : WX) (hr : Rm 5 A) (G : Ends) (M : List Addr) (v0 v1 v2 v3 v4 v5 v9 v10 : Option V) (x y z : V) (n t u : Int) (d : PyData) (p : isPl d = true) (H : Hp) (al : Al M H) (hx : Kd M K H x (rowD D.a_Row n t u)) (hy : Kd M K H y d) (hz : Kd M K H z (.list (duesUpTo 8 t u d)))
    (k : ∀ H', Lk [] H H' → G.nx [v0, v1, v2, v3, v4, v5, some x, some y, some z, v9, v10] H') :
    t_law_k1 D ⟨P, w, K, mg, base, A⟩ W G [v0, v1, v2, v3, v4, v5, some x, some y, some z, v9, v10] H := by
  have e1 := (dues_ok t u d).2
  have e2 := eqv_self (okD_lay e1)
  refine n_wof D hr al hx hy p fun a H1 l1 ka => ?_
  refine k_tupleL (M := M) (ds := duesUpTo 8 t u d) (by kp_flats) (by keq_rows) fun b H2 nb l2 kb => ?_
  refine k_neo hr.units' (M := M) (N := M) (r := true) (by keq_rows) kb e1 e1 e2 ?_
  refine byb_f ?_
  refine n_wofk D hr (M := M) (n := n) (t := t) (u := u) (d := d) (by kp_flats) (by keq_rows) (by keq_rows) p fun a H3 l3 ka => ?_
  refine k_tupleL (M := M) (ds := duesUpTo 8 t u d) (by kp_flats) (by keq_rows) fun b H4 nb l4 kb => ?_
  refine k_neo hr.units' (M := M) (N := M) (r := true) (by keq_rows) kb e1 e1 e2 ?_
  refine byb_f ?_
  exact k _ (by lcg_sub)
end
end Pf

namespace Pf
open PySem PySem.Spec PyProof.Rows L2 RZ Z ZE
local macro_rules | `(tactic| tb_rel) => `(tactic| first
  | (refine vOp_id ?_; first | (with_reducible refine e_add ?_) | (with_reducible refine e_sub ?_) | (with_reducible refine e_lt ?_) | (with_reducible refine e_le ?_) | (with_reducible refine e_gt ?_) | (with_reducible refine e_ge ?_) | (with_reducible refine e_eqI ?_) | (with_reducible refine e_neI ?_) | (with_reducible refine e_iadd ?_))
  | refine e_truB ?_
  | (refine vCB_id ?_; first | (with_reducible refine e_int ?_) | (with_reducible refine e_max ?_) | (with_reducible refine e_min ?_) | (with_reducible refine e_abs ?_))
  | (refine vUn_id ?_; with_reducible refine e_neg ?_))
local macro_rules | `(tactic| kbo_bools) => `(tactic| (intro vs H Q E h; repeat (first | (obtain ⟨e, _⟩ := h; (subst e; rfl)) | (obtain ⟨_, h⟩ := h))))
local macro_rules | `(tactic| k_subL) => `(tactic| first | assumption | exact List.mem_cons_self | exact Stk.mem (by assumption) | (apply List.mem_cons_of_mem; k_subL))
local macro_rules | `(tactic| k_clsL) => `(tactic| first | exact List.nil_subset _ | assumption | exact List.Subset.refl _ | (refine List.cons_subset.mpr ⟨by k_subL, ?_⟩; k_clsL))
local macro_rules | `(tactic| tlg_ne) => `(tactic| first | assumption | exact Ne.symm (by assumption) | (apply Stk.ne; assumption; lsm_bools))
local macro_rules | `(tactic| o_fieldsN) => `(tactic| first | exact List.not_mem_nil | assumption | (refine nm_cons (by tlg_ne) ?_; o_fieldsN))
local macro_rules | `(tactic| lsm_bools) => `(tactic| first | assumption | (apply Stk.go; assumption; lsm_bools; k_clsL; o_fieldsN) | (apply Stk.goN; assumption; assumption; ktu_offL; kp_flats; k_clsL; o_fieldsN))
local macro_rules | `(tactic| ktu_offL) => `(tactic| first | assumption | (apply Stk.go; assumption; ktu_offL; k_clsL; o_fieldsN))
local macro_rules | `(tactic| kp_flats) => `(tactic| first | assumption | exact Mk1.al (by assumption) | exact Stk.al (by assumption) | (apply Al.go; assumption; kp_flats) | exact Al.nil)
local macro_rules | `(tactic| ktu_offI) => `(tactic| first | assumption | (apply Mk1.go; assumption; ktu_offI; k_clsL; o_fieldsN))
local macro_rules | `(tactic| lcg_sub) => `(tactic| first | assumption | exact Lk.refl | (apply Lk.go; assumption; lcg_sub; k_clsL))
local macro_rules | `(tactic| keq_rows) => `(tactic| first | exact .int _ | exact .str _ | exact .bl _ | exact .non | assumption | (apply Kd.go; assumption; keq_rows; k_clsL) | (apply Kd.goN; assumption; got_up))
local macro_rules | `(tactic| got_up) => `(tactic| first | assumption | (apply Kd.go; assumption; got_up; k_clsL) | (apply Kd.goN; assumption; l_intsC))
local macro_rules | `(tactic| l_intsC) => `(tactic| first | assumption | (apply Kd.go; assumption; l_intsC; k_clsL))
local macro_rules | `(tactic| lcg_src) => `(tactic| first | exact KdL.nil | (apply KdL.cons; keq_rows; lcg_src))
local macro_rules | `(tactic| kat_tups) => `(tactic| first | exact Kd.str (M := []) _ | exact Kd.int (M := []) _ | exact Kd.bl (M := []) _ | exact Kd.non (M := []) | keq_rows)
local macro_rules | `(tactic| kct_strs) => `(tactic| first | decide +kernel | assumption | simp [okD, PyData.canLay0, PyData.canLayAll0, PyData.depth, PyData.depthAll] | simp [okD, PyData.canLay0, PyData.canLayAll0, PyData.depth, PyData.depthAll, *])
local macro_rules | `(tactic| top_caught) => `(tactic| (refine vOp_id ?_; first
  | (with_reducible refine opEq_id ?_; first | refine k_eqo (r := true) (Rm.units' (by assumption)) (by kat_tups) (by kat_tups) (by kct_strs) (by kct_strs) (by decide +kernel) ?_ | refine k_eqo (r := false) (Rm.units' (by assumption)) (by kat_tups) (by kat_tups) (by kct_strs) (by kct_strs) (by decide +kernel) ?_)
  | (with_reducible refine opNotEq_id ?_; first | refine k_neo (r := true) (Rm.units' (by assumption)) (by kat_tups) (by kat_tups) (by kct_strs) (by kct_strs) (by decide +kernel) ?_ | refine k_neo (r := false) (Rm.units' (by assumption)) (by kat_tups) (by kat_tups) (by kct_strs) (by kct_strs) (by decide +kernel) ?_)
  | (with_reducible refine opIn_id ?_; first | refine k_inL2 (r := true) (Rm.units' (by assumption)) (by kat_tups) (by kat_tups) (by kct_strs) (by kct_strs) (by decide +kernel) ?_ | refine k_inL2 (r := false) (Rm.units' (by assumption)) (by kat_tups) (by kat_tups) (by kct_strs) (by kct_strs) (by decide +kernel) ?_ | refine k_inT2 (r := true) (Rm.units' (by assumption)) (by kat_tups) (by kat_tups) (by kct_strs) (by kct_strs) (by decide +kernel) ?_ | refine k_inT2 (r := false) (Rm.units' (by assumption)) (by kat_tups) (by kat_tups) (by kct_strs) (by kct_strs) (by decide +kernel) ?_)
  | (with_reducible refine opNotIn_id ?_; first | refine k_ninL2 (r := true) (Rm.units' (by assumption)) (by kat_tups) (by kat_tups) (by kct_strs) (by kct_strs) (by decide +kernel) ?_ | refine k_ninL2 (r := false) (Rm.units' (by assumption)) (by kat_tups) (by kat_tups) (by kct_strs) (by kct_strs) (by decide +kernel) ?_ | refine k_ninT2 (r := true) (Rm.units' (by assumption)) (by kat_tups) (by kat_tups) (by kct_strs) (by kct_strs) (by decide +kernel) ?_ | refine k_ninT2 (r := false) (Rm.units' (by assumption)) (by kat_tups) (by kat_tups) (by kct_strs) (by kct_strs) (by decide +kernel) ?_)))
local macro_rules | `(tactic| tb_start) => `(tactic| first
  | (refine byb_id ?_; first | refine byb_t ?_ | refine byb_f ?_) | tb_rel
  | (refine vIx_id ?_; first | refine k_ixT (by keq_rows) (by rfl) ?_ | refine k_ixL (by keq_rows) (by rfl) ?_)
  | refine k_dic (Wd.ki (by assumption)) (by kp_flats) fun _ _ _ _ _ => ?_
  | (refine vOp_id ?_; with_reducible refine opIs_id ?_; first | (with_reducible refine e_isBl ?_) | refine k_isNon (by keq_rows) ?_ | refine e_isN ?_)
  | (refine vOp_id ?_; with_reducible refine opIsNot_id ?_; first | (with_reducible refine e_isnotBl ?_) | refine k_notNon (by keq_rows) ?_ | refine e_notN ?_)
  | (refine vTup_id ?_; refine k_tup (Wd.ki (by assumption)) (by kp_flats) (by lcg_src) (by rfl) fun _ _ _ _ _ => ?_)
  | (refine vLst_id ?_; refine k_lst (Wd.ki (by assumption)) (by kp_flats) (by lcg_src) (by rfl) fun _ _ _ _ _ => ?_)
  | (refine vUnp_id ?_; refine k_unp (by keq_rows) (by rfl) ?_)
  | refine kAll.mk fun _ _ => ?_
  | (refine vCB_id ?_; first | refine k_lenT (by keq_rows) ?_ | refine k_lenL (by keq_rows) ?_))
local macro_rules | `(tactic| kcf_all) => `(tactic| repeat tb_start)
local macro_rules | `(tactic| kcj_in) => `(tactic| repeat (first | tb_start | top_caught))
local macro_rules | `(tactic| kas_types) => `(tactic| repeat tb_rel)
section
variable {P : Program} {w : World} {K : PySem.W.Frag} {mg : Str → Option Value} {base : Heap}
theorem n_lright (D : Wd P K mg) {A : Around} {k : Nat} (hr : Rm k A) {M : List Addr} {i : Nat} (hi : i < 8) {x y : V} {n t u : Int} {d : PyData} {H : Hp} {Q : VK} {W : XK} (al : Al M H) (h : Kd M K H x (.tuple [.int n, .int t, .int u])) (hy : Kd M K H y d) (p : d = .none ∨ ∃ g, d = .int g) (q : ∀ H', Lk [] H H' → Q (.bl (rightAt i t u d)) H') (hk : 1 ≤ k := by decide) :
    vCall ⟨P, w, K, mg, base, A⟩ (.ref D.a__law_right) [.str (wishAt i), x, y] W H Q := call_z hr (ok__law_right D) ⟨M, i, x, n, t, u, y, d, rfl, hi, al, h, hy, p, q⟩ hk
theorem wish_isPl {d : PyData} (h : d = .none ∨ ∃ g, d = .int g) : isPl d = true := by
  rcases h with rfl | ⟨g, rfl⟩ <;> rfl
theorem r_k2 (D : Wd P K mg) (A : Around) (W : WX) (hr : Rm 5 A) (G : Ends) (M : List Addr) (v0 v1 v5 v8 v9 v10 : Option V) (x y : V) (n t u : Int) (d : PyData) (p : d = .none ∨ ∃ g, d = .int g) (H : Hp) (al : Al M H) (hx : Kd M K H x (rowD D.a_Row n t u)) (hy : Kd M K H y d)
    (k : ∀ v8 v9 H', Lk [] H H' → G.nx [v0, v1, some (.int n), some (.int t), some (.int u), v5, some x, some y, v8, v9, v10] H') :
    t_law_k2 D ⟨P, w, K, mg, base, A⟩ W G [v0, v1, some (.int n), some (.int t), some (.int u), v5, some x, some y, v8, v9, v10] H := by
  have pl := wish_isPl p
  refine n_wishes D hr al fun a H1 na l1 ka => ?_
  refine k_lcL (M := M) [] (fun p i es H1 => es = duesUpTo i t u d) (by k_clsL) (by kp_flats) ka (by decide) (fun _ _ _ _ _ => rfl) ?_ ?_
  · intro pp i dw vw es H2 Next hi np nm l2 mk hw pv le nx
    subst pv
    obtain ⟨hi8, rfl⟩ := wish_get hi
    cases hw
    refine ⟨rfl, ?_⟩
    refine k_tup (M := pp :: M) (Wd.ki D) (by kp_flats) (by lcg_src) (by rfl) fun t3 H3 nt l3 k3 => ?_
    refine n_lright D hr hi8 (M := pp :: M) (by kp_flats) k3 (by keq_rows) p fun H4 l4 => ?_
    kas_types
    have e := dues_succ i t u d
    cases c : rightAt i t u d with
    | true =>
      rw [c, if_pos rfl] at e
      refine byb_t ?_
      refine mk.put (N := []) (by lcg_sub) (by k_clsL) (by o_fieldsN) (.str _) (by have := dues_len i t u d; omega) fun H5 l5 mk5 => ?_
      rw [← e] at mk5
      exact nx _ H5 (by lcg_sub) mk5 rfl (dues_len _ _ _ _)
    | false =>
      rw [c, if_neg (by decide), List.append_nil] at e
      refine byb_f ?_
      exact nx _ H4 (by lcg_sub) (by ktu_offI) e.symm (Nat.le_succ_of_le (dues_len _ _ _ _))
  · intro z es H2 nz l2 kz e
    subst e
    refine n_wishes D hr (M := M) (by kp_flats) fun b H3 nb l3 kb => ?_
    refine k_forL (M := M) [] (fun i σ H' => ∃ v9, σ = [v0, v1, some (.int n), some (.int t), some (.int u), v5, some x, some y, some (.ref z), v9, v10]) (by k_clsL) kb ⟨v9, rfl⟩ ?_ ?_
    · rintro i dw vw σ1 H4 hi l4 hw ⟨v9, rfl⟩
      obtain ⟨hi8, rfl⟩ := wish_get hi
      cases hw
      refine r_k0 D A W hr _ M i hi8 _ _ _ _ _ _ _ x y _ n t u d pl H4 (by kp_flats) (by keq_rows) (by keq_rows) (by keq_rows) fun H5 l5 => ⟨by lcg_sub, _, rfl⟩
    · rintro σ1 H4 l4 ⟨v9, rfl⟩
      exact r_k1 D A W hr _ M _ _ _ _ _ _ _ _ x y _ n t u d pl H4 (by kp_flats) (by keq_rows) (by keq_rows) (by keq_rows) fun H5 l5 => k _ _ H5 (by lcg_sub)
theorem odd_no {t u a : Int} {d : PyData} (hd : d ∈ ([.bool true, .bool false, .str "0", .str "", .tuple [.int a], .list [], .dict []] : List PyData)) : isPl d = true ∧ ∀ i, rightAt i t u d = false := by
  have h1 : isPl d = true ∧ isNonD d = false ∧ isIntD d = false := by
    simp only [List.mem_cons, List.not_mem_nil, or_false] at hd
    rcases hd with rfl | rfl | rfl | rfl | rfl | rfl | rfl <;> exact ⟨rfl, rfl, rfl⟩
  refine ⟨h1.1, fun i => ?_⟩
  unfold rightAt
  split
  · exact h1.2.1
  · split
    · exact absurd h1.2.2 (by simp [isIntD])
    · rfl
theorem no_dues {t u : Int} {d : PyData} (h : ∀ i, rightAt i t u d = false) : duesUpTo 8 t u d = [] := by
  unfold duesUpTo
  rw [List.filter_eq_nil_iff.mpr (fun i _ => by rw [h i]; decide)]
  rfl
theorem r_k3 (D : Wd P K mg) (A : Around) (W : WX) (hr : Rm 5 A) (G : Ends) (M : List Addr) (v0 v2 v4 v5 v7 v8 v9 v10 : Option V) (s : Addr) (x : V) (n t u : Int) (H : Hp) (hs : Stk M H s) (hx : Kd M K H x (rowD D.a_Row n t u))
    (k : ∀ v9 v10 H', Lk [s] H H' → Stk M H' s → G.nx [v0, some (.ref s), v2, some (.int t), v4, v5, some x, v7, v8, v9, v10] H') :
    t_law_k3 D ⟨P, w, K, mg, base, A⟩ W G [v0, some (.ref s), v2, some (.int t), v4, v5, some x, v7, v8, v9, v10] H := by
  have al := hs.al
  kcf_all
  refine n_pick D hr (M := M) (by lsm_bools) (by omega) (by omega) fun r H5 r0 r1 l5 hs5 => ?_
  refine k_ixLa (M := M) (by keq_rows) r0 (by simpa using r1) fun d hd => ?_
  have ⟨pl, no⟩ := odd_no (t := t) (u := u) hd
  have nd := no_dues no
  refine kOut_all fun y hy => ?_
  refine n_wishes D hr (M := M) (by kp_flats) fun b H6 nb l6 kb => ?_
  refine n_pick D hr (M := M) (by lsm_bools) (by omega) (by omega) fun j H7 j0 j1 l7 hs7 => ?_
  obtain ⟨i, rfl⟩ := Int.eq_ofNat_of_zero_le j0
  have hi : i < 8 := by omega
  have ew : atI wishesD (i : Int) = some (.str (wishAt i)) := by rcases eight hi with rfl | rfl | rfl | rfl | rfl | rfl | rfl | rfl <;> rfl
  refine k_ixL (M := M) (by keq_rows) ew ?_
  refine n_wof D hr (M := M) (n := n) (t := t) (u := u) (d := d) (by kp_flats) (by keq_rows) (by keq_rows) pl fun a H8 l8 ka => ?_
  rw [nd] at ka
  kcj_in
  refine n_rightk D hr hi (M := M) (n := n) (t := t) (u := u) (d := d) (by kp_flats) (by keq_rows) (by keq_rows) pl fun H9 l9 => ?_
  rw [no i]
  kcj_in
  have sm : [s] ⊆ [s] := List.Subset.refl _
  exact k _ _ _ (by lcg_sub) (by lsm_bools)
theorem r_k4 (D : Wd P K mg) (A : Around) (W : WX) (hr : Rm 5 A) (G : Ends) (M : List Addr) (v0 v5 v6 v7 v8 v9 v10 : Option V) (s : Addr) (n t u : Int) (H : Hp) (hs : Stk M H s) (h0 : 0 ≤ t) (h1 : t ≤ u) (h2 : u ≤ n)
    (k : ∀ v6 v7 v8 v9 v10 H', Lk [s] H H' → Stk M H' s → G.nx [v0, some (.ref s), some (.int n), some (.int t), some (.int u), v5, v6, v7, v8, v9, v10] H') :
    t_law_k4 D ⟨P, w, K, mg, base, A⟩ W G [v0, some (.ref s), some (.int n), some (.int t), some (.int u), v5, v6, v7, v8, v9, v10] H := by
  have al := hs.al
  refine n_Row D hr (M := M) al h0 h1 h2 fun a H1 na l1 ka => ?_
  kas_types
  refine e_fdiv ⟨by omega, by omega⟩ ?_
  refine k_lst (M := M) (Wd.ki D) (by kp_flats) (by lcg_src) (by rfl) fun b H2 nb l2 kb => ?_
  refine k_forL (M := M) [] (fun i σ H' => ∃ v7 v8 v9, σ = [v0, some (.ref s), some (.int n), some (.int t), some (.int u), v5, some (.ref a), v7, v8, v9, v10]) (by k_clsL) kb ⟨v7, v8, v9, rfl⟩ ?_ ?_
  · rintro i d y σ1 H3 hi l3 hy ⟨v7, v8, v9, rfl⟩
    have p : d = .none ∨ ∃ g, d = .int g := by
      have := List.mem_of_getElem? hi
      simp only [List.mem_cons, List.not_mem_nil, or_false] at this
      rcases this with rfl | rfl | rfl | rfl | rfl | rfl | rfl | rfl | rfl | rfl | rfl | rfl <;> first | exact .inl rfl | exact .inr ⟨_, rfl⟩
    exact r_k2 D A W hr _ M _ _ _ _ _ _ _ y n t u d p H3 (by kp_flats) (by keq_rows) hy fun v8 v9 H4 l4 => ⟨by lcg_sub, _, _, _, rfl⟩
  · rintro σ1 H3 l3 ⟨v7, v8, v9, rfl⟩
    refine r_k3 D A W hr _ M _ _ _ _ _ _ _ _ s _ n t u H3 (by lsm_bools) (by keq_rows) fun v9 v10 H4 l4 hs4 => ?_
    have sm : [s] ⊆ [s] := List.Subset.refl _
    exact k _ _ _ _ _ H4 (by lcg_sub) hs4
def spLaw (K : PySem.W.Frag) : Sp := fun vs H Q _ => ∃ (a : Addr) (ns : List Int), vs = [.ref a] ∧ SqL K H a (ns.map V.int) ∧ ns.length ≤ 63 ∧ ∀ H', Q (.bl true) H'
theorem r_law (D : Wd P K mg) (A : Around) (E : XK) (hr : Rm 5 A) (vs : List V) (H : Hp) (Q : VK) (h : spLaw K vs H Q E) :
    t_law D ⟨P, w, K, mg, base, A⟩ (fun cls d _ H => E cls d H) { nx := fun _ H' => Q .non H', rt := Q } (start ["_law_script", "_law_store_here", "_law_n", "_law_t", "_law_u", "_law_turn", "_law_placed", "_law_gained", "_law_due", "_law_hope", "_law_odd"] vs) H := by
  obtain ⟨a, ns, rfl, ha, hl, k⟩ := h
  refine call_z hr (ok__law_store D) ⟨a, ns, rfl, ha, hl, fun s H1 ns1 l1 hs => ?_⟩
  refine n_pick D hr hs (by omega) (by omega) fun r H2 r0 r1 l2 hs2 => ?_
  refine call_z hr (ok__law_rows D) ⟨[s], r, rfl, r0, by omega, hs2.al, fun p H3 ds np l3 kp hd hl => ?_⟩
  have sm : s ∈ [s] := List.mem_singleton_self _
  refine k_lcR1 (M := [s]) (K := K) [s] (fun p i es H' => Stk (p :: [s]) H' s ∧ (∀ d ∈ es, TriD d) ∧ es.length ≤ i) (by k_clsL) (by kp_flats) (by omega) (by omega) (by omega) (fun p H' np l mk => ⟨?_, by intro d hd; simp at hd, by simp⟩) ?_ ?_
  · have al := mk.al
    lsm_bools
  · rintro p i es H4 Next hi np nm l4 mk ⟨hs4, hz, hz2⟩ le nx
    refine ⟨rfl, ?_⟩
    refine n_great D hr hs4 fun v H5 d l5 hs5 kv tri => ?_
    have nsp : p ≠ s := fun e => nm (by rw [e]; exact List.mem_singleton_self _)
    refine mk.put (N := [s]) (by lcg_sub) (by k_clsL) nm kv (by omega) fun H6 l6 mk6 => ?_
    refine nx _ H6 ?_ mk6 ⟨?_, ?_, by simp only [List.length_append, List.length_singleton]; omega⟩ (by simp only [List.length_append, List.length_singleton]; omega)
    · exact (l4.trans (l5.sub (by k_clsL))).trans (l6.sub (by k_clsL))
    · exact hs5.lk l6 (by k_clsL) (by o_fieldsN)
    · intro e he
      rcases List.mem_append.mp he with he | he
      · exact hz e he
      · rw [List.mem_singleton.mp he]; exact tri
  · rintro p2 es H4 np2 l4 kes ⟨hs4, hz, hz2⟩
    have hs4' : Stk [s] H4 s := hs4.less sm
    refine k_catL (M := [s]) (by kp_flats) (by keq_rows) kes (by omega) fun q H5 nq l5 kq => ?_
    refine k_forL (M := [s]) [s] (fun i σ H' => ∃ v2 v3 v4 v5 v6 v7 v8 v9 v10, σ = [some (.ref a), some (.ref s), v2, v3, v4, v5, v6, v7, v8, v9, v10] ∧ Stk [s] H' s) (by k_clsL) kq ⟨_, _, _, _, _, _, _, _, _, rfl, by lsm_bools⟩ ?_ ?_
    · rintro i d v σ1 H6 hi l6 hv ⟨v2, v3, v4, v5, v6, v7, v8, v9, v10, rfl, hs6⟩
      have tri : TriD d := by
        rcases List.mem_append.mp (List.mem_of_getElem? hi) with h | h
        · exact hd d h
        · exact hz d h
      obtain ⟨n, t, u, rfl, t0, t1, t2, t3⟩ := tri
      kcf_all
      simp only [kOuts, kOut, uCons, uNil, gName]
      refine r_k4 D A _ hr _ [s] _ _ _ _ _ _ _ s n t u H6 hs6 t0 t1 t2 ?_
      intro v6 v7 v8 v9 v10 H7 l7 hs7
      exact ⟨by lcg_sub, _, _, _, _, _, _, _, _, _, rfl, hs7⟩
    · rintro σ1 H6 l6 ⟨v2, v3, v4, v5, v6, v7, v8, v9, v10, rfl, hs6⟩
      exact k H6
theorem okb_law (D : Wd P K mg) : FnB P w K mg base 6 D.a_law D.fd_law ["_law_script"] (spLaw K) :=
  fn_b D.F_law sc_law (t_law D) (by kbo_bools) (fun cdv A outer s H E o tk => d_law D cdv A outer s H E _ o tk) (fun A E hr vs H Q h => r_law D A E hr vs H Q h)
theorem ok_law (D : Wd P K mg) : FnZ P w K mg base 6 D.a_law (spLaw K) := (okb_law D).z0 D.B_law (by kbo_bools)
end
end Pf

namespace Pf
open PySem PySem.Spec PyProof.Rows L2 RZ Z ZE
def Pg : Program := (PySem.W.OpenLaw.row PySem.Challenge.rw_searchloops_k12_right_results).prog
def fys : List DefY := []
def fns : List He5.DefA := [⟨fun K => He.ga K "is_integer", "is_integer", "is_integer", defArgs s_is_integer, defBody s_is_integer, defScope s_is_integer, [], []⟩, ⟨fun K => He.ga K "is_word", "is_word", "is_word", defArgs s_is_word, defBody s_is_word, defScope s_is_word, [], []⟩, ⟨fun K => He.ga K "is_wish", "is_wish", "is_wish", defArgs s_is_wish, defBody s_is_wish, defScope s_is_wish, [], []⟩, ⟨fun K => He.ma K (He.ga K "Row") "__init__", "__init__", "Row.__init__", defArgs s_Row_init, defBody s_Row_init, defScope s_Row_init, [], []⟩, ⟨fun K => He5.wf K (He.ga K "Row") "property" "below", "below", "Row.below", defArgs s_Row_below, defBody s_Row_below, defScope s_Row_below, [], []⟩, ⟨fun K => He5.wf K (He.ga K "Row") "property" "upto", "upto", "Row.upto", defArgs s_Row_upto, defBody s_Row_upto, defScope s_Row_upto, [], []⟩, ⟨fun K => He.ga K "check_wish", "check_wish", "check_wish", defArgs s_check_wish, defBody s_check_wish, defScope s_check_wish, [], []⟩, ⟨fun K => He.ga K "check_row", "check_row", "check_row", defArgs s_check_row, defBody s_check_row, defScope s_check_row, [], []⟩, ⟨fun K => He.ga K "wished_range", "wished_range", "wished_range", defArgs s_wished_range, defBody s_wished_range, defScope s_wished_range, [], []⟩, ⟨fun K => He.ga K "is_right", "is_right", "is_right", defArgs s_is_right, defBody s_is_right, defScope s_is_right, [], []⟩, ⟨fun K => He.ga K "wishes_of", "wishes_of", "wishes_of", defArgs s_wishes_of, defBody s_wishes_of, defScope s_wishes_of, [], []⟩, ⟨fun K => He.ga K "_law_store", "_law_store", "_law_store", defArgs s__law_store, defBody s__law_store, defScope s__law_store, [], []⟩, ⟨fun K => He.ga K "_law_pick", "_law_pick", "_law_pick", defArgs s__law_pick, defBody s__law_pick, defScope s__law_pick, [], []⟩, ⟨fun K => He.ga K "_law_right", "_law_right", "_law_right", defArgs s__law_right, defBody s__law_right, defScope s__law_right, [], []⟩, ⟨fun K => He.ga K "_law_wishes", "_law_wishes", "_law_wishes", defArgs s__law_wishes, defBody s__law_wishes, defScope s__law_wishes, [], []⟩, ⟨fun K => He.ga K "_law_rows", "_law_rows", "_law_rows", defArgs s__law_rows, defBody s__law_rows, defScope s__law_rows, [], []⟩, ⟨fun K => He.ga K "_law_great", "_law_great", "_law_great", defArgs s__law_great, defBody s__law_great, defScope s__law_great, [], []⟩, ⟨fun K => He.ga K "law", "law", "law", defArgs s_law, defBody s_law, defScope s_law, [], []⟩]
def exs (K : PySem.W.Frag) : List Bool := [(He.Fa.glo "is_integer").ok K, (He.Fa.glo "is_word").ok K, (He.Fa.glo "is_wish").ok K, (He.Fa.glo "check_wish").ok K, (He.Fa.glo "check_row").ok K, (He.Fa.glo "wished_range").ok K, (He.Fa.glo "is_right").ok K, (He.Fa.glo "wishes_of").ok K, (He.Fa.glo "_law_store").ok K, (He.Fa.glo "_law_pick").ok K, (He.Fa.glo "_law_right").ok K, (He.Fa.glo "_law_wishes").ok K, (He.Fa.glo "_law_rows").ok K, (He.Fa.glo "_law_great").ok K, (He.Fa.glo "law").ok K, (He.Fa.glo "Row").ok K, (He.Fa.keep "Row").ok K, (He.Fa.cls "Row").ok K, (He.Fa.mkr "Row").ok K, propB K (He.ga K "Row") "below", propB K (He.ga K "Row") "upto", (He.Fa.noat "Row" "place").ok K, isiB K (He.ga K "Row"), noB K (He.ga K "Row"), (He.Fa.glo "WISHES").ok K, conB K (.tuple [(.str "first"), (.str "after"), (.str "before"), (.str "last"), (.str "between"), (.str "first equal"), (.str "last equal"), (.str "any equal")]) (.ref (He.ga K "WISHES")), (He.Fa.free "abs").ok K, (He.Fa.free "bool").ok K, (He.Fa.free "divmod").ok K, (He.Fa.free "int").ok K, (He.Fa.free "isinstance").ok K, (He.Fa.free "max").ok K, (He.Fa.free "min").ok K, (He.Fa.free "range").ok K, (He.Fa.free "repr").ok K, (He.Fa.free "str").ok K, (He.Fa.free "tuple").ok K]
def loose : List Str := (["_wall", "__name__", "SearchError", "InvalidLength", "InvalidPlace", "InvalidEntries", "InvalidKey", "InvalidWish", "NotARow", "WISHES", "is_integer", "is_word", "is_wish", "check_entries", "Row", "check_wish", "check_row", "wished_range", "is_right", "wishes_of", "_law_store", "_law_pick", "_law_right", "_law_wishes", "_law_rows", "_law_great"] : List Str)
theorem wd_mk {K : PySem.W.Frag} {h : Heap} {mg : Str → Option Value} {fa : Addr} (X : K.In h) (G : h.Ns mainGlobals mg) (hfa : mg "law" = some (.ref fa)) (c : SaysE fns exs fys K) : ∃ D : Wd Pg K mg, D.a_law = fa := by
  obtain ⟨fd_is_integer, F_is_integer⟩ := c.d 0 rfl
  have F_is_integer : FunD K "is_integer" "is_integer" (defArgs s_is_integer) (defBody s_is_integer) (defScope s_is_integer) [] [] (He.ga K "is_integer") fd_is_integer := F_is_integer
  have B_is_integer : Binds K fd_is_integer ["value"] [] := FunD.bindsN F_is_integer fun _ _ _ _ _ _ us hl => match us, hl with | [_], _ => rfl
  obtain ⟨fd_is_word, F_is_word⟩ := c.d 1 rfl
  have F_is_word : FunD K "is_word" "is_word" (defArgs s_is_word) (defBody s_is_word) (defScope s_is_word) [] [] (He.ga K "is_word") fd_is_word := F_is_word
  have B_is_word : Binds K fd_is_word ["value", "words"] [] := FunD.bindsN F_is_word fun _ _ _ _ _ _ us hl => match us, hl with | [_, _], _ => rfl
  obtain ⟨fd_is_wish, F_is_wish⟩ := c.d 2 rfl
  have F_is_wish : FunD K "is_wish" "is_wish" (defArgs s_is_wish) (defBody s_is_wish) (defScope s_is_wish) [] [] (He.ga K "is_wish") fd_is_wish := F_is_wish
  have B_is_wish : Binds K fd_is_wish ["value"] [] := FunD.bindsN F_is_wish fun _ _ _ _ _ _ us hl => match us, hl with | [_], _ => rfl
  obtain ⟨fd_Row_init, F_Row_init⟩ := c.d 3 rfl
  have F_Row_init : FunD K "__init__" "Row.__init__" (defArgs s_Row_init) (defBody s_Row_init) (defScope s_Row_init) [] [] (He.ma K (He.ga K "Row") "__init__") fd_Row_init := F_Row_init
  have B_Row_init : Binds K fd_Row_init ["self", "length", "below", "upto"] [] := FunD.bindsN F_Row_init fun _ _ _ _ _ _ us hl => match us, hl with | [_, _, _, _], _ => rfl
  obtain ⟨fd_Row_below, F_Row_below⟩ := c.d 4 rfl
  have F_Row_below : FunD K "below" "Row.below" (defArgs s_Row_below) (defBody s_Row_below) (defScope s_Row_below) [] [] (He5.wf K (He.ga K "Row") "property" "below") fd_Row_below := F_Row_below
  have B_Row_below : Binds K fd_Row_below ["self"] [] := FunD.bindsN F_Row_below fun _ _ _ _ _ _ us hl => match us, hl with | [_], _ => rfl
  obtain ⟨fd_Row_upto, F_Row_upto⟩ := c.d 5 rfl
  have F_Row_upto : FunD K "upto" "Row.upto" (defArgs s_Row_upto) (defBody s_Row_upto) (defScope s_Row_upto) [] [] (He5.wf K (He.ga K "Row") "property" "upto") fd_Row_upto := F_Row_upto
  have B_Row_upto : Binds K fd_Row_upto ["self"] [] := FunD.bindsN F_Row_upto fun _ _ _ _ _ _ us hl => match us, hl with | [_], _ => rfl
  obtain ⟨fd_check_wish, F_check_wish⟩ := c.d 6 rfl
  have F_check_wish : FunD K "check_wish" "check_wish" (defArgs s_check_wish) (defBody s_check_wish) (defScope s_check_wish) [] [] (He.ga K "check_wish") fd_check_wish := F_check_wish
  have B_check_wish : Binds K fd_check_wish ["wish"] [] := FunD.bindsN F_check_wish fun _ _ _ _ _ _ us hl => match us, hl with | [_], _ => rfl
  obtain ⟨fd_check_row, F_check_row⟩ := c.d 7 rfl
  have F_check_row : FunD K "check_row" "check_row" (defArgs s_check_row) (defBody s_check_row) (defScope s_check_row) [] [] (He.ga K "check_row") fd_check_row := F_check_row
  have B_check_row : Binds K fd_check_row ["row"] [] := FunD.bindsN F_check_row fun _ _ _ _ _ _ us hl => match us, hl with | [_], _ => rfl
  obtain ⟨fd_wished_range, F_wished_range⟩ := c.d 8 rfl
  have F_wished_range : FunD K "wished_range" "wished_range" (defArgs s_wished_range) (defBody s_wished_range) (defScope s_wished_range) [] [] (He.ga K "wished_range") fd_wished_range := F_wished_range
  have B_wished_range : Binds K fd_wished_range ["wish", "row"] [] := FunD.bindsN F_wished_range fun _ _ _ _ _ _ us hl => match us, hl with | [_, _], _ => rfl
  obtain ⟨fd_is_right, F_is_right⟩ := c.d 9 rfl
  have F_is_right : FunD K "is_right" "is_right" (defArgs s_is_right) (defBody s_is_right) (defScope s_is_right) [] [] (He.ga K "is_right") fd_is_right := F_is_right
  have B_is_right : Binds K fd_is_right ["wish", "row", "result"] [] := FunD.bindsN F_is_right fun _ _ _ _ _ _ us hl => match us, hl with | [_, _, _], _ => rfl
  obtain ⟨fd_wishes_of, F_wishes_of⟩ := c.d 10 rfl
  have F_wishes_of : FunD K "wishes_of" "wishes_of" (defArgs s_wishes_of) (defBody s_wishes_of) (defScope s_wishes_of) [] [] (He.ga K "wishes_of") fd_wishes_of := F_wishes_of
  have B_wishes_of : Binds K fd_wishes_of ["row", "result"] [] := FunD.bindsN F_wishes_of fun _ _ _ _ _ _ us hl => match us, hl with | [_, _], _ => rfl
  obtain ⟨fd__law_store, F__law_store⟩ := c.d 11 rfl
  have F__law_store : FunD K "_law_store" "_law_store" (defArgs s__law_store) (defBody s__law_store) (defScope s__law_store) [] [] (He.ga K "_law_store") fd__law_store := F__law_store
  have B__law_store : Binds K fd__law_store ["_law_script"] [] := FunD.bindsN F__law_store fun _ _ _ _ _ _ us hl => match us, hl with | [_], _ => rfl
  obtain ⟨fd__law_pick, F__law_pick⟩ := c.d 12 rfl
  have F__law_pick : FunD K "_law_pick" "_law_pick" (defArgs s__law_pick) (defBody s__law_pick) (defScope s__law_pick) [] [] (He.ga K "_law_pick") fd__law_pick := F__law_pick
  have B__law_pick : Binds K fd__law_pick ["_law_store_here", "_law_many"] [] := FunD.bindsN F__law_pick fun _ _ _ _ _ _ us hl => match us, hl with | [_, _], _ => rfl
  obtain ⟨fd__law_right, F__law_right⟩ := c.d 13 rfl
  have F__law_right : FunD K "_law_right" "_law_right" (defArgs s__law_right) (defBody s__law_right) (defScope s__law_right) [] [] (He.ga K "_law_right") fd__law_right := F__law_right
  have B__law_right : Binds K fd__law_right ["_law_hope", "_law_placed", "_law_gained"] [] := FunD.bindsN F__law_right fun _ _ _ _ _ _ us hl => match us, hl with | [_, _, _], _ => rfl
  obtain ⟨fd__law_wishes, F__law_wishes⟩ := c.d 14 rfl
  have F__law_wishes : FunD K "_law_wishes" "_law_wishes" (defArgs s__law_wishes) (defBody s__law_wishes) (defScope s__law_wishes) [] [] (He.ga K "_law_wishes") fd__law_wishes := F__law_wishes
  have B__law_wishes : Binds K fd__law_wishes [] [] := FunD.bindsN F__law_wishes fun _ _ _ _ _ _ us hl => match us, hl with | [], _ => rfl
  obtain ⟨fd__law_rows, F__law_rows⟩ := c.d 15 rfl
  have F__law_rows : FunD K "_law_rows" "_law_rows" (defArgs s__law_rows) (defBody s__law_rows) (defScope s__law_rows) [] [] (He.ga K "_law_rows") fd__law_rows := F__law_rows
  have B__law_rows : Binds K fd__law_rows ["_law_size"] [] := FunD.bindsN F__law_rows fun _ _ _ _ _ _ us hl => match us, hl with | [_], _ => rfl
  obtain ⟨fd__law_great, F__law_great⟩ := c.d 16 rfl
  have F__law_great : FunD K "_law_great" "_law_great" (defArgs s__law_great) (defBody s__law_great) (defScope s__law_great) [] [] (He.ga K "_law_great") fd__law_great := F__law_great
  have B__law_great : Binds K fd__law_great ["_law_store_here"] [] := FunD.bindsN F__law_great fun _ _ _ _ _ _ us hl => match us, hl with | [_], _ => rfl
  obtain ⟨fd_law, F_law⟩ := c.d 17 rfl
  have F_law : FunD K "law" "law" (defArgs s_law) (defBody s_law) (defScope s_law) [] [] (He.ga K "law") fd_law := F_law
  have B_law : Binds K fd_law ["_law_script"] [] := FunD.bindsN F_law fun _ _ _ _ _ _ us hl => match us, hl with | [_], _ => rfl
  have e := hfa.symm.trans (He.glo_ok X G (x := "law") (c.b 14 rfl))
  cases e
  exact ⟨{ a_is_integer := He.ga K "is_integer", fd_is_integer := fd_is_integer, F_is_integer := F_is_integer, B_is_integer := B_is_integer, k_is_integer := F_is_integer.kp, a_is_word := He.ga K "is_word", fd_is_word := fd_is_word, F_is_word := F_is_word, B_is_word := B_is_word, k_is_word := F_is_word.kp, a_is_wish := He.ga K "is_wish", fd_is_wish := fd_is_wish, F_is_wish := F_is_wish, B_is_wish := B_is_wish, k_is_wish := F_is_wish.kp, a_Row_init := He.ma K (He.ga K "Row") "__init__", fd_Row_init := fd_Row_init, F_Row_init := F_Row_init, B_Row_init := B_Row_init, a_Row_below := He5.wf K (He.ga K "Row") "property" "below", fd_Row_below := fd_Row_below, F_Row_below := F_Row_below, B_Row_below := B_Row_below, a_Row_upto := He5.wf K (He.ga K "Row") "property" "upto", fd_Row_upto := fd_Row_upto, F_Row_upto := F_Row_upto, B_Row_upto := B_Row_upto, a_check_wish := He.ga K "check_wish", fd_check_wish := fd_check_wish, F_check_wish := F_check_wish, B_check_wish := B_check_wish, k_check_wish := F_check_wish.kp, a_check_row := He.ga K "check_row", fd_check_row := fd_check_row, F_check_row := F_check_row, B_check_row := B_check_row, k_check_row := F_check_row.kp, a_wished_range := He.ga K "wished_range", fd_wished_range := fd_wished_range, F_wished_range := F_wished_range, B_wished_range := B_wished_range, k_wished_range := F_wished_range.kp, a_is_right := He.ga K "is_right", fd_is_right := fd_is_right, F_is_right := F_is_right, B_is_right := B_is_right, k_is_right := F_is_right.kp, a_wishes_of := He.ga K "wishes_of", fd_wishes_of := fd_wishes_of, F_wishes_of := F_wishes_of, B_wishes_of := B_wishes_of, k_wishes_of := F_wishes_of.kp, a__law_store := He.ga K "_law_store", fd__law_store := fd__law_store, F__law_store := F__law_store, B__law_store := B__law_store, k__law_store := F__law_store.kp, a__law_pick := He.ga K "_law_pick", fd__law_pick := fd__law_pick, F__law_pick := F__law_pick, B__law_pick := B__law_pick, k__law_pick := F__law_pick.kp, a__law_right := He.ga K "_law_right", fd__law_right := fd__law_right, F__law_right := F__law_right, B__law_right := B__law_right, k__law_right := F__law_right.kp, a__law_wishes := He.ga K "_law_wishes", fd__law_wishes := fd__law_wishes, F__law_wishes := F__law_wishes, B__law_wishes := B__law_wishes, k__law_wishes := F__law_wishes.kp, a__law_rows := He.ga K "_law_rows", fd__law_rows := fd__law_rows, F__law_rows := F__law_rows, B__law_rows := B__law_rows, k__law_rows := F__law_rows.kp, a__law_great := He.ga K "_law_great", fd__law_great := fd__law_great, F__law_great := F__law_great, B__law_great := B__law_great, k__law_great := F__law_great.kp, a_law := He.ga K "law", fd_law := fd_law, F_law := F_law, B_law := B_law, k_law := F_law.kp, h_is_integer := He.glo_ok X G (x := "is_integer") (c.b 0 rfl), h_is_word := He.glo_ok X G (x := "is_word") (c.b 1 rfl), h_is_wish := He.glo_ok X G (x := "is_wish") (c.b 2 rfl), h_check_wish := He.glo_ok X G (x := "check_wish") (c.b 3 rfl), h_check_row := He.glo_ok X G (x := "check_row") (c.b 4 rfl), h_wished_range := He.glo_ok X G (x := "wished_range") (c.b 5 rfl), h_is_right := He.glo_ok X G (x := "is_right") (c.b 6 rfl), h_wishes_of := He.glo_ok X G (x := "wishes_of") (c.b 7 rfl), h__law_store := He.glo_ok X G (x := "_law_store") (c.b 8 rfl), h__law_pick := He.glo_ok X G (x := "_law_pick") (c.b 9 rfl), h__law_right := He.glo_ok X G (x := "_law_right") (c.b 10 rfl), h__law_wishes := He.glo_ok X G (x := "_law_wishes") (c.b 11 rfl), h__law_rows := He.glo_ok X G (x := "_law_rows") (c.b 12 rfl), h__law_great := He.glo_ok X G (x := "_law_great") (c.b 13 rfl), h_law := He.glo_ok X G (x := "law") (c.b 14 rfl), a_Row := He.ga K "Row", h_Row := He.glo_ok X G (x := "Row") (c.b 15 rfl), k_Row := He.keep_ok (x := "Row") (c.b 16 rfl), c_Row := He.cls_ok (x := "Row") (c.b 17 rfl), M_Row := He.mkr_ok (x := "Row") (c.b 18 rfl), p_Row_below := He.ma K (He.ga K "Row") "below", P_Row_below := prop_ok (c.b 19 rfl), p_Row_upto := He.ma K (He.ga K "Row") "upto", P_Row_upto := prop_ok (c.b 20 rfl), n_Row_place := He.noat_ok (x := "Row") (f := "place") (c.b 21 rfl), i_Row := isi_ok (c.b 22 rfl), no_Row := noc_ok (c.b 23 rfl), a_WISHES := He.ga K "WISHES", h_WISHES := He.glo_ok X G (x := "WISHES") (c.b 24 rfl), con_WISHES := con_ref (c.b 25 rfl), b_abs := He.free_ok X G (x := "abs") (c.b 26 rfl), b_bool := He.free_ok X G (x := "bool") (c.b 27 rfl), b_divmod := He.free_ok X G (x := "divmod") (c.b 28 rfl), b_int := He.free_ok X G (x := "int") (c.b 29 rfl), b_isinstance := He.free_ok X G (x := "isinstance") (c.b 30 rfl), b_max := He.free_ok X G (x := "max") (c.b 31 rfl), b_min := He.free_ok X G (x := "min") (c.b 32 rfl), b_range := He.free_ok X G (x := "range") (c.b 33 rfl), b_repr := He.free_ok X G (x := "repr") (c.b 34 rfl), b_str := He.free_ok X G (x := "str") (c.b 35 rfl), b_tuple := He.free_ok X G (x := "tuple") (c.b 36 rfl) }, rfl⟩
abbrev R : PySem.W.OpenRow := PySem.W.OpenLaw.row PySem.Challenge.rw_searchloops_k12_right_results
abbrev hk : PySem.W.Hook := hookE 6 fns exs fys
def ob (s : PySem.W.SharedT) : AlE := obsEG 6 fns exs fys (HandSHeadRun.getT s)
theorem ob_eq (s : PySem.W.SharedT) : ob s = hk.obs s.abs := obsE_tree s
set_option maxHeartbeats 0 in
theorem run0 (w : World) : HandSHeadRun.RunEq R (PySem.W.view R.prog [30]) hk ob 9000 loose (w.withFollow "special-get-raises" false) := by
  intro os
  kernel_rfl
theorem run1 (w : World) : HandSHeadRun.RunEq R (PySem.W.view R.prog [30]) hk ob 9000 loose (w.withFollow "special-get-raises" true) := by
  intro os
  kernel_rfl
theorem run (w : World) : HandSHeadRun.RunEq R (PySem.W.view R.prog [30]) hk ob 9000 loose w := PySem.W.byRow2 "special-get-raises" run0 run1 w
theorem fin {w : World} {K : PySem.W.Frag} {h : Heap} {mg : Str → Option Value} {fa : Addr} (X : K.In h) (ex : ∃ D : Wd Pg K mg, D.a_law = fa) : ∃ (K : PySem.W.Frag) (sp : Sp), K.In h ∧
    (∀ (H : Hp) (a : Addr) (ns : List Int), ns.length ≤ 63 → Only H → SqL K H a (ns.map V.int) → sp [.ref a] H (fun v _ => v = .bl true) E0) ∧ ∀ base : Heap, K.In base → base.Ns mainGlobals mg → FnZ Pg w K mg base 6 fa sp := by
  obtain ⟨D, rfl⟩ := ex
  exact ⟨K, spLaw K, X, fun H a ns hl _ hS => ⟨a, ns, rfl, hS, hl, fun _ => rfl⟩, fun base _ _ => ok_law D⟩
end Pf
open PySem PySem.W PySem.Calls PyProof.Rows in
set_option maxRecDepth 100000 in
set_option maxHeartbeats 0 in
theorem PySem.Challenge.cw_searchloops_k12_right_results_holds : PySem.Challenge.rw_searchloops_k12_right_results.Holds := by
  w_on; o_law
  refine HandSHeadRun.head_any (r := OpenLaw.row PySem.Challenge.rw_searchloops_k12_right_results) (q := view (PySem.W.OpenLaw.row PySem.Challenge.rw_searchloops_k12_right_results).prog [30]) (H := Pf.hk) (ob := Pf.ob) (M := 9000) (loose := Pf.loose) (d := HandSHeadRun.topDef (PySem.W.OpenLaw.row PySem.Challenge.rw_searchloops_k12_right_results).prog 30) (kwd := []) Pf.ob_eq
    (by kernel_rfl) (fun s => by kernel_rfl) Pf.run (by kernel_rfl) (by kernel_rfl) (by kernel_rfl) (by rfl) (by first | assumption | decide +kernel) (by decide +kernel) ⟨rfl, rfl, rfl, rfl, rfl, by decide +kernel⟩ ?hw ?hc
  case hw => w_witness2
  case hc =>
    refine Z.walk_z (l := PySem.Challenge.rw_searchloops_k12_right_results) (n := 63) (k := 6) rfl (by decide) (by kernel_rfl) ⟨⟨rfl, by decide, by decide⟩, rfl⟩ ?F
    intro w mg fa h Y G hmg0
    obtain ⟨K, KX, c⟩ := Y
    have hmg : mg ("law" : PySem.Str) = some (.ref fa) := by
      have e : (HandSHeadRun.topDef (PySem.W.OpenLaw.row PySem.Challenge.rw_searchloops_k12_right_results).prog 30).name = ("law" : PySem.Str) := by kernel_rfl
      rw [← e]
      exact hmg0
    exact Pf.fin KX (Pf.wd_mk KX G hmg c)
#print axioms PySem.Challenge.cw_searchloops_k12_right_results_holds
