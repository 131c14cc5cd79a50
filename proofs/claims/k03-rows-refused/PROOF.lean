import PyProof.Rows.All
import Wide.All
import OpenK.AllK
import Wide.FinOn
import HandS.ForMost
import HandS.ForExc
import HandS.More
import HandS.IsInst
import HandS.Flow
import HandS.Property
import HandS.Defaults
import HandS.TupLe
import HandS.SlotsOwn
import HandS.ClsMeth
import HandS.Ends
import PyProof.ReprRoads
import HandS.StrMore
import HandS.Head0
import HandS.Head1
import HandS.Head2
import HandS.HeadHook1
import HandS.HeadHook2
import HandS.HeadNt
import HandS.FStr
import HandS.Text
import HandS.Small
import HandS.RaiseMore
import KE.KFmtOwn
import KE.KCallOwn
import PyProof.CallFns
import PyProof.CallStr
import KE.KExcInit
import KE.KExcSuper
import KE.KSuper
import HandS.ExcInit
import PySem.Challenge.RW_searchloops_k03_rows_refused
set_option Elab.async false
set_option linter.all false
set_option maxRecDepth 100000
set_option maxHeartbeats 4000000
namespace Z
open PySem PySem.Spec PyProof.Rows L2

/-! what is wanted of an exception, by the context -/
def xw (X : Cx) (σ : L2.St) : XK := fun cls d H => ∀ u s', XE X (fun c d' σ' H' => c = cls ∧ d' = d ∧ σ' = σ ∧ H' = H) u s' → X.xe u s'
theorem takes_w {X : Cx} : Takes X (fun cls d σ H => xw X σ cls d H) := by
  rintro u s' ⟨a, B, sI, pins, σ, H, cls, d, e, I, nb, up, sky, na, os, ag, w⟩
  exact w u s' ⟨a, B, sI, pins, σ, H, cls, d, e, I, nb, up, sky, na, os, ag, rfl, rfl, rfl, rfl⟩
theorem xw_of {X : Cx} {W : WX} (tk : Takes X W) {σ : L2.St} {cls : Value} {d : Option Addr} {H : Hp} (w : W cls d σ H) : xw X σ cls d H := by
  rintro u s' ⟨a, B, sI, pins, σ', H', cls', d', e, I, nb, up, sky, na, os, ag, rfl, rfl, rfl, rfl⟩
  exact tk u s' ⟨a, B, sI, pins, _, _, _, _, e, I, nb, up, sky, na, os, ag, w⟩

/-- where a body runs: what its context and those of its comprehensions and tries have in common -/
structure En where
  P : Program
  w : World
  K : PySem.W.Frag
  mg : Str → Option Value
  base : Heap
  A : Around
structure Of (e : En) (X : Cx) : Prop where
  P : X.prog = e.P
  w : X.w = e.w
  K : X.K = e.K
  mg : X.mg = e.mg
  base : X.base = e.base
  A : X.A = e.A
  calm : e.A.handled = none → X.calm = true
  dp : e.A.depth + 5 < recursionLimit

/-! operations by values, whatever they are -/
structure vOp (e : En) (f : Value → Value → Sem Value) (x y : V) (H : Hp) (Q : VK) : Prop where
  run : ∀ (X : Cx), Of e X → ∀ (pins : List (Addr × Obj)) (s : Shared) (σ : L2.St) (v u : Value), Inv X pins σ H s → RelV x v → RelV y u → wpAny (model X.prog X.w) X.A (f v u) (EP X pins σ Q) X.xe s
theorem opr_v {e : En} {X : Cx} {f : Value → Value → Sem Value} (o : Of e X) : OpR X f (vOp e f) := fun pins s σ _ _ _ v u _ I rx ry h => h.run X o pins s σ v u I rx ry
theorem vOp_of {e : En} {f : Value → Value → Sem Value} {r : R2} (h : ∀ X, Of e X → OpR X f r) {x y : V} {H : Hp} {Q : VK} (q : r x y H Q) : vOp e f x y H Q := ⟨fun X o pins s σ v u I rx ry => h X o pins s σ H x y v u Q I rx ry q⟩
theorem vOp_ofK {e : En} {f : Value → Value → Sem Value} {r : PySem.W.Frag → R2} (h : ∀ X, Of e X → OpR X f (r X.K)) {x y : V} {H : Hp} {Q : VK} (q : r e.K x y H Q) : vOp e f x y H Q := ⟨fun X o pins s σ v u I rx ry =>
  h X o pins s σ H x y v u Q I rx ry (by rw [o.K]; exact q)⟩
structure vUn (e : En) (f : Value → Sem Value) (x : V) (H : Hp) (Q : VK) : Prop where
  run : ∀ (X : Cx), Of e X → ∀ (pins : List (Addr × Obj)) (s : Shared) (σ : L2.St) (v : Value), Inv X pins σ H s → RelV x v → wpAny (model X.prog X.w) X.A (f v) (EP X pins σ Q) X.xe s
theorem unr_v {e : En} {X : Cx} {f : Value → Sem Value} (o : Of e X) : UnR X f (vUn e f) := fun pins s σ _ _ v _ I rx h => h.run X o pins s σ v I rx
theorem vUn_of {e : En} {f : Value → Sem Value} {r : V → Hp → VK → Prop} (h : ∀ X, Of e X → UnR X f r) {x : V} {H : Hp} {Q : VK} (q : r x H Q) : vUn e f x H Q := ⟨fun X o pins s σ v I rx => h X o pins s σ H x v Q I rx q⟩
structure vIx (e : En) (x y : V) (H : Hp) (Q : VK) : Prop where
  run : ∀ (X : Cx), Of e X → ∀ (value slice : Expr) (pins : List (Addr × Obj)) (s : Shared) (σ : L2.St) (v u : Value), Inv X pins σ H s → RelV x v → RelV y u →
    subscripted slice false v u = operate [v, u] (getItem v u) → wpAny (model X.prog X.w) X.A (subscriptTail value slice v u) (EP X pins σ Q) X.xe s
theorem ixr_v {e : En} {X : Cx} (o : Of e X) : IxR X (vIx e) := fun value slice pins s σ _ _ _ v u _ I rx ry h z => h.run X o value slice pins s σ v u I rx ry z
theorem vIx_ofK {e : En} {r : PySem.W.Frag → R2} (h : ∀ X, Of e X → IxR X (r X.K)) {x y : V} {H : Hp} {Q : VK} (q : r e.K x y H Q) : vIx e x y H Q := ⟨fun X o value slice pins s σ v u I rx ry z =>
  h X o value slice pins s σ H x y v u Q I rx ry (by rw [o.K]; exact q) z⟩
structure vCB (e : En) (f : Value) (xs : List V) (H : Hp) (Q : VK) : Prop where
  run : ∀ (X : Cx), Of e X → ∀ (pins : List (Addr × Obj)) (s : Shared) (σ : L2.St) (us : List Value), Inv X pins σ H s → Vals xs us → wpAny (model X.prog X.w) X.A (call f us) (EP X pins σ Q) X.xe s
theorem cbr_v {e : En} {X : Cx} {f : Value} (o : Of e X) : CallR X f (vCB e f) := fun pins s σ _ _ us _ I r h => h.run X o pins s σ us I r
theorem vCB_of {e : En} {f : Value} {r : List V → Hp → VK → Prop} (h : ∀ X, Of e X → CallR X f r) {xs : List V} {H : Hp} {Q : VK} (q : r xs H Q) : vCB e f xs H Q := ⟨fun X o pins s σ us I rx => h X o pins s σ H xs us Q I rx q⟩
theorem vCB_ofK {e : En} {f : Value} {r : PySem.W.Frag → List V → Hp → VK → Prop} (h : ∀ X, Of e X → CallR X f (r X.K)) {xs : List V} {H : Hp} {Q : VK} (q : r e.K xs H Q) : vCB e f xs H Q := ⟨fun X o pins s σ us I rx =>
  h X o pins s σ H xs us Q I rx (by rw [o.K]; exact q)⟩
/-- a call of a value; W: what is wanted of an exception -/
structure vCall (e : En) (f : Value) (xs : List V) (W : XK) (H : Hp) (Q : VK) : Prop where
  run : ∀ (X : Cx), Of e X → ∀ (pins : List (Addr × Obj)) (s : Shared) (σ : L2.St) (us : List Value), (∀ cls d H', W cls d H' → xw X σ cls d H') → Inv X pins σ H s → Vals xs us → wpAny (model X.prog X.w) X.A (call f us) (EP X pins σ Q) X.xe s
theorem vCall_of {e : En} {f : Value} {r : List V → Hp → VK → Prop} (h : ∀ X, Of e X → CallR X f r) {xs : List V} {W : XK} {H : Hp} {Q : VK} (q : r xs H Q) : vCall e f xs W H Q := ⟨fun X o pins s σ us _ I rx => h X o pins s σ H xs us Q I rx q⟩
structure vTru (e : En) (x : V) (H : Hp) (Q : Bool → Hp → Prop) : Prop where
  run : ∀ (X : Cx), Of e X → ∀ (pins : List (Addr × Obj)) (s : Shared) (σ : L2.St) (v : Value), Inv X pins σ H s → RelV x v → wpAny (model X.prog X.w) X.A (truthy v) (TP X pins σ Q) X.xe s
theorem trr_v {e : En} {X : Cx} (o : Of e X) : TruR X (vTru e) := fun pins s σ _ _ v _ I r h => h.run X o pins s σ v I r
theorem vTru_ofK {e : En} {r : PySem.W.Frag → V → Hp → (Bool → Hp → Prop) → Prop} (h : ∀ X, Of e X → TruR X (r X.K)) {x : V} {H : Hp} {Q : Bool → Hp → Prop} (q : r e.K x H Q) : vTru e x H Q := ⟨fun X o pins s σ v I rx =>
  h X o pins s σ H x v Q I rx (by rw [o.K]; exact q)⟩
structure vSet (e : En) (o i v : V) (H : Hp) (Q : Hp → Prop) : Prop where
  run : ∀ (X : Cx), Of e X → ∀ (pins : List (Addr × Obj)) (s : Shared) (σ : L2.St) (ov iv u : Value), Inv X pins σ H s → RelV o ov → RelV i iv → RelV v u → wpAny (model X.prog X.w) X.A (setItem ov iv u) (fun _ s' => ∃ H', Inv X pins σ H' s' ∧ Q H') X.xe s
theorem set_v {e : En} {X : Cx} (o : Of e X) : PSet X (vSet e) := fun pins s σ _ _ _ _ ov iv u _ I a b c h => h.run X o pins s σ ov iv u I a b c
theorem vSet_of {e : En} {r : TSet} (h : ∀ X, Of e X → PSet X r) {o i v : V} {H : Hp} {Q : Hp → Prop} (q : r o i v H Q) : vSet e o i v H Q := ⟨fun X ox pins s σ ov iv u I a b c => h X ox pins s σ H o i v ov iv u Q I a b c q⟩
structure vSl (e : En) (x : V) (lo hi : Option Int) (H : Hp) (Q : VK) : Prop where
  run : ∃ r : PySem.W.Frag → V → Option Int → Option Int → Hp → VK → Prop, (∀ X, Of e X → SlR X (r X.K)) ∧ r e.K x lo hi H Q
theorem slr_v {e : En} {X : Cx} (o : Of e X) : SlR X (vSl e) := by
  intro pins s σ H x lo hi v vl vu sl Q I rx hs pl pu ⟨⟨r, hr, q⟩⟩
  rw [← o.K] at q
  exact hr X o pins s σ H x lo hi v vl vu sl Q I rx hs pl pu q
/-- an attribute's value -/
structure vAttr (e : En) (f : Str) (x : V) (W : XK) (H : Hp) (Q : VK) : Prop where
  run : ∀ (X : Cx), Of e X → ∀ (pins : List (Addr × Obj)) (s : Shared) (σ : L2.St) (b : Bool) (v : Value), (∀ cls d H', W cls d H' → xw X σ cls d H') → Inv X pins σ H s → RelV x v → wpAny (model X.prog X.w) X.A (getAttr v f b) (EP X pins σ Q) X.xe s

/-! a name: computes -/
def tV (i : Nat) : TE := fun σ H Q => match σ[i]? with | some (some v) => Q v H | _ => False
theorem pe_imp {X : Cx} {e : Expr} {t t' : TE} (h : PE X e t) (i : ∀ σ H Q, t' σ H Q → t σ H Q) : PE X e t' := ⟨fun pins s σ H Q I q => h.run pins s σ H Q I (i σ H Q q)⟩
theorem tV_var {i : Nat} {σ : L2.St} {H : Hp} {Q : VK} (h : tV i σ H Q) : tVar i σ H Q := by
  unfold tV at h
  split at h
  · exact ⟨_, by assumption, h⟩
  · exact h.elim
/-- a call; an attribute; a method's call -/
def tCallU (e : En) (W : WX) (u : Value) (t : TA) : TE := fun σ H Q => t σ H fun vs H1 => vCall e u vs (fun c d H' => W c d σ H') H1 Q
def tAttr (e : En) (W : WX) (f : Str) (te : TE) : TE := fun σ H Q => te σ H fun x H1 => vAttr e f x (fun c d H' => W c d σ H') H1 Q
def tMethU (e : En) (W : WX) (m : Str) (ta : TE) (t : TA) : TE := fun σ H Q => ta σ H fun x H1 => ∃ a C dx fs g, x = .ref a ∧ H1 a = some (.ins C dx fs) ∧ Cls e.K C ∧ Meth e.K C m g ∧ fs.lookup m = none ∧
  t σ H1 fun vs H2 => vCall e (.ref g) (.ref a :: vs) (fun c d H' => W c d σ H') H2 Q
/-- a value's truth as a test -/
def tTruU (e : En) (te : TE) : TT := fun σ H Q => te σ H fun x H1 => vTru e x H1 Q
section
variable {n : En} {X : Cx} {W : WX} {a b c e : Expr} {es : List Expr} {ta tb tc te : TE} {t : TA} {pos p apos : Pos} {x : Str}
theorem zv (i : Nat) (hN : X.N[i]? = some x := by rfl) (hv : Vis X.env.scope x := by first | exact Or.inl rfl | exact Or.inr (Or.inl rfl) | exact Or.inr (Or.inr rfl)) (hd : (x == ("__debug__" : Str)) = false := by decide)
    (hcd : (x == ("__classdict__" : Str)) = false := by decide) : PE X (.Name x pos) (tV i) := pe_imp (pv i hN hv hd hcd) fun _ _ _ h => tV_var h
/-- a call of a value that the module's top holds -/
theorem z_call (o : Of n X) (tk : Takes X W) {u : Value} (hm : X.mg x = some u) (hk : PySem.W.keepIn X.K u = true) (ha : PA X (e :: es) t) (hg : Gl X x := by rfl) (hdb : (x == ("__debug__" : Str)) = false := by decide)
    (he : starEach (e :: es) X.env = (false, eval e X.env) :: starEach es X.env := by rfl) (hpl : (backTo pos (starEach es X.env)).any (·.1) = false := by rfl) :
    PE X (.Call (.Name x p) (e :: es) [] pos) (tCallU n W u t) := by
  refine ⟨fun pins s σ H Q I h => ?_⟩
  refine wpAny_Call_Name_kw (ld_glob I hg hm ?_ hdb)
  exact PySem.W.callWith_K (h₀ := X.base) I.ok.mod.kin hk (thn (ha.run pos pins s σ H _ I h) fun us s1 ⟨vs, H1, I1, r, q⟩ => ⟨I1.kIn, q.run X o pins s1 σ us (fun _ _ _ w => xw_of tk w) I1 r⟩) he hpl
theorem z_call0 (o : Of n X) (tk : Takes X W) {u : Value} (hm : X.mg x = some u) (hk : PySem.W.keepIn X.K u = true) (hg : Gl X x := by rfl) (hdb : (x == ("__debug__" : Str)) = false := by decide) :
    PE X (.Call (.Name x p) [] [] pos) (tCallU n W u tNil) := by
  refine ⟨fun pins s σ H Q I h => ?_⟩
  refine wpAny_Call_Name_kw (ld_glob I hg hm ?_ hdb)
  exact PySem.W.callWith_K0 I.kIn hk (h.run X o pins s σ [] (fun _ _ _ w => xw_of tk w) I .nil)
theorem z_attr (o : Of n X) (tk : Takes X W) {f : Str} (he : PE X e te) (hb : attributeBase e f X.env (eval e X.env) = eval e X.env := by rfl) : PE X (.Attribute e f pos) (tAttr n W f te) := by
  refine ⟨fun pins s σ H Q I h => ?_⟩
  exact attr_of hb (thn (he.run pins s σ H _ I h) fun u s1 ⟨x, H1, I1, rx, q⟩ => q.run X o pins s1 σ _ u (fun _ _ _ w => xw_of tk w) I1 rx)
/-- o.m(e, ..), o an instance of an own class -/
theorem z_meth (oo : Of n X) (tk : Takes X W) {pl : Sem Bool} {m : Str} {o : Expr} (he : PE X o ta) (ha : PA X (e :: es) t)
    (hst : starEach (e :: es) X.env = (false, eval e X.env) :: starEach es X.env := by rfl) (hpl : (backTo pos (starEach es X.env)).any (·.1) = false := by rfl)
    (ht : eval (.Call (.Attribute o m apos) (e :: es) [] pos) X.env = (do
      let ov ← eval o X.env
      standAt apos.atName
      let (f, first) ← holding [ov] (getMethod ov m pl)
      callWith pos f first (backTo pos (starEach (e :: es) X.env)) (backToKw pos (keywordEach [] X.env))) := by rfl) :
    PE X (.Call (.Attribute o m apos) (e :: es) [] pos) (tMethU n W m ta t) := by
  refine ⟨fun pins s σ H Q I h => ?_⟩
  refine PySem.W.methodCall_KW (pl := pl) (thn (he.run pins s σ H _ I h) fun u s1 ⟨x, H1, I1, rx, a, C, dx, fs, g, ex, ea, c, hm, l, q⟩ => ?_) ht
  subst ex
  obtain rfl : u = Value.ref a := rx
  rw [← oo.K] at c hm
  refine getmeth_ok I1 ea c hm l ?_
  exact PySem.W.callWith_K (first := [.ref a]) (h₀ := X.base) I.ok.mod.kin hm.kp (thn (ha.run pos pins s1 σ H1 _ I1 q) fun us s2 ⟨vs, H2, I2, r, q2⟩ => ⟨I2.kIn, q2.run X oo pins s2 σ (.ref a :: us) (fun _ _ _ w => xw_of tk w) I2 (.cons rfl r)⟩) hst hpl
theorem z_meth0 (oo : Of n X) (tk : Takes X W) {pl : Sem Bool} {m : Str} {o : Expr} (he : PE X o ta)
    (ht : eval (.Call (.Attribute o m apos) [] [] pos) X.env = (do
      let ov ← eval o X.env
      standAt apos.atName
      let (f, first) ← holding [ov] (getMethod ov m pl)
      callWith pos f first (backTo pos (starEach [] X.env)) (backToKw pos (keywordEach [] X.env))) := by rfl) :
    PE X (.Call (.Attribute o m apos) [] [] pos) (tMethU n W m ta tNil) := by
  refine ⟨fun pins s σ H Q I h => ?_⟩
  refine PySem.W.methodCall_KW (pl := pl) (thn (he.run pins s σ H _ I h) fun u s1 ⟨x, H1, I1, rx, a, C, dx, fs, g, ex, ea, c, hm, l, q⟩ => ?_) ht
  subst ex
  obtain rfl : u = Value.ref a := rx
  rw [← oo.K] at c hm
  refine getmeth_ok I1 ea c hm l ?_
  exact PySem.W.callWith_K0 (first := [.ref a]) I1.kIn hm.kp (q.run X oo pins s1 σ [.ref a] (fun _ _ _ w => xw_of tk w) I1 (.cons rfl .nil))
theorem z_tru (o : Of n X) (he : PE X e te) (hs : ∀ whole, isTrue e X.env whole = (do let v ← whole; standAt e.pos; holding [v] (truthy v)) := by intro _; rfl) : PT X e (tTruU n te) := by
  refine ⟨fun pins s σ H Q I hw => ?_⟩
  refine isTrue_plain (thn (he.run pins s σ H _ I hw) fun v s1 ⟨x, H1, I1, r1, q1⟩ => ?_) (hs _)
  exact q1.run X o pins s1 σ v I1 r1
end

/-! the world of a body -/
section
variable {P : Program} {w : World} {K : PySem.W.Frag} {mg : Str → Option Value} {base : Heap} {A : Around} {k j : Nat} {E W : XK} {f C : Addr} {sp : Sp} {vs : List V} {H : Hp} {Q : VK}
/-- room for calls, and no list or tuple is being shown -/
structure Rm (k : Nat) (A : Around) : Prop extends Room k A where
  gs : A.guards = some []
theorem Rm.le {j k : Nat} {A : Around} (r : Rm k A) (h : j ≤ k) : Rm j A := ⟨r.toRoom.mono h, r.gs⟩
theorem Rm.down {k : Nat} {A : Around} (r : Rm (k + 1) A) (env : Env) : Rm k (A.deeper env) := ⟨r.toRoom.deeper env, r.gs⟩
theorem Rm.step {k : Nat} {A : Around} (r : Rm (k + 1) A) : Rm k A.in1 := ⟨r.toRoom.in1, r.gs⟩
theorem Rm.made {k : Nat} {A : Around} (r : Rm (k + 1) A) (C : Addr) (us : List Value) : Rm k (A.under (.builtin "type.__call__" ⟨.ref C :: us, []⟩)) :=
  ⟨r.toRoom.make C us [], show pushGuards (Code.guards (.builtin "type.__call__" ⟨.ref C :: us, []⟩)) A.guards = some [] by
    have e : Code.guards (.builtin "type.__call__" ⟨.ref C :: us, []⟩) = [] := if_neg (by rw [show Code.isGuard (.builtin "type.__call__" ⟨.ref C :: us, []⟩) = false from (by decide +kernel : guardIds.contains "type.__call__" = false)]; decide)
    rw [e]; exact r.gs⟩
/-- what a def promises -/
def FnZ (P : Program) (w : World) (K : PySem.W.Frag) (mg : Str → Option Value) (base : Heap) (k : Nat) (f : Addr) (sp : Sp) : Prop :=
  ∀ (A : Around) (out : List Env) (s : Shared) (H : Hp) (us : List Value) (vs : List V) (Q : VK) (E : XK), Rm k A → Env0 P w K mg base A out s H → Vals vs us → sp vs H Q E → codeAny (model P w) A (.call (.ref f) ⟨us, []⟩) (CR (L2.CX P w) out P w H s Q E) s
theorem FnZ.imp {sp' : Sp} (F : FnZ P w K mg base k f sp) (h : ∀ vs H Q E, sp' vs H Q E → sp vs H Q E) : FnZ P w K mg base k f sp' := fun A out s H us vs Q E hr e r q => F A out s H us vs Q E hr e r (h _ _ _ _ q)
theorem call_z (hr : Rm k A) (F : FnZ P w K mg base j f sp) (h : sp vs H Q W) (hj : j ≤ k := by decide) : vCall ⟨P, w, K, mg, base, A⟩ (.ref f) vs W H Q := by
  refine ⟨?_⟩
  rintro X ⟨rfl, rfl, rfl, rfl, rfl, hA, hc⟩ pins s σ us hW I r
  have hA : X.A = A := hA
  subst hA
  refine wpAny_call (codeAny_mono (F X.A X.stack s H us vs Q W (hr.le hj) I.env0 r h) fun r s' hq => ?_)
  cases r with
  | error e =>
    obtain ⟨a, B, H', cls, d, e1, fl, hok, ub, na, os, ag, hE⟩ := hq
    exact takes_w e s' (XE.of_call (W := fun cls d σ H => xw X σ cls d H) (E := xw X σ) I (fun cls d H' h => h) ⟨a, B, H', cls, d, e1, fl, hok, ub, na, os, ag, hW _ _ _ hE⟩)
  | ok fl =>
    cases fl with
    | ret u => exact I.after hq
    | next => exact False.elim hq
    | brk => exact False.elim hq
    | cont => exact False.elim hq
theorem run_z {X : Cx} {pins : List (Addr × Obj)} {σ : L2.St} {s : Shared} {us : List Value} (F : FnZ X.prog X.w X.K X.mg X.base j f sp) (hr : Rm j X.A) (I : Inv X pins σ H s) (r : Vals vs us) (h : sp vs H Q E0) :
    codeAny (model X.prog X.w) X.A (.call (.ref f) ⟨us, []⟩) (fun r s' => match r with | .ok (.ret v) => EP X pins σ Q v s' | .ok _ => False | .error e => X.xe e s') s :=
  codeAny_mono (F X.A X.stack s H us vs Q E0 hr I.env0 r h) fun r s' z => match r, z with
    | .ok (.ret _), z => I.after z
    | .error _, ⟨_, _, _, _, _, _, _, _, _, _, _, _, z⟩ => z.elim
theorem make_z {fI : Addr} (hr : Rm k A) (M : Mk K C fI) (F : FnZ P w K mg base j fI sp)
    (h : ∀ x dx, H x = none → H dx = none → dx ≠ x → sp (.ref x :: vs) (upd (upd H dx (.own x)) x (.ins C dx [])) (fun v H2 => v = .non ∧ Q (.ref x) H2) W) (hj : j + 1 ≤ k := by decide) : vCall ⟨P, w, K, mg, base, A⟩ (.ref C) vs W H Q := by
  refine ⟨?_⟩
  rintro X ⟨rfl, rfl, rfl, rfl, rfl, hA, hc⟩ pins s σ us hW I r
  have hA : X.A = A := hA
  subst hA
  have hq := h (s.heap.objs.size + 1) s.heap.objs.size (I.hok.fresh (Nat.le_succ _)) (I.hok.fresh (Nat.le_refl _)) (Nat.ne_of_lt (Nat.lt_succ_self _))
  have I2 := Inv.made (C := C) I
  have r2 : Vals (V.ref (s.heap.objs.size + 1) :: vs) (Value.ref (s.heap.objs.size + 1) :: us) := .cons rfl r
  refine wpAny_call (make_map (f := fI) I.kIn M.makes M.init (beq_iff_eq.mp M.fn) (codeAny_mono (F _ X.stack _ _ (Value.ref (s.heap.objs.size + 1) :: us) _ _ W ((hr.le hj).made C us)
    (I2.env0.make C us []) r2 hq) fun r s' hq' => ?_))
  cases r with
  | error e =>
    obtain ⟨a, B, H', cls, d, e1, fl, hok, ub, na, os, ag, hE⟩ := hq'
    exact takes_w e s' (XE.of_call (W := fun cls d σ H => xw X σ cls d H) (E := xw X σ) I2 (fun cls d H' h => h) ⟨a, B, H', cls, d, e1, fl, hok, ub, na, os, ag, hW _ _ _ hE⟩)
  | ok fl =>
    cases fl with
    | ret u =>
      obtain ⟨v, H', I3, rv, ev, q3⟩ := I2.after hq'
      subst ev
      exact ⟨rv, ⟨V.ref (s.heap.objs.size + 1), H', I3, rfl, q3⟩⟩
    | next => exact False.elim hq'
    | brk => exact False.elim hq'
    | cont => exact False.elim hq'
theorem attr_fld {n : En} {a dx : Addr} {fs : List (Str × V)} {g : Str} {v : V} (e : H a = some (.ins C dx fs)) (c : Cls n.K C) (na : NoAttr n.K C g) (l : fs.lookup g = some v) (q : Q v H) : vAttr n g (.ref a) W H Q := by
  refine ⟨?_⟩
  intro X o pins s σ b u _ I r
  obtain rfl : u = Value.ref a := r
  rw [← o.K] at c na
  exact getattr_ok I e c na l fun u' s2 I2 ru => ⟨v, H, I2, ru, q⟩
theorem attr_prop {a dx p g : Addr} {fs : List (Str × V)} {m : Str} (hr : Rm k A) (e : H a = some (.ins C dx fs)) (c : Cls K C) (hp : PropOf K C m p g) (F : FnZ P w K mg base j g sp)
    (h : sp [.ref a] H Q E0) (hj : j + 1 ≤ k := by decide) : vAttr ⟨P, w, K, mg, base, A⟩ m (.ref a) W H Q := by
  refine ⟨?_⟩
  rintro X ⟨rfl, rfl, rfl, rfl, rfl, hA, hc⟩ pins s σ b u _ I r
  have hA : X.A = A := hA
  subst hA
  obtain rfl : u = Value.ref a := r
  obtain ⟨mA, O, _, _, _, _⟩ := ins_get I.hok e
  obtain ⟨od, J, _⟩ := O.look
  obtain ⟨rest, hrec⟩ := hp.rec_
  have I1 := I.tok (s.toks + 1)
  have hcl : (PySem.W.clsIn X.K C).isSome = true := by
    obtain ⟨cd, hc, _⟩ := PySem.W.any_some c.hd
    rw [hc]
    rfl
  refine PySem.W.get_bind I.kIn J (PySem.W.plainGet_of (c.get m)).1 (PySem.W.findObj_data hcl hp.at_ hp.get hp.tak) (PySem.W.plainGet_of (c.get m)).2 (wpAny_call (PySem.W.prop_get (s := { s with toks := s.toks + 1 }) I.kIn hrec ?_))
  refine codeAny_mono (F X.A.in1 X.stack { s with toks := s.toks + 1 } H [.ref a] [.ref a] Q E0 (hr.le hj).step I1.env0.in1 (.cons rfl .nil) h) fun r s' hq => ?_
  cases r with
  | error er =>
    obtain ⟨_, _, _, _, _, _, _, _, _, _, _, _, z⟩ := hq
    exact z.elim
  | ok fl =>
    cases fl with
    | ret u =>
      obtain ⟨v, H', I3, rv, q3⟩ := I1.after hq
      show wpAny _ _ (handedOut u) _ _ _
      rw [PySem.W.handedOut_of (handed_of rv)]
      exact wpAny_pure ⟨v, H', I3, rv, q3⟩
    | next => exact False.elim hq
    | brk => exact False.elim hq
    | cont => exact False.elim hq
/-- what a def promises, by how its arguments bind -/
def FnB (P : Program) (w : World) (K : PySem.W.Frag) (mg : Str → Option Value) (base : Heap) (k : Nat) (f : Addr) (fd : FuncData) (ps : List Str) (sp : Sp) : Prop :=
  ∀ (A : Around) (out : List Env) (s : Shared) (H : Hp) (args : Args) (us : List Value) (vs : List V) (Q : VK) (E : XK), Rm k A → Env0 P w K mg base A out s H → BindsTo s fd args (ps.zip us) → Vals vs us → sp vs H Q E →
    codeAny (model P w) A (.call (.ref f) args) (CR (L2.CX P w) out P w H s Q E) s
theorem FnB.z {fd : FuncData} {ps : List Str} {sp' : Sp} {dvs : List V} {ds : List Value} (F : FnB P w K mg base k f fd ps sp') (hb : Binds K fd ps ds) (hd : Vals dvs ds) (len : ∀ vs H Q E, sp vs H Q E → (vs ++ dvs).length = ps.length) (h : ∀ vs H Q E, sp vs H Q E → sp' (vs ++ dvs) H Q E) : FnZ P w K mg base k f sp := by
  intro A out s H us vs Q E hr e0 r q
  have rr : Vals (vs ++ dvs) (us ++ ds) := r.append hd
  have kx := e0.mod.kin.keeps fun b o e => (e0.bs b o e).1
  exact F A out s H ⟨us, []⟩ (us ++ ds) (vs ++ dvs) Q E hr e0 (hb s us kx (by rw [← rr.length]; exact len _ _ _ _ q)) rr (h _ _ _ _ q)
/-- the rule of a def -/
theorem fn_b {x qual : Str} {st : Stmt} {fd : FuncData} {N ps : List Str} {fdv : List V} {kws : List (Str × V)} (F : FunD K x qual (defArgs st) (defBody st) (defScope st) fdv kws f fd) (S : FnScope N ps (defScope st)) (t : En → WX → TS)
    (len : ∀ vs H Q E, sp vs H Q E → vs.length = ps.length)
    (hder : ∀ (cdv : Value) (A : Around) (outer : List Env) (s : Shared) (H : Hp) (E : XK), Of ⟨P, w, K, mg, base, A.deeper (envOfC qual (defScope st) s.heap.objs.size f cdv)⟩ (cxOf (L2.CX P w) P w K mg base N qual (defScope st) f cdv A outer s H E) →
      Takes (cxOf (L2.CX P w) P w K mg base N qual (defScope st) f cdv A outer s H E) (fun cls d _ H => E cls d H) →
      PSs (cxOf (L2.CX P w) P w K mg base N qual (defScope st) f cdv A outer s H E) (defBody st) (t ⟨P, w, K, mg, base, A.deeper (envOfC qual (defScope st) s.heap.objs.size f cdv)⟩ (fun cls d _ H => E cls d H)))
    (hread : ∀ (A : Around) (E : XK), Rm k A → ∀ vs H Q, sp vs H Q E → t ⟨P, w, K, mg, base, A⟩ (fun cls d _ H => E cls d H) { nx := fun _ H' => Q .non H', rt := Q } (start N vs) H) : FnB P w K mg base (k + 1) f fd ps sp := by
  obtain ⟨oc, od, dV, kV, doc, pm, an, cdv, ct, osl, rfl, lk, hcd, _, _⟩ := F.ex
  intro A out s H args us vs Q E hr e0 hb rr h
  have hl := len _ _ _ _ h
  have up : ∀ b o, base.get? b = some o → s.heap.get? b = some o := fun b o e => (e0.bs b o e).1
  have kx := e0.mod.kin.keeps up
  refine codeAny_call_function hr.depth (kx _ _ lk) rfl S.co S.gen rfl (PySem.W.codeRec_of kx hcd) (hb _ _ _ _ ?_)
  refine wpAny_newFunctionEnv_cells S.kind (fun y hy => ?_) fun env he s1 x => ?_
  · rcases S.par y.1 (List.of_mem_zip hy).1 with q | q
    · exact .inl q
    · exact .inr ⟨q, PySem.W.cellsFrom_some _ _ _ (.inl q)⟩
  cases he
  refine ⟨(e0.mod.nolimit.keeps up).keeps x.toInCall.keep, codeAny_func ?_⟩
  have J := inv_start (CX := L2.CX P w) (E := E) S hr.hd e0 hl rr x
  have D := hder cdv A out s H E ⟨rfl, rfl, rfl, rfl, rfl, rfl, fun _ => rfl, by have := (hr.down (envOfC qual (defScope st) s.heap.objs.size f cdv)).dp; show (A.deeper _).depth + 5 < _; omega⟩ (takes_of rfl rfl rfl rfl)
  refine wpAny_mono (D.run [] s1 _ H _ J (hread _ E (hr.down _) vs H Q h)) (fun fl s2 z => ?_) fun _ _ z => z
  cases fl with
  | ret u => obtain ⟨v, σ, H2, I, rv, q⟩ := z; exact ⟨v, H2, I.os, I.bare, I.base, I.hok, rv, q⟩
  | next => obtain ⟨σ, H2, I, q⟩ := z; exact ⟨.non, H2, I.os, I.bare, I.base, I.hok, rfl, q⟩
  | brk => obtain ⟨_, _, _, q⟩ := z; exact q.elim
  | cont => obtain ⟨_, _, _, q⟩ := z; exact q.elim
/-- .. called by place -/
theorem fn_z {x qual : Str} {st : Stmt} {fd : FuncData} {N ps : List Str} {dvs fdv : List V} {kws : List (Str × V)} {ds : List Value} (F : FunD K x qual (defArgs st) (defBody st) (defScope st) fdv kws f fd) (S : FnScope N ps (defScope st)) (hb : Binds K fd ps ds) (hd : Vals dvs ds) (t : En → WX → TS)
    (len : ∀ vs H Q E, sp vs H Q E → (vs ++ dvs).length = ps.length)
    (hder : ∀ (cdv : Value) (A : Around) (outer : List Env) (s : Shared) (H : Hp) (E : XK), Of ⟨P, w, K, mg, base, A.deeper (envOfC qual (defScope st) s.heap.objs.size f cdv)⟩ (cxOf (L2.CX P w) P w K mg base N qual (defScope st) f cdv A outer s H E) →
      Takes (cxOf (L2.CX P w) P w K mg base N qual (defScope st) f cdv A outer s H E) (fun cls d _ H => E cls d H) →
      PSs (cxOf (L2.CX P w) P w K mg base N qual (defScope st) f cdv A outer s H E) (defBody st) (t ⟨P, w, K, mg, base, A.deeper (envOfC qual (defScope st) s.heap.objs.size f cdv)⟩ (fun cls d _ H => E cls d H)))
    (hread : ∀ (A : Around) (E : XK), Rm k A → ∀ vs H Q, sp vs H Q E → t ⟨P, w, K, mg, base, A⟩ (fun cls d _ H => E cls d H) { nx := fun _ H' => Q .non H', rt := Q } (start N (vs ++ dvs)) H) : FnZ P w K mg base (k + 1) f sp :=
  (fn_b (sp := fun vs H Q E => ∃ vs', vs = vs' ++ dvs ∧ sp vs' H Q E) F S t (fun vs H Q E h => by
    obtain ⟨v', rfl, h⟩ := h
    exact len _ _ _ _ h) hder fun A E hr vs H Q h => by
    obtain ⟨v', rfl, h⟩ := h
    exact hread A E hr v' H Q h).z hb hd len fun vs H Q E h => ⟨vs, rfl, h⟩
end

/-! more operations -/
theorem pip_v {e : En} {X : Cx} {op : Operator} (o : Of e X) : PIp X op (vOp e (inplaceOp op)) := fun pins s σ _ _ _ v u _ I rx ry h => h.run X o pins s σ v u I rx ry
structure vMt (e : En) (id : String) (x : V) (xs : List V) (H : Hp) (Q : VK) : Prop where
  run : ∀ (X : Cx), Of e X → ∀ (pins : List (Addr × Obj)) (s : Shared) (σ : L2.St) (v : Value) (us : List Value), Inv X pins σ H s → RelV x v → Vals xs us → wpAny (model X.prog X.w) X.A (call (.builtin id) (v :: us)) (EP X pins σ Q) X.xe s
theorem mtr_v {e : En} {X : Cx} {id : String} (o : Of e X) : MtR X id (vMt e id) := fun pins s σ _ _ _ v us _ I rx rs h => h.run X o pins s σ v us I rx rs
theorem vMt_of {e : En} {id : String} {r : V → List V → Hp → VK → Prop} (h : ∀ X, Of e X → MtR X id r) {x : V} {xs : List V} {H : Hp} {Q : VK} (q : r x xs H Q) : vMt e id x xs H Q := ⟨fun X o pins s σ v us I rx rs => h X o pins s σ H x xs v us Q I rx rs q⟩
theorem vMt_ofK {e : En} {id : String} {r : PySem.W.Frag → V → List V → Hp → VK → Prop} (h : ∀ X, Of e X → MtR X id (r X.K)) {x : V} {xs : List V} {H : Hp} {Q : VK} (q : r e.K x xs H Q) : vMt e id x xs H Q := ⟨fun X o pins s σ v us I rx rs =>
  h X o pins s σ H x xs v us Q I rx rs (by rw [o.K]; exact q)⟩
theorem of_blk {e : En} {X : Cx} (o : Of e X) {s : Shared} {H : Hp} {sc : Scope} {ce : Env} {fp : List Addr} : Of e (X.blk s H sc ce fp) := ⟨o.P, o.w, o.K, o.mg, o.base, o.A, o.calm, o.dp⟩
theorem of_tr {e : En} {X : Cx} (o : Of e X) {pn : List (Addr × Obj)} {xe : Value → Shared → Prop} : Of e (X.tr pn xe) := ⟨o.P, o.w, o.K, o.mg, o.base, o.A, o.calm, o.dp⟩
/-- and, or, not of values by truth -/
def byb (b : Bool) (A B : Prop) : Prop := match b with | true => A | false => B
theorem byb_t {A B : Prop} (h : A) : byb true A B := h
theorem byb_f {A B : Prop} (h : B) : byb false A B := h
theorem byb_d {c A B : Prop} [Decidable c] (h1 : c → A) (h2 : ¬ c → B) : byb (decide c) A B := by
  by_cases h : c
  · rw [decide_eq_true h]; exact h1 h
  · rw [decide_eq_false h]; exact h2 h
theorem byb_nd {c A B : Prop} [Decidable c] (h1 : c → B) (h2 : ¬ c → A) : byb (!decide c) A B := by
  by_cases h : c
  · rw [decide_eq_true h]; exact h1 h
  · rw [decide_eq_false h]; exact h2 h
theorem byb_b {b : Bool} {A B : Prop} (h1 : b = true → A) (h2 : b = false → B) : byb b A B := by
  cases b with
  | true => exact h1 rfl
  | false => exact h2 rfl
def tAndU (n : En) (ta tb : TE) : TE := fun σ H Q => ta σ H fun x H1 => vTru n x H1 fun b H2 => byb b (tb σ H2 Q) (Q x H2)
def tOrU (n : En) (ta tb : TE) : TE := fun σ H Q => ta σ H fun x H1 => vTru n x H1 fun b H2 => byb b (Q x H2) (tb σ H2 Q)
def tNotU (n : En) (ta : TE) : TE := fun σ H Q => ta σ H fun x H1 => vTru n x H1 fun b H2 => Q (.bl (!b)) H2
section
variable {n : En} {X : Cx} {W : WX} {a b : Expr} {rest : List Expr} {ta tb : TE} {pos : Pos}
theorem z_and (o : Of n X) (ha : PE X a ta) (hb : PE X (.BoolOp .And (b :: rest) pos) tb) : PE X (.BoolOp .And (a :: b :: rest) pos) (tAndU n ta tb) := by
  refine ⟨fun pins s σ H Q I h => ?_⟩
  refine BoolOp_and (thn (ha.run pins s σ H _ I h) fun v s1 ⟨x, H1, I1, r1, q1⟩ => ?_)
  refine thn (q1.run X o pins s1 σ v I1 r1) fun c s2 ⟨H2, I2, q2⟩ => ?_
  cases c with
  | true => exact hb.run pins s2 σ H2 Q I2 q2
  | false => exact ⟨x, H2, I2, r1, q2⟩
theorem z_or (o : Of n X) (ha : PE X a ta) (hb : PE X (.BoolOp .Or (b :: rest) pos) tb) : PE X (.BoolOp .Or (a :: b :: rest) pos) (tOrU n ta tb) := by
  refine ⟨fun pins s σ H Q I h => ?_⟩
  refine BoolOp_or (thn (ha.run pins s σ H _ I h) fun v s1 ⟨x, H1, I1, r1, q1⟩ => ?_)
  refine thn (q1.run X o pins s1 σ v I1 r1) fun c s2 ⟨H2, I2, q2⟩ => ?_
  cases c with
  | true => exact ⟨x, H2, I2, r1, q2⟩
  | false => exact hb.run pins s2 σ H2 Q I2 q2
theorem z_not (o : Of n X) (ha : PE X a ta) : PE X (.UnaryOp .Not a pos) (tNotU n ta) := by
  refine ⟨fun pins s σ H Q I h => ?_⟩
  refine UnaryOp_ (thn (ha.run pins s σ H _ I h) fun v s1 ⟨x, H1, I1, r1, q1⟩ => ?_)
  exact not_of (thn (q1.run X o pins s1 σ v I1 r1) fun c s2 ⟨H2, I2, q2⟩ => ⟨.bl (!c), H2, I2, rfl, q2⟩)
end

/-! ### events: the steps of a reading -/
section
variable {n : En} {H : Hp} {Q : VK} {W : XK} {x y z : V} {i j : Int} {a b p : Addr} {xs ys : List V}
theorem e_add (q : Q (.int (i + j)) H) : vOp n (binaryOp .Add) (.int i) (.int j) H Q := vOp_of (fun _ _ => op_add) ⟨i, j, rfl, rfl, q⟩
theorem e_sub (q : Q (.int (i - j)) H) : vOp n (binaryOp .Sub) (.int i) (.int j) H Q := vOp_of (fun _ _ => op_sub) ⟨i, j, rfl, rfl, q⟩
theorem e_mul (h : CMul i j) (q : Q (.int (i * j)) H) : vOp n (binaryOp .Mult) (.int i) (.int j) H Q := vOp_of (fun _ _ => op_mul) ⟨i, j, rfl, rfl, h, q⟩
theorem e_fdiv (h : CDiv i j) (q : Q (.int (i / j)) H) : vOp n (binaryOp .FloorDiv) (.int i) (.int j) H Q := vOp_of (fun _ _ => op_fdiv) ⟨i, j, rfl, rfl, h, q⟩
theorem e_mod (h : 0 < j) (q : Q (.int (i % j)) H) : vOp n (binaryOp .Mod) (.int i) (.int j) H Q := vOp_of (fun _ _ => op_mod) ⟨i, j, rfl, rfl, h, q⟩
theorem e_pow (h : CPow i j) (q : Q (.int (i ^ j.toNat)) H) : vOp n (binaryOp .Pow) (.int i) (.int j) H Q := vOp_of (fun _ _ => op_pow) ⟨i, j, rfl, rfl, h, q⟩
theorem e_iadd (q : Q (.int (i + j)) H) : vOp n (inplaceOp .Add) (.int i) (.int j) H Q := vOp_of (fun _ _ => iop_add) ⟨i, j, rfl, rfl, q⟩
theorem e_neg (q : Q (.int (-i)) H) : vUn n (unaryOp .USub) (.int i) H Q := vUn_of (fun _ _ => un_neg) ⟨i, rfl, q⟩
theorem e_lt (q : Q (.bl (decide (i < j))) H) : vOp n (compareOp .Lt) (.int i) (.int j) H Q := vOp_of (fun _ _ => op_lt) ⟨i, j, rfl, rfl, q⟩
theorem e_le (q : Q (.bl (decide (i ≤ j))) H) : vOp n (compareOp .LtE) (.int i) (.int j) H Q := vOp_of (fun _ _ => op_le) ⟨i, j, rfl, rfl, q⟩
theorem e_gt (q : Q (.bl (decide (j < i))) H) : vOp n (compareOp .Gt) (.int i) (.int j) H Q := vOp_of (fun _ _ => op_gt) ⟨i, j, rfl, rfl, q⟩
theorem e_ge (q : Q (.bl (decide (j ≤ i))) H) : vOp n (compareOp .GtE) (.int i) (.int j) H Q := vOp_of (fun _ _ => op_ge) ⟨i, j, rfl, rfl, q⟩
theorem e_eqI (q : Q (.bl (decide (i = j))) H) : vOp n (compareOp .Eq) (.int i) (.int j) H Q := vOp_of (fun _ _ => op_eq) ⟨rfl, by
  have e : decide (V.int i = V.int j) = decide (i = j) := by simp
  rw [e]; exact q⟩
theorem e_neI (q : Q (.bl (!decide (i = j))) H) : vOp n (compareOp .NotEq) (.int i) (.int j) H Q := vOp_of (fun _ _ => op_ne) ⟨rfl, by
  have e : decide (V.int i = V.int j) = decide (i = j) := by simp
  rw [e]; exact q⟩
theorem e_eq (h : scal x y = true) (q : Q (.bl (decide (x = y))) H) : vOp n (compareOp .Eq) x y H Q := vOp_of (fun _ _ => op_eq) ⟨h, q⟩
theorem e_ne (h : scal x y = true) (q : Q (.bl (!decide (x = y))) H) : vOp n (compareOp .NotEq) x y H Q := vOp_of (fun _ _ => op_ne) ⟨h, q⟩
theorem e_isN (q : Q (.bl (decide (x = .non))) H) : vOp n (compareOp .Is) x .non H Q := vOp_of (fun _ _ => op_isN) ⟨rfl, q⟩
theorem e_notN (q : Q (.bl (!decide (x = .non))) H) : vOp n (compareOp .IsNot) x .non H Q := vOp_of (fun _ _ => op_notN) ⟨rfl, q⟩
theorem e_ixL {v : V} (h : SqL n.K H a xs) (hi : atI xs i = some v) (q : Q v H) : vIx n (.ref a) (.int i) H Q := vIx_ofK (r := rIxL) (fun _ _ => ix_list) ⟨a, xs, i, v, rfl, rfl, h, hi, q⟩
theorem e_ixT {v : V} (h : SqT n.K H a xs) (hi : atI xs i = some v) (q : Q v H) : vIx n (.ref a) (.int i) H Q := vIx_ofK (r := rIxT) (fun _ _ => ix_tup) ⟨a, xs, i, v, rfl, rfl, h, hi, q⟩
theorem e_slL {lo hi : Option Int} (h : SqL n.K H a xs) (q : ∀ p, H p = none → Q (.ref p) (upd H p (.lst (cutV xs lo hi)))) : vSl n (.ref a) lo hi H Q := ⟨rSlL, fun _ _ => sl_list, a, xs, rfl, h, q⟩
theorem e_setL {k : Int} {m : Nat} {v : V} {R : Hp → Prop} (h : H a = some (.lst xs)) (hi : ixN xs.length k = some m) (q : R (upd H a (.lst (xs.set m v)))) : vSet n (.ref a) (.int k) v H R := vSet_of (fun _ _ => set_list) ⟨a, xs, k, m, rfl, rfl, h, hi, q⟩
theorem e_int (q : Q (.int i) H) : vCB n (.type "int") [.int i] H Q := vCB_of (fun _ _ => call_int1) (.inl ⟨i, rfl, q⟩)
theorem e_abs (q : Q (.int (if i < 0 then -i else i)) H) : vCB n (.builtin "abs") [.int i] H Q := vCB_of (fun _ _ => call_abs) ⟨i, rfl, q⟩
theorem e_max (q : Q (.int (if j > i then j else i)) H) (hh : n.A.handled = none := by first | exact Room.hd (Rm.toRoom (by assumption))) : vCB n (.builtin "max") [.int i, .int j] H Q := vCB_of (r := fun xs H Q => ∃ i j, xs = [.int i, .int j] ∧ Q (.int (if j > i then j else i)) H) (fun _ o => call_max2 (o.calm hh)) ⟨i, j, rfl, q⟩
theorem e_min (q : Q (.int (if j < i then j else i)) H) (hh : n.A.handled = none := by first | exact Room.hd (Rm.toRoom (by assumption))) : vCB n (.builtin "min") [.int i, .int j] H Q := vCB_of (r := fun xs H Q => ∃ i j, xs = [.int i, .int j] ∧ Q (.int (if j < i then j else i)) H) (fun _ o => call_min2 (o.calm hh)) ⟨i, j, rfl, q⟩
theorem e_divmod (h : CDiv i j) (q : ∀ p, H p = none → Q (.ref p) (upd H p (.tup [.int (i / j), .int (i % j)]))) : vCB n (.builtin "divmod") [.int i, .int j] H Q := vCB_of (fun _ _ => call_divmod) ⟨i, j, rfl, h, q⟩
theorem e_lenL (h : SqL n.K H a xs) (q : Q (.int xs.length) H) : vCB n (.builtin "len") [.ref a] H Q := vCB_ofK (r := fun K xs H Q => ∃ p ys, xs = [.ref p] ∧ (SqL K H p ys ∨ SqT K H p ys) ∧ Q (.int ys.length) H) (fun _ _ => call_len_seq) ⟨a, xs, rfl, .inl h, q⟩
theorem e_lenT (h : SqT n.K H a xs) (q : Q (.int xs.length) H) : vCB n (.builtin "len") [.ref a] H Q := vCB_ofK (r := fun K xs H Q => ∃ p ys, xs = [.ref p] ∧ (SqL K H p ys ∨ SqT K H p ys) ∧ Q (.int ys.length) H) (fun _ _ => call_len_seq) ⟨a, xs, rfl, .inr h, q⟩
theorem e_cat (h1 : H a = some (.lst xs)) (h2 : H b = some (.lst ys)) (hl : xs.length + ys.length ≤ sizeLine) (q : ∀ p, H p = none → Q (.ref p) (upd H p (.lst (xs ++ ys)))) : vOp n (binaryOp .Add) (.ref a) (.ref b) H Q :=
  vOp_of (fun _ _ => op_cat) ⟨a, b, xs, ys, rfl, rfl, h1, h2, hl, q⟩
theorem e_isi {t u : Value} {c : V} {r : Bool} (hc : ClsV c u) (ht : TyX n.K H x t) (hk : PySem.W.kitOne n.K t u = some r) (q : Q (.bl r) H) : vCB n (.builtin "isinstance") [x, c] H Q :=
  vCB_ofK (r := rIsi) (fun _ _ => call_isi) ⟨x, c, t, u, r, rfl, hc, ht, hk, q⟩
theorem e_tru {r : Bool} {R : Bool → Hp → Prop} (h : TruV n.K x H r) (q : R r H) : vTru n x H R := vTru_ofK (r := fun K x H Q => ∃ k, TruV K x H k ∧ Q k H) (fun _ _ => tru_ok) ⟨r, h, q⟩
theorem e_truB {r : Bool} {R : Bool → Hp → Prop} (q : R r H) : vTru n (.bl r) H R := e_tru (show TruV n.K (.bl r) H r from rfl) q
end
end Z

namespace Z
open PySem PySem.Spec PyProof.Rows L2

/-! ### heaps -/
def But (a : Addr) (H H' : Hp) : Prop := ∀ b o, b ≠ a → H b = some o → H' b = some o
theorem same_get {H H' : Hp} {a : Addr} {o : HO} (s : Same H H') (h : H a = some o) : H' a = some o := s a o h
theorem but_get {H H' : Hp} {a b : Addr} {o : HO} (s : But b H H') (n : a ≠ b) (h : H a = some o) : H' a = some o := s a o n h
theorem to_but {H H' : Hp} {a : Addr} (s : Same H H') : But a H H' := fun b o _ h => s b o h
theorem at0 {α : Type} {x : α} {xs : List α} : atI (x :: xs) 0 = some x := by simp [atI, ixN]
theorem But.trans {a : Addr} {H H1 H2 : Hp} (x : But a H H1) (y : But a H1 H2) : But a H H2 := fun b o n h => y b o n (x b o n h)
theorem But.refl (a : Addr) (H : Hp) : But a H H := fun _ _ _ h => h
theorem same_upd {H : Hp} {p : Addr} {o : HO} (n : H p = none) : Same H (upd H p o) := fun b u h => by rw [upd_ne (ne_of_none h n)]; exact h
theorem but_upd {H : Hp} {p : Addr} {o : HO} : But p H (upd H p o) := fun b u n h => by rw [upd_ne n]; exact h
theorem ne_fresh {H : Hp} {s p : Addr} {o : HO} (h : H s = some o) (n : H p = none) : p ≠ s := fun e => by rw [e, h] at n; cases n
theorem ne_fresh' {H : Hp} {s p : Addr} {o : HO} (h : H s = some o) (n : H p = none) : s ≠ p := fun e => (ne_fresh h n) e.symm
theorem Same.none {H H' : Hp} {p : Addr} (s : Same H H') (n : H' p = none) : H p = none := s.free n
/-- a change of what the elder heap did not know -/
theorem same_mut {H H' : Hp} {p : Addr} {o : HO} (s : Same H H') (n : H p = none) : Same H (upd H' p o) := fun b u h => by rw [upd_ne (ne_of_none h n)]; exact s b u h
theorem same_but {H H1 H2 : Hp} {p : Addr} (s : Same H H1) (b : But p H1 H2) (n : H p = none) : Same H H2 := fun c o h => b c o (ne_of_none h n) (s c o h)
/-- a new object, its heap a letter -/
theorem a_new {H : Hp} {o : HO} {Q : VK} (k : ∀ p H', H p = none → Same H H' → H' p = some o → Q (.ref p) H') : ∀ p, H p = none → Q (.ref p) (upd H p o) := fun p n => k p _ n (same_upd n) upd_same
/-- an object changed, its heap a letter -/
theorem a_set {H : Hp} {a : Addr} {o : HO} {R : Hp → Prop} (k : ∀ H', But a H H' → H' a = some o → R H') : R (upd H a o) := k _ but_upd upd_same
theorem sql_same {K : PySem.W.Frag} {H H' : Hp} {a : Addr} {xs : List V} (s : Same H H') (h : SqL K H a xs) : SqL K H' a xs := s.seq h
theorem sqt_same {K : PySem.W.Frag} {H H' : Hp} {a : Addr} {xs : List V} (e : Same H H') (h : SqT K H a xs) : SqT K H' a xs := by
  rcases h with (h | ⟨o, h⟩) | h
  · exact .inl (.inl (e _ _ h))
  · exact .inl (.inr ⟨o, e _ _ h⟩)
  · exact .inr h
/-- a tuple stays where a list or an instance changes -/
theorem tup_but {H H' : Hp} {a s : Addr} {xs : List V} {o : HO} (b : But s H H') (hs : H s = some o) (d : o ≠ .tup xs) (h : H a = some (.tup xs)) : H' a = some (.tup xs) := b a _ (fun e => by rw [e, hs] at h; exact d (Option.some.inj h)) h

/-! ### events with letters for heaps -/
section
variable {n : En} {H : Hp} {Q : VK} {W : XK} {x y z : V} {i j : Int} {a b p : Addr} {xs ys : List V}
theorem n_slL {lo hi : Option Int} (h : SqL n.K H a xs) (q : ∀ p H', H p = none → Same H H' → H' p = some (.lst (cutV xs lo hi)) → Q (.ref p) H') : vSl n (.ref a) lo hi H Q := e_slL h (a_new q)
theorem n_setL {k : Int} {m : Nat} {v : V} {R : Hp → Prop} (h : H a = some (.lst xs)) (hi : ixN xs.length k = some m) (q : ∀ H', But a H H' → H' a = some (.lst (xs.set m v)) → R H') : vSet n (.ref a) (.int k) v H R := e_setL h hi (a_set q)
theorem n_divmod (h : CDiv i j) (q : ∀ p H', H p = none → Same H H' → H' p = some (.tup [.int (i / j), .int (i % j)]) → Q (.ref p) H') : vCB n (.builtin "divmod") [.int i, .int j] H Q := e_divmod h (a_new q)
theorem n_cat (h1 : H a = some (.lst xs)) (h2 : H b = some (.lst ys)) (hl : xs.length + ys.length ≤ sizeLine) (q : ∀ p H', H p = none → Same H H' → H' p = some (.lst (xs ++ ys)) → Q (.ref p) H') : vOp n (binaryOp .Add) (.ref a) (.ref b) H Q := e_cat h1 h2 hl (a_new q)
end
/-- a written list, a written tuple -/
structure vLst (xs : List V) (H : Hp) (Q : VK) : Prop where
  run : xs.length ≤ sizeLine ∧ ∀ p, H p = none → Q (.ref p) (upd H p (.lst xs))
structure vTup (xs : List V) (H : Hp) (Q : VK) : Prop where
  run : xs.length ≤ sizeLine ∧ ∀ p, H p = none → Q (.ref p) (upd H p (.tup xs))
def uLst (t : TA) : TE := fun σ H Q => t σ H fun xs H1 => vLst xs H1 Q
def uTup (t : TA) : TE := fun σ H Q => t σ H fun xs H1 => vTup xs H1 Q
theorem z_lst {X : Cx} {es : List Expr} {t : TA} {pos : Pos} (h : PA X es t) : PE X (.List es pos) (uLst t) := ⟨fun pins s σ H Q I q => wpAny_List_spliced (thn (h.run pos pins s σ H _ I q) fun us s1 ⟨xs, H1, I1, r, ⟨z, k⟩⟩ =>
  ⟨by rw [← r.length]; exact z, .ref s1.heap.objs.size, _, I1.laid (t' := s1.toks) (fun b u e => Heap.get?_push_of_some _ e) (Nat.le_refl _) (by exact ⟨z, us, 0, r, Heap.get?_push_size _ rfl⟩), rfl, k _ (I1.hok.fresh (Nat.le_refl _))⟩)⟩
theorem z_tup {X : Cx} {es : List Expr} {t : TA} {x1} {pos : Pos} (h : PA X es t) : PE X (.Tuple es x1 pos) (uTup t) := ⟨fun pins s σ H Q I q => wpAny_Tuple_spliced (thn (h.run pos pins s σ H _ I q) fun us s1 ⟨xs, H1, I1, r, ⟨z, k⟩⟩ =>
  ⟨by rw [← r.length]; exact z, .ref s1.heap.objs.size, _, I1.laid (t' := s1.toks) (fun b u e => Heap.get?_push_of_some _ e) (Nat.le_refl _) (by exact ⟨z, us, r, ⟨_, Heap.get?_push_size _ rfl, rfl, _, rfl⟩⟩), rfl, k _ (I1.hok.fresh (Nat.le_refl _))⟩)⟩
theorem le_line {n : Nat} (h : Nat.ble n 1000 = true) : n ≤ sizeLine := Nat.le_trans (Nat.le_of_ble_eq_true h) (by decide)
theorem n_lst {xs : List V} {H : Hp} {Q : VK} (h : Nat.ble xs.length 1000 = true) (q : ∀ p H', H p = none → Same H H' → H' p = some (.lst xs) → Q (.ref p) H') : vLst xs H Q := ⟨⟨le_line h, a_new q⟩⟩
theorem n_tup {xs : List V} {H : Hp} {Q : VK} (h : Nat.ble xs.length 1000 = true) (q : ∀ p H', H p = none → Same H H' → H' p = some (.tup xs) → Q (.ref p) H') : vTup xs H Q := ⟨⟨le_line h, a_new q⟩⟩
/-! ### the readings that compute -/
def uTest (t : TE) : TT := fun σ H Q => t σ H fun x H1 => match x with | .bl k => Q k H1 | _ => False
theorem ex_bl {Q : Bool → Hp → Prop} {H : Hp} (x : V) : (∃ k, x = .bl k ∧ Q k H) = (match x with | .bl k => Q k H | _ => False) := by
  apply propext
  cases x <;> simp
theorem tTest_eq (t : TE) : tTest t = uTest t := by
  funext σ H Q
  show t σ H _ = t σ H _
  congr 1
  funext x H1
  exact ex_bl x
theorem byb_eq {b : Bool} {A B : Prop} : (if b = true then A else B) = byb b A B := by cases b <;> simp [byb]
def uIfS (c : TT) (t u : TS) : TS := fun D σ H => c σ H fun b H1 => byb b (t D σ H1) (u D σ H1)
theorem tIfS_eq (c : TT) (t u : TS) : tIfS c t u = uIfS c t u := by
  funext D σ H
  show c σ H _ = c σ H _
  congr 1
  funext b H1
  exact byb_eq
def uIf (c : TT) (t u : TE) : TE := fun σ H Q => c σ H fun b H1 => byb b (t σ H1 Q) (u σ H1 Q)
theorem tIf_eq (c : TT) (t u : TE) : tIf c t u = uIf c t u := by
  funext σ H Q
  show c σ H _ = c σ H _
  congr 1
  funext b H1
  exact byb_eq
def uAnd (t u : TT) : TT := fun σ H Q => t σ H fun b H1 => byb b (u σ H1 Q) (Q false H1)
theorem tAnd_eq (t u : TT) : tAnd t u = uAnd t u := by
  funext σ H Q
  show t σ H _ = t σ H _
  congr 1
  funext b H1
  exact byb_eq
def uOr (t u : TT) : TT := fun σ H Q => t σ H fun b H1 => byb b (Q true H1) (u σ H1 Q)
theorem tOr_eq (t u : TT) : tOr t u = uOr t u := by
  funext σ H Q
  show t σ H _ = t σ H _
  congr 1
  funext b H1
  exact byb_eq
def uChain (r r' : R2) (ta tb tc : TE) : TE := fun σ H Q => ta σ H fun x H1 => tb σ H1 fun y H2 => r x y H2 fun z H3 => match z with | .bl k => byb k (tc σ H3 fun w' H4 => r' y w' H4 Q) (Q (.bl false) H3) | _ => False
theorem tChain_eq (r r' : R2) (ta tb tc : TE) : tChain r r' ta tb tc = uChain r r' ta tb tc := by
  funext σ H Q
  show ta σ H _ = ta σ H _
  congr 1
  funext x H1
  congr 1
  funext y H2
  congr 1
  funext z H3
  rw [← ex_bl (Q := fun k H3 => byb k (tc σ H3 fun w' H4 => r' y w' H4 Q) (Q (.bl false) H3))]
  apply propext
  constructor
  · rintro ⟨k, e, h⟩
    exact ⟨k, e, by rw [← byb_eq]; exact h⟩
  · rintro ⟨k, e, h⟩
    exact ⟨k, e, by rw [byb_eq]; exact h⟩
def uPart (t : TE) : TO := fun σ H Q => t σ H fun x H1 => match x with | .int i => Q (some i) H1 | _ => False
theorem tPart_eq (t : TE) : tPart t = uPart t := by
  funext σ H Q
  show t σ H _ = t σ H _
  congr 1
  funext x H1
  apply propext
  cases x <;> simp
def uCons (t : TG) (u : TGs) : TGs := fun vs σ H Q => match vs with | v :: r => t v σ H fun σ' H' => u r σ' H' Q | [] => False
theorem gCons_eq (t : TG) (u : TGs) : gCons t u = uCons t u := by
  funext vs σ H Q
  apply propext
  cases vs with
  | nil => exact ⟨fun ⟨v, r, e, _⟩ => by (cases e), fun h => h.elim⟩
  | cons v r => exact ⟨fun ⟨v, r, e, h⟩ => by (cases e; exact h), fun h => ⟨v, r, rfl, h⟩⟩
def uNil : TGs := fun vs σ H Q => match vs with | [] => Q σ H | _ => False
theorem gNil_eq : gNil = uNil := by
  funext vs σ H Q
  apply propext
  cases vs with
  | nil => exact ⟨fun ⟨_, h⟩ => h, fun h => ⟨rfl, h⟩⟩
  | cons v r => exact ⟨fun ⟨e, _⟩ => by (cases e), fun h => h.elim⟩
def uPar (i j : Nat) (ta : TA) : TS := fun D σ H => ta σ H fun vs H1 => match vs with | [v, w] => D.nx ((σ.set i (some v)).set j (some w)) H1 | _ => False
theorem tPar_eq (i j : Nat) (ta : TA) : tPar i j ta = uPar i j ta := by
  funext D σ H
  show ta σ H _ = ta σ H _
  congr 1
  funext vs H1
  apply propext
  match vs with
  | [] => exact ⟨fun ⟨_, _, e, _⟩ => by (cases e), fun h => h.elim⟩
  | [_] => exact ⟨fun ⟨_, _, e, _⟩ => by (cases e), fun h => h.elim⟩
  | [v, w] => exact ⟨fun ⟨_, _, e, h⟩ => by (cases e; exact h), fun h => ⟨v, w, rfl, h⟩⟩
  | _ :: _ :: _ :: _ => exact ⟨fun ⟨_, _, e, _⟩ => by (cases e), fun h => h.elim⟩
def uAug (i : Nat) (te : TE) (ti : TIp) : TS := fun D σ H => match σ[i]? with | some (some x) => te σ H fun y H1 => ti x y H1 fun z H2 => D.nx (σ.set i (some z)) H2 | _ => False
theorem tAug_eq (i : Nat) (te : TE) (ti : TIp) : tAug i te ti = uAug i te ti := by
  funext D σ H
  apply propext
  show (∃ x, σ[i]? = some (some x) ∧ _) ↔ _
  unfold uAug
  split
  · rename_i x e
    exact ⟨fun ⟨y, e2, h⟩ => by rw [e] at e2; cases e2; exact h, fun h => ⟨x, e, h⟩⟩
  · rename_i n
    exact ⟨fun ⟨y, e2, _⟩ => (n y e2).elim, fun h => h.elim⟩
/-- a, b, .. = e -/
structure vUnp (K : PySem.W.Frag) (m : Nat) (v : V) (H : Hp) (R : List V → Prop) : Prop where
  run : ∃ a xs, v = .ref a ∧ SqT K H a xs ∧ xs.length = m ∧ R xs
theorem n_unp {K : PySem.W.Frag} {m : Nat} {a : Addr} {xs : List V} {H : Hp} {R : List V → Prop} (h : SqT K H a xs) (hl : xs.length = m) (q : R xs) : vUnp K m (.ref a) H R := ⟨a, xs, rfl, h, hl, q⟩
def uTupG (K : PySem.W.Frag) (m : Nat) (t : TGs) : TG := fun v σ H Q => vUnp K m v H fun xs => t xs σ H Q
theorem gTup_eq (K : PySem.W.Frag) (m : Nat) (t : TGs) : gTup K m t = uTupG K m t := by
  funext v σ H Q
  exact propext ⟨fun h => ⟨h⟩, fun h => h.run⟩
section
variable {X : Cx} {a b c e : Expr} {ta tb tc te : TE} {tA tB' : TT} {pos : Pos} {op op' : CmpOp} {r r' : R2}
theorem z_cmpT (ho : OpR X (compareOp op) r) (ha : PE X a ta) (hb : PE X b tb) (hm : behindInMarks op b = false) : PT X (.Compare a [op] [b] pos) (uTest (tOp r ta tb)) := tTest_eq _ ▸ pt_cmpR ho ha hb hm
theorem z_chain (ho : OpR X (compareOp op) r) (ho' : OpR X (compareOp op') r') (ha : PE X a ta) (hb : PE X b tb) (hc : PE X c tc) (hm : lastMarks [op, op'] [b, c] = false := by with_unfolding_all rfl) : PE X (.Compare a [op, op'] [b, c] pos) (uChain r r' ta tb tc) :=
  tChain_eq _ _ _ _ _ ▸ pe_chain ho ho' ha hb hc hm
theorem z_chainT (ho : OpR X (compareOp op) r) (ho' : OpR X (compareOp op') r') (ha : PE X a ta) (hb : PE X b tb) (hc : PE X c tc) (hm : lastMarks [op, op'] [b, c] = false := by with_unfolding_all rfl) : PT X (.Compare a [op, op'] [b, c] pos) (uTest (uChain r r' ta tb tc)) :=
  tChain_eq _ _ _ _ _ ▸ tTest_eq _ ▸ pt_chain ho ho' ha hb hc hm
theorem z_if {c : Expr} {s1 s2 : List Stmt} {t u : TS} (hc : PT X c tA) (h1 : PSs X s1 t) (h2 : PSs X s2 u) : PS X (.If c s1 s2 pos) (uIfS tA t u) := tIfS_eq _ _ _ ▸ ps_if hc h1 h2
theorem z_ifE (hc : PT X c tA) (ha : PE X a ta) (hb : PE X b tb) : PE X (.IfExp c a b pos) (uIf tA ta tb) := tIf_eq _ _ _ ▸ pe_ifExp hc ha hb
theorem zw_and {rest : List Expr} (ha : PT X a tA) (hb : PW X (.BoolOp .And (b :: rest) pos) tB') : PW X (.BoolOp .And (a :: b :: rest) pos) (uAnd tA tB') := tAnd_eq _ _ ▸ pw_and ha hb
theorem zw_or {rest : List Expr} (ha : PT X a tA) (hb : PW X (.BoolOp .Or (b :: rest) pos) tB') : PW X (.BoolOp .Or (a :: b :: rest) pos) (uOr tA tB') := tOr_eq _ _ ▸ pw_or ha hb
theorem z_part (h : PE X e te) : PO X (some e) (uPart te) := tPart_eq _ ▸ po_some h
theorem c_nil {es : List Expr} (h : PGs X es gNil) : PGs X es uNil := gNil_eq ▸ h
theorem c_cons {es : List Expr} {t : TG} {u : TGs} (h : PGs X es (gCons t u)) : PGs X es (uCons t u) := gCons_eq _ _ ▸ h
theorem c_tup {e : Expr} {K : PySem.W.Frag} {m : Nat} {t : TGs} (h : PG X e (gTup K m t)) : PG X e (uTupG K m t) := gTup_eq _ _ _ ▸ h
theorem c_par {st : Stmt} {i j : Nat} {t : TA} (h : PS X st (tPar i j t)) : PS X st (uPar i j t) := tPar_eq _ _ _ ▸ h
theorem c_aug {st : Stmt} {i : Nat} {t : TE} {ti : TIp} (h : PS X st (tAug i t ti)) : PS X st (uAug i t ti) := tAug_eq _ _ _ ▸ h
end
/-! ### equality of data -/
theorem canInts : ∀ ns : List Int, PyData.canLayAll0 (ns.map PyData.int) = true
  | [] => by simp [PyData.canLayAll0]
  | n :: r => by simp [PyData.canLayAll0, PyData.canLay0, canInts r]
theorem depInts : ∀ ns : List Int, PyData.depthAll (ns.map PyData.int) = 0
  | [] => by simp [PyData.depthAll]
  | n :: r => by simp [PyData.depthAll, PyData.depth, depInts r]
theorem shL (ns : List Int) : SeqAt.shaped (.list (ns.map PyData.int)) = true := by simp [SeqAt.shaped, PyData.canLay0, PyData.depth, canInts, depInts]
theorem shT (ns : List Int) : SeqAt.shaped (.tuple (ns.map PyData.int)) = true := by simp [SeqAt.shaped, PyData.canLay0, PyData.depth, canInts, depInts]
theorem dpInts {K : PySem.W.Frag} {H : Hp} : ∀ ns : List Int, DpAll K H (ns.map V.int) (ns.map PyData.int)
  | [] => .nil
  | n :: r => .cons (.int n) (dpInts r)
section
variable {P : Program} {w : World} {K : PySem.W.Frag} {mg : Str → Option Value} {base : Heap} {A : Around} {k : Nat} {H : Hp} {Q : VK} {x y : V} {a b : Addr} {ns ms : List Int} {d e : PyData}
theorem e_eqD (hr : Rm k A) (hx : Dp K H x d) (hy : Dp K H y e) (sx : SeqAt.shaped d = true) (sy : SeqAt.shaped e = true) (q : Q (.bl (PyData.eqv d e)) H) : vOp ⟨P, w, K, mg, base, A⟩ (compareOp .Eq) x y H Q :=
  vOp_ofK (r := rEqD) (fun X o => op_eqD (by rw [o.A]; exact hr.units)) ⟨d, e, hx, hy, sx, sy, q⟩
theorem e_neD (hr : Rm k A) (hx : Dp K H x d) (hy : Dp K H y e) (sx : SeqAt.shaped d = true) (sy : SeqAt.shaped e = true) (q : Q (.bl (!PyData.eqv d e)) H) : vOp ⟨P, w, K, mg, base, A⟩ (compareOp .NotEq) x y H Q :=
  vOp_ofK (r := rNeD) (fun X o => op_neD (by rw [o.A]; exact hr.units)) ⟨d, e, hx, hy, sx, sy, q⟩
/-- lists of ints, tuples of ints -/
theorem e_neLI (hr : Rm k A) (hx : SqL K H a (ns.map V.int)) (hy : SqL K H b (ms.map V.int)) (q : Q (.bl (!decide (ns = ms))) H) : vOp ⟨P, w, K, mg, base, A⟩ (compareOp .NotEq) (.ref a) (.ref b) H Q :=
  e_neD hr (.lst hx (dpInts ns)) (.lst hy (dpInts ms)) (shL ns) (shL ms) (by simpa [PyData.eqv, PySem.W.ked_eqvAll] using q)
theorem e_eqTI (hr : Rm k A) (hx : SqT K H a (ns.map V.int)) (hy : SqT K H b (ms.map V.int)) (q : Q (.bl (decide (ns = ms))) H) : vOp ⟨P, w, K, mg, base, A⟩ (compareOp .Eq) (.ref a) (.ref b) H Q :=
  e_eqD hr (.tup hx (dpInts ns)) (.tup hy (dpInts ms)) (shT ns) (shT ms) (by simpa [PyData.eqv, PySem.W.ked_eqvAll] using q)
theorem e_ltTI (hr : Rm k A) (hx : SqT K H a (ns.map V.int)) (hy : SqT K H b (ms.map V.int)) (q : Q (.bl (HT.lexLt ns ms)) H) : vOp ⟨P, w, K, mg, base, A⟩ (compareOp .Lt) (.ref a) (.ref b) H Q :=
  vOp_ofK (r := rLtT) (fun X o => op_ltT (by rw [o.A]; exact hr.units0)) ⟨a, b, ns, ms, rfl, rfl, hx, hy, q⟩
end

/-! ### isinstance -/
theorem kit_int_int {K : PySem.W.Frag} : PySem.W.kitOne K (.type "int") (.type "int") = some true := kit_ty (by decide +kernel)
theorem kit_int_bool {K : PySem.W.Frag} : PySem.W.kitOne K (.type "int") (.type "bool") = some false := kit_ty (by decide +kernel)

/-! ### slices -/
theorem cut_drop (k : Nat) (xs : List V) : cutV xs (some (k : Int)) none = xs.drop k := by
  unfold cutV
  rw [HT.sIx_nat, HT.sIx_none]
  by_cases h : k ≤ xs.length
  · rw [Nat.min_eq_left h, List.take_of_length_le (by rw [List.length_drop]; omega)]
  · rw [Nat.min_eq_right (by omega), List.drop_of_length_le (by omega : xs.length ≤ xs.length), List.drop_of_length_le (by omega : xs.length ≤ k), List.take_nil]
theorem cut_take (k : Nat) (xs : List V) : cutV xs none (some (k : Int)) = xs.take k := by
  unfold cutV
  rw [HT.sIx_nat, HT.sIx_none, List.drop_zero]
  by_cases h : k ≤ xs.length
  · rw [Nat.min_eq_left h]
    rfl
  · rw [Nat.min_eq_right (by omega), List.take_of_length_le (by omega), List.take_of_length_le (by omega)]
/-! ### loops, comprehensions -/
/-- for .. in a list, a tuple, a range -/
structure vForL (K : PySem.W.Frag) (x : V) (g : TG) (tb : TS) (D : Ends) (σ : L2.St) (H : Hp) : Prop where
  run : tFor (iList K (tC x)) g tb D σ H
structure vForT (K : PySem.W.Frag) (x : V) (g : TG) (tb : TS) (D : Ends) (σ : L2.St) (H : Hp) : Prop where
  run : tFor (iTup K (tC x)) g tb D σ H
structure vForR1 (xs : List V) (g : TG) (tb : TS) (D : Ends) (σ : L2.St) (H : Hp) : Prop where
  run : tFor (iRng1 fun _ H Q => Q xs H) g tb D σ H
structure vForR2 (xs : List V) (g : TG) (tb : TS) (D : Ends) (σ : L2.St) (H : Hp) : Prop where
  run : tFor (iRng2 fun _ H Q => Q xs H) g tb D σ H
def uForL (K : PySem.W.Frag) (tl : TE) (g : TG) (tb : TS) : TS := fun D σ H => tl σ H fun x H1 => vForL K x g tb D σ H1
def uForT (K : PySem.W.Frag) (tl : TE) (g : TG) (tb : TS) : TS := fun D σ H => tl σ H fun x H1 => vForT K x g tb D σ H1
def uForR1 (ta : TA) (g : TG) (tb : TS) : TS := fun D σ H => ta σ H fun xs H1 => vForR1 xs g tb D σ H1
def uForR2 (ta : TA) (g : TG) (tb : TS) : TS := fun D σ H => ta σ H fun xs H1 => vForR2 xs g tb D σ H1
theorem forL_eq {K : PySem.W.Frag} {tl : TE} {g : TG} {tb : TS} : tFor (iList K tl) g tb = uForL K tl g tb := by
  funext D σ H
  show tl σ H _ = tl σ H _
  congr 1
  funext x H1
  exact propext ⟨fun h => ⟨h⟩, fun h => h.run⟩
theorem forT_eq {K : PySem.W.Frag} {tl : TE} {g : TG} {tb : TS} : tFor (iTup K tl) g tb = uForT K tl g tb := by
  funext D σ H
  show tl σ H _ = tl σ H _
  congr 1
  funext x H1
  exact propext ⟨fun h => ⟨h⟩, fun h => h.run⟩
theorem forR1_eq {ta : TA} {g : TG} {tb : TS} : tFor (iRng1 ta) g tb = uForR1 ta g tb := by
  funext D σ H
  show ta σ H _ = ta σ H _
  congr 1
  funext x H1
  exact propext ⟨fun h => ⟨h⟩, fun h => h.run⟩
theorem forR2_eq {ta : TA} {g : TG} {tb : TS} : tFor (iRng2 ta) g tb = uForR2 ta g tb := by
  funext D σ H
  show ta σ H _ = ta σ H _
  congr 1
  funext x H1
  exact propext ⟨fun h => ⟨h⟩, fun h => h.run⟩
theorem c_forL {X : Cx} {st : Stmt} {K : PySem.W.Frag} {tl : TE} {g : TG} {tb : TS} (h : PS X st (tFor (iList K tl) g tb)) : PS X st (uForL K tl g tb) := forL_eq ▸ h
theorem c_forT {X : Cx} {st : Stmt} {K : PySem.W.Frag} {tl : TE} {g : TG} {tb : TS} (h : PS X st (tFor (iTup K tl) g tb)) : PS X st (uForT K tl g tb) := forT_eq ▸ h
theorem c_forR1 {X : Cx} {st : Stmt} {ta : TA} {g : TG} {tb : TS} (h : PS X st (tFor (iRng1 ta) g tb)) : PS X st (uForR1 ta g tb) := forR1_eq ▸ h
theorem c_forR2 {X : Cx} {st : Stmt} {ta : TA} {g : TG} {tb : TS} (h : PS X st (tFor (iRng2 ta) g tb)) : PS X st (uForR2 ta g tb) := forR2_eq ▸ h
section
variable {K : PySem.W.Frag} {a : Addr} {xs : List V} {g : TG} {tb : TS} {D : Ends} {σ : L2.St} {H : Hp} {i j : Int}
theorem n_forL (Pv : Nat → L2.St → Hp → Prop) (hx : SqL K H a xs) (h0 : Pv 0 σ H) (hl : ∀ i σ H, i ≤ xs.length → Pv i σ H → SqL K H a xs)
    (hs : ∀ i x σ H, xs[i]? = some x → Pv i σ H → g x σ H fun σ2 H2 => tb { D with nx := Pv (i + 1), ct := Pv (i + 1), bk := D.nx } σ2 H2) (hd : ∀ σ H, Pv xs.length σ H → D.nx σ H) : vForL K (.ref a) g tb D σ H :=
  ⟨⟨a, rfl, ⟨xs, hx⟩, for_list (xs := xs) Pv h0 hl hs hd⟩⟩
theorem n_forT (Pv : Nat → L2.St → Hp → Prop) (hx : SqT K H a xs) (h0 : Pv 0 σ H) (hl : ∀ i σ H, i ≤ xs.length → Pv i σ H → SqT K H a xs)
    (hs : ∀ i x σ H, xs[i]? = some x → Pv i σ H → g x σ H fun σ2 H2 => tb { D with nx := Pv (i + 1), ct := Pv (i + 1), bk := D.nx } σ2 H2) (hd : ∀ σ H, Pv xs.length σ H → D.nx σ H) : vForT K (.ref a) g tb D σ H :=
  ⟨⟨a, rfl, ⟨xs, hx⟩, for_tup (xs := xs) Pv h0 hl hs hd⟩⟩
theorem n_forR1 (Pv : Nat → L2.St → Hp → Prop) (h1 : -(2 ^ 62) ≤ j) (h2 : j < 2 ^ 62) (h0 : Pv 0 σ H)
    (hs : ∀ (i : Nat) σ H, (i : Int) < j → Pv i σ H → g (.int (i : Int)) σ H fun σ2 H2 => tb { D with nx := Pv (i + 1), ct := Pv (i + 1), bk := D.nx } σ2 H2) (hd : ∀ σ H, Pv j.toNat σ H → D.nx σ H) : vForR1 [.int j] g tb D σ H :=
  ⟨⟨j, rfl, h1, h2, for_range (lo := 0) (n := j.toNat) Pv h0 (fun i σ H hi p => by
    have e : (0 : Int) + (i : Int) = (i : Int) := Int.zero_add _
    rw [e]
    exact hs i σ H (by omega) p) hd⟩⟩
theorem n_forR2 (Pv : Nat → L2.St → Hp → Prop) (h1 : -(2 ^ 62) ≤ i ∧ i < 2 ^ 62 ∧ -(2 ^ 62) ≤ j ∧ j < 2 ^ 62) (h0 : Pv 0 σ H)
    (hs : ∀ (k : Nat) σ H, i + (k : Int) < j → Pv k σ H → g (.int (i + (k : Int))) σ H fun σ2 H2 => tb { D with nx := Pv (k + 1), ct := Pv (k + 1), bk := D.nx } σ2 H2) (hd : ∀ σ H, Pv (j - i).toNat σ H → D.nx σ H) : vForR2 [.int i, .int j] g tb D σ H :=
  ⟨⟨i, j, rfl, h1, for_range (lo := i) (n := (j - i).toNat) Pv h0 (fun k σ H hi p => hs k σ H (by omega) p) hd⟩⟩
end
/-- [e for .. in a list, a tuple, a range] -/
structure vLcL (K : PySem.W.Frag) (x : V) (g : TG) (tt : TT) (te : TE) (vs : List Nat) (σ : L2.St) (H : Hp) (Q : VK) : Prop where
  run : tLc (iList K (tC x)) g tt te vs σ H Q
structure vLcT (K : PySem.W.Frag) (x : V) (g : TG) (tt : TT) (te : TE) (vs : List Nat) (σ : L2.St) (H : Hp) (Q : VK) : Prop where
  run : tLc (iTup K (tC x)) g tt te vs σ H Q
structure vLcR1 (xs : List V) (g : TG) (tt : TT) (te : TE) (vs : List Nat) (σ : L2.St) (H : Hp) (Q : VK) : Prop where
  run : tLc (iRng1 fun _ H Q => Q xs H) g tt te vs σ H Q
structure vLcR2 (xs : List V) (g : TG) (tt : TT) (te : TE) (vs : List Nat) (σ : L2.St) (H : Hp) (Q : VK) : Prop where
  run : tLc (iRng2 fun _ H Q => Q xs H) g tt te vs σ H Q
def uLcL (K : PySem.W.Frag) (tl : TE) (g : TG) (tt : TT) (te : TE) (vs : List Nat) : TE := fun σ H Q => tl σ H fun x H1 => vLcL K x g tt te vs σ H1 Q
def uLcT (K : PySem.W.Frag) (tl : TE) (g : TG) (tt : TT) (te : TE) (vs : List Nat) : TE := fun σ H Q => tl σ H fun x H1 => vLcT K x g tt te vs σ H1 Q
def uLcR1 (ta : TA) (g : TG) (tt : TT) (te : TE) (vs : List Nat) : TE := fun σ H Q => ta σ H fun xs H1 => vLcR1 xs g tt te vs σ H1 Q
def uLcR2 (ta : TA) (g : TG) (tt : TT) (te : TE) (vs : List Nat) : TE := fun σ H Q => ta σ H fun xs H1 => vLcR2 xs g tt te vs σ H1 Q
theorem lcL_eq {K : PySem.W.Frag} {tl : TE} {g : TG} {tt : TT} {te : TE} {vs : List Nat} : tLc (iList K tl) g tt te vs = uLcL K tl g tt te vs := by
  funext σ H Q
  show tl σ H _ = tl σ H _
  congr 1
  funext x H1
  exact propext ⟨fun h => ⟨h⟩, fun h => h.run⟩
theorem lcT_eq {K : PySem.W.Frag} {tl : TE} {g : TG} {tt : TT} {te : TE} {vs : List Nat} : tLc (iTup K tl) g tt te vs = uLcT K tl g tt te vs := by
  funext σ H Q
  show tl σ H _ = tl σ H _
  congr 1
  funext x H1
  exact propext ⟨fun h => ⟨h⟩, fun h => h.run⟩
theorem lcR1_eq {ta : TA} {g : TG} {tt : TT} {te : TE} {vs : List Nat} : tLc (iRng1 ta) g tt te vs = uLcR1 ta g tt te vs := by
  funext σ H Q
  show ta σ H _ = ta σ H _
  congr 1
  funext x H1
  exact propext ⟨fun h => ⟨h⟩, fun h => h.run⟩
theorem lcR2_eq {ta : TA} {g : TG} {tt : TT} {te : TE} {vs : List Nat} : tLc (iRng2 ta) g tt te vs = uLcR2 ta g tt te vs := by
  funext σ H Q
  show ta σ H _ = ta σ H _
  congr 1
  funext x H1
  exact propext ⟨fun h => ⟨h⟩, fun h => h.run⟩
theorem c_lcL {X : Cx} {e : Expr} {K : PySem.W.Frag} {tl : TE} {g : TG} {tt : TT} {te : TE} {vs : List Nat} (h : PE X e (tLc (iList K tl) g tt te vs)) : PE X e (uLcL K tl g tt te vs) := lcL_eq ▸ h
theorem c_lcT {X : Cx} {e : Expr} {K : PySem.W.Frag} {tl : TE} {g : TG} {tt : TT} {te : TE} {vs : List Nat} (h : PE X e (tLc (iTup K tl) g tt te vs)) : PE X e (uLcT K tl g tt te vs) := lcT_eq ▸ h
theorem c_lcR1 {X : Cx} {e : Expr} {ta : TA} {g : TG} {tt : TT} {te : TE} {vs : List Nat} (h : PE X e (tLc (iRng1 ta) g tt te vs)) : PE X e (uLcR1 ta g tt te vs) := lcR1_eq ▸ h
theorem c_lcR2 {X : Cx} {e : Expr} {ta : TA} {g : TG} {tt : TT} {te : TE} {vs : List Nat} (h : PE X e (tLc (iRng2 ta) g tt te vs)) : PE X e (uLcR2 ta g tt te vs) := lcR2_eq ▸ h
theorem s_lcL {X : Cx} {st : Stmt} {i : Nat} {K : PySem.W.Frag} {tl : TE} {g : TG} {tt : TT} {te : TE} {vs : List Nat} (h : PS X st (tAsg (tLc (iList K tl) g tt te vs) (gName i))) : PS X st (tAsg (uLcL K tl g tt te vs) (gName i)) := lcL_eq ▸ h
theorem s_lcT {X : Cx} {st : Stmt} {i : Nat} {K : PySem.W.Frag} {tl : TE} {g : TG} {tt : TT} {te : TE} {vs : List Nat} (h : PS X st (tAsg (tLc (iTup K tl) g tt te vs) (gName i))) : PS X st (tAsg (uLcT K tl g tt te vs) (gName i)) := lcT_eq ▸ h
theorem s_lcR1 {X : Cx} {st : Stmt} {i : Nat} {ta : TA} {g : TG} {tt : TT} {te : TE} {vs : List Nat} (h : PS X st (tAsg (tLc (iRng1 ta) g tt te vs) (gName i))) : PS X st (tAsg (uLcR1 ta g tt te vs) (gName i)) := lcR1_eq ▸ h
theorem s_lcR2 {X : Cx} {st : Stmt} {i : Nat} {ta : TA} {g : TG} {tt : TT} {te : TE} {vs : List Nat} (h : PS X st (tAsg (tLc (iRng2 ta) g tt te vs) (gName i))) : PS X st (tAsg (uLcR2 ta g tt te vs) (gName i)) := lcR2_eq ▸ h
/-- an element is put at the end of the comprehension's list at D -/
structure vPut (D : Addr) (y : V) (H : Hp) (R : Hp → Prop) : Prop where
  run : ∃ acc, H D = some (.lst acc) ∧ acc.length < sizeLine ∧ R (upd H D (.lst (acc ++ [y])))
/-- one turn: the target at x, the test, the element, Next behind -/
def lcTurn (g : TG) (tt : TT) (te : TE) (vs : List Nat) (σ : L2.St) (D : Addr) (x : V) (H : Hp) (Next : Hp → Prop) : Prop :=
  g x (wipe σ vs) H fun σ2 H2 => wipe σ2 vs = wipe σ vs ∧ tt σ2 H2 fun b H3 => byb b (te σ2 H3 fun y H4 => vPut D y H4 Next) (Next H3)
section
variable {K : PySem.W.Frag} {a : Addr} {xs : List V} {g : TG} {tt : TT} {te : TE} {vs : List Nat} {σ : L2.St} {H : Hp} {Q : VK} {i j : Int}
theorem turn_eq {D : Addr} {x : V} {Next : Hp → Prop} (h : lcTurn g tt te vs σ D x H Next) : g x (wipe σ vs) H fun σ2 H2 => wipe σ2 vs = wipe σ vs ∧ tt σ2 H2 fun b H3 =>
      if b = true then te σ2 H3 fun y H4 => ∃ acc, H4 D = some (.lst acc) ∧ acc.length < sizeLine ∧ Next (upd H4 D (.lst (acc ++ [y]))) else Next H3 := by
  have e : (fun σ2 H2 => wipe σ2 vs = wipe σ vs ∧ tt σ2 H2 fun b H3 => if b = true then te σ2 H3 fun y H4 => ∃ acc, H4 D = some (.lst acc) ∧ acc.length < sizeLine ∧ Next (upd H4 D (.lst (acc ++ [y]))) else Next H3) =
      fun σ2 H2 => wipe σ2 vs = wipe σ vs ∧ tt σ2 H2 fun b H3 => byb b (te σ2 H3 fun y H4 => vPut D y H4 Next) (Next H3) := by
    funext σ2 H2
    congr 2
    funext b H3
    rw [byb_eq]
    congr 2
    funext y H4
    exact propext ⟨fun h => ⟨h⟩, fun h => h.run⟩
  rw [e]
  exact h
/-- over a list: P tells of the turn, of what was made so far and of the heap -/
theorem n_lcL (P : Addr → Nat → List V → Hp → Prop) (hx : SqL K H a xs) (hz : xs.length ≤ 1000000) (h0 : ∀ D H1, H D = none → Same H H1 → H1 D = some (.lst []) → P D 0 [] H1)
    (hs : ∀ D i x ys H1 (Next : Hp → Prop), xs[i]? = some x → H D = none → Same H H1 → H1 D = some (.lst ys) → P D i ys H1 → ys.length ≤ i → i < xs.length →
      (∀ ys' H2, Same H H2 → H2 D = some (.lst ys') → P D (i + 1) ys' H2 → ys'.length ≤ i + 1 → Next H2) → lcTurn g tt te vs σ D x H1 Next)
    (hd : ∀ D ys H1, H D = none → Same H H1 → H1 D = some (.lst ys) → P D xs.length ys H1 → ys.length ≤ xs.length → Q (.ref D) H1) : vLcL K (.ref a) g tt te vs σ H Q :=
  ⟨⟨a, rfl, ⟨xs, hx⟩, fun D hD => lc_list (xs := xs) (fun i H1 => ∃ ys, Same H H1 ∧ H1 D = some (.lst ys) ∧ P D i ys H1 ∧ ys.length ≤ i) ⟨[], same_upd hD, upd_same, h0 D _ hD (same_upd hD) upd_same, Nat.le_refl _⟩
    (fun i H1 _ ⟨ys, s, _, _, _⟩ => s.seq hx) (fun i x H1 hi ⟨ys, s, hy, p, l⟩ => turn_eq (hs D i x ys H1 _ hi hD s hy p l (List.getElem?_eq_some_iff.mp hi).1 fun ys' H2 s2 h2 p2 l2 => ⟨ys', s2, h2, p2, l2⟩))
    (fun H1 ⟨ys, s, hy, p, l⟩ => hd D ys H1 hD s hy p l)⟩⟩
theorem n_lcT (P : Addr → Nat → List V → Hp → Prop) (hx : SqT K H a xs) (hz : xs.length ≤ 1000000) (h0 : ∀ D H1, H D = none → Same H H1 → H1 D = some (.lst []) → P D 0 [] H1)
    (hs : ∀ D i x ys H1 (Next : Hp → Prop), xs[i]? = some x → H D = none → Same H H1 → H1 D = some (.lst ys) → P D i ys H1 → ys.length ≤ i → i < xs.length →
      (∀ ys' H2, Same H H2 → H2 D = some (.lst ys') → P D (i + 1) ys' H2 → ys'.length ≤ i + 1 → Next H2) → lcTurn g tt te vs σ D x H1 Next)
    (hd : ∀ D ys H1, H D = none → Same H H1 → H1 D = some (.lst ys) → P D xs.length ys H1 → ys.length ≤ xs.length → Q (.ref D) H1) : vLcT K (.ref a) g tt te vs σ H Q :=
  ⟨⟨a, rfl, ⟨xs, hx⟩, fun D hD => lc_tup (xs := xs) (fun i H1 => ∃ ys, Same H H1 ∧ H1 D = some (.lst ys) ∧ P D i ys H1 ∧ ys.length ≤ i) ⟨[], same_upd hD, upd_same, h0 D _ hD (same_upd hD) upd_same, Nat.le_refl _⟩
    (fun i H1 _ ⟨ys, s, _, _, _⟩ => sqt_same s hx) (fun i x H1 hi ⟨ys, s, hy, p, l⟩ => turn_eq (hs D i x ys H1 _ hi hD s hy p l (List.getElem?_eq_some_iff.mp hi).1 fun ys' H2 s2 h2 p2 l2 => ⟨ys', s2, h2, p2, l2⟩))
    (fun H1 ⟨ys, s, hy, p, l⟩ => hd D ys H1 hD s hy p l)⟩⟩
theorem n_lcR2 (P : Addr → Nat → List V → Hp → Prop) (h1 : -(2 ^ 62) ≤ i ∧ i < 2 ^ 62 ∧ -(2 ^ 62) ≤ j ∧ j < 2 ^ 62) (h0 : ∀ D H1, H D = none → Same H H1 → H1 D = some (.lst []) → P D 0 [] H1)
    (hs : ∀ D (k : Nat) ys H1 (Next : Hp → Prop), i + (k : Int) < j → H D = none → Same H H1 → H1 D = some (.lst ys) → P D k ys H1 → ys.length ≤ k →
      (∀ ys' H2, Same H H2 → H2 D = some (.lst ys') → P D (k + 1) ys' H2 → ys'.length ≤ k + 1 → Next H2) → lcTurn g tt te vs σ D (.int (i + (k : Int))) H1 Next)
    (hd : ∀ D ys H1, H D = none → Same H H1 → H1 D = some (.lst ys) → P D (j - i).toNat ys H1 → ys.length ≤ (j - i).toNat → Q (.ref D) H1) : vLcR2 [.int i, .int j] g tt te vs σ H Q :=
  ⟨⟨i, j, rfl, h1, fun D hD => lc_range (lo := i) (n := (j - i).toNat) (fun k H1 => ∃ ys, Same H H1 ∧ H1 D = some (.lst ys) ∧ P D k ys H1 ∧ ys.length ≤ k) ⟨[], same_upd hD, upd_same, h0 D _ hD (same_upd hD) upd_same, Nat.le_refl _⟩
    (fun k H1 hk ⟨ys, s, hy, p, l⟩ => turn_eq (hs D k ys H1 _ (by omega) hD s hy p l fun ys' H2 s2 h2 p2 l2 => ⟨ys', s2, h2, p2, l2⟩))
    (fun H1 ⟨ys, s, hy, p, l⟩ => hd D ys H1 hD s hy p l)⟩⟩
theorem n_lcR1 (P : Addr → Nat → List V → Hp → Prop) (h1 : -(2 ^ 62) ≤ j) (h2 : j < 2 ^ 62) (h0 : ∀ D H1, H D = none → Same H H1 → H1 D = some (.lst []) → P D 0 [] H1)
    (hs : ∀ D (k : Nat) ys H1 (Next : Hp → Prop), (k : Int) < j → H D = none → Same H H1 → H1 D = some (.lst ys) → P D k ys H1 → ys.length ≤ k →
      (∀ ys' H2, Same H H2 → H2 D = some (.lst ys') → P D (k + 1) ys' H2 → ys'.length ≤ k + 1 → Next H2) → lcTurn g tt te vs σ D (.int (k : Int)) H1 Next)
    (hd : ∀ D ys H1, H D = none → Same H H1 → H1 D = some (.lst ys) → P D j.toNat ys H1 → ys.length ≤ j.toNat → Q (.ref D) H1) : vLcR1 [.int j] g tt te vs σ H Q :=
  ⟨⟨j, rfl, h1, h2, fun D hD => lc_range (lo := 0) (n := j.toNat) (fun k H1 => ∃ ys, Same H H1 ∧ H1 D = some (.lst ys) ∧ P D k ys H1 ∧ ys.length ≤ k) ⟨[], same_upd hD, upd_same, h0 D _ hD (same_upd hD) upd_same, Nat.le_refl _⟩
    (fun k H1 hk ⟨ys, s, hy, p, l⟩ => by
      have e : (0 : Int) + (k : Int) = (k : Int) := Int.zero_add _
      rw [e]
      exact turn_eq (hs D k ys H1 _ (by omega) hD s hy p l fun ys' H2 s2 h2 p2 l2 => ⟨ys', s2, h2, p2, l2⟩))
    (fun H1 ⟨ys, s, hy, p, l⟩ => hd D ys H1 hD s hy p l)⟩⟩
/-- the element put -/
theorem n_put {D : Addr} {y : V} {ys : List V} {R : Hp → Prop} (h : H D = some (.lst ys)) (hl : ys.length < sizeLine) (q : ∀ H', But D H H' → H' D = some (.lst (ys ++ [y])) → R H') : vPut D y H R := ⟨⟨ys, h, hl, a_set q⟩⟩
theorem lt_line {n m : Nat} (h : n ≤ m) (hm : m < 1000000) : n < sizeLine := Nat.lt_of_lt_of_le (Nat.lt_of_le_of_lt h hm) (by decide)
end
end Z

namespace Z
open PySem PySem.Spec PyProof.Rows L2
section
variable {P : Program} {w : World} {K : PySem.W.Frag} {mg : Str → Option Value} {base : Heap} {A : Around} {k j : Nat} {H : Hp} {Q : VK} {a b C g dx dy : Addr} {fs gs : List (Str × V)} {sp : Sp}
/-- x op y, both instances of the class at C -/
theorem e_own (hr : Rm k A) {op : CmpOp} (hop : ∀ a b, compareOp op a b = richCompare op a b) (ea : H a = some (.ins C dx fs)) (eb : H b = some (.ins C dy gs)) (hm : Meth K C (cmpInfo op).2.1 g) (F : FnZ P w K mg base j g sp)
    (h : sp [.ref a, .ref b] H Q E0) (hj : j ≤ k := by decide) : vOp ⟨P, w, K, mg, base, A⟩ (compareOp op) (.ref a) (.ref b) H Q := by
  refine ⟨?_⟩
  rintro X ⟨rfl, rfl, rfl, rfl, rfl, hA, hc⟩ pins s σ v u I rv ru
  have hA : X.A = A := hA
  subst hA
  cases (show v = Value.ref a from rv)
  cases (show u = Value.ref b from ru)
  obtain ⟨mA, O, _, _, _, _⟩ := ins_get I.hok ea
  obtain ⟨mB, O', _, _, _, _⟩ := ins_get I.hok eb
  obtain ⟨od, J, _⟩ := O.look
  obtain ⟨od', J', _⟩ := O'.look
  obtain ⟨m, hF⟩ := I.fr
  rw [hop]
  refine PySem.W.cmp_K (op := op) (tb := .ref C) hr.units0 hF I.ok.mod.kin J J'.type (by simp [PySem.W.notFirst]) hm.at_ hm.fn ?_
  refine wpAny_mono (wpAny_call (run_z (us := [.ref a, .ref b]) (vs := [.ref a, .ref b]) F (hr.le hj) I (.cons rfl (.cons rfl .nil)) h)) (fun w s' z => ?_) fun _ _ x => x
  obtain ⟨z', H', I', rz, qz⟩ := z
  exact SlX.cmpback rz ⟨z', H', I', rz, qz⟩
end
/-! ### order of tuples of ints -/
def lexI (r : Int → Int → Bool) (z : Bool) (ns ms : List Int) : Bool := Ob.lexAt (fun j => decide (ns.getD j 0 = ms.getD j 0)) (fun j => r (ns.getD j 0) (ms.getD j 0)) z 0 (min ns.length ms.length)
section
variable {P : Program} {w : World} {K : PySem.W.Frag} {mg : Str → Option Value} {base : Heap} {A : Around} {k j : Nat} {H : Hp} {Q : VK} {a b : Addr} {ns ms : List Int}
theorem tup_facts {X : Cx} {pins : List (Addr × Obj)} {σ : L2.St} {s : Shared} (I : Inv X pins σ H s) (ha : SqT X.K H a (ns.map V.int)) : ∃ its : Array Value, s.heap.IsTuple a its ∧ its.size = ns.length ∧ ∀ j (h : j < its.size), ∃ t, its[j] = .int (ns.getD j 0) t := by
  obtain ⟨its, r1, p1, _⟩ := I.tuple ha
  have i1 : IntsAre its ns := Vals.ints r1
  exact ⟨_, p1, by rw [List.size_toArray]; exact i1.length, fun j h => PyProof.Rows.IntsAre.int_at i1 _ _ (by simp at h; simp [h])⟩
theorem eqAt_getD {A : Around} {s : Shared} {x y : Int} {t u : Tok} : SeqAt.EqAt A s (.int x t) (.int y u) (decide (x = y)) := by
  have z : (x == y) = decide (x = y) := by
    by_cases q : x = y
    · rw [decide_eq_true q]; exact beq_iff_eq.mpr q
    · rw [decide_eq_false q]; exact beq_eq_false_iff_ne.mpr q
  rw [← z]
  exact SeqAt.EqAt.int_int _ _ _ _
theorem e_ltT (hr : Rm k A) (ha : SqT K H a (ns.map V.int)) (hb : SqT K H b (ms.map V.int)) (q : Q (.bl (lexI (fun i j => decide (i < j)) (decide (ns.length < ms.length)) ns ms)) H) : vOp ⟨P, w, K, mg, base, A⟩ (compareOp .Lt) (.ref a) (.ref b) H Q := by
  refine ⟨?_⟩
  rintro X ⟨rfl, rfl, rfl, rfl, rfl, hA, hc⟩ pins s σ v u I rv ru
  have hA : X.A = A := hA
  subst hA
  cases (show v = Value.ref a from rv)
  cases (show u = Value.ref b from ru)
  obtain ⟨its, p1, z1, f1⟩ := tup_facts I ha
  obtain ⟨its2, p2, z2, f2⟩ := tup_facts I hb
  have R := Ob.RcOp.tuples_lt (A := X.A) (s := s) (e := fun j => decide (ns.getD j 0 = ms.getD j 0)) (r := fun j => decide (ns.getD j 0 < ms.getD j 0)) p1 p2 hr.units0 (fun j h1 h2 => by
    obtain ⟨t, et⟩ := f1 j h1
    obtain ⟨t', et'⟩ := f2 j h2
    rw [et, et']
    exact eqAt_getD) (fun j h1 h2 _ => by
    obtain ⟨t, et⟩ := f1 j h1
    obtain ⟨t', et'⟩ := f2 j h2
    rw [et, et']
    exact Ob.RcOp.lt_int _ _ _ _)
  rw [z1, z2] at R
  exact R _ _ _ _ ⟨.bl _, H, I, rfl, q⟩
theorem e_leT (hr : Rm k A) (ha : SqT K H a (ns.map V.int)) (hb : SqT K H b (ms.map V.int)) (q : Q (.bl (lexI (fun i j => decide (i ≤ j)) (decide (ns.length ≤ ms.length)) ns ms)) H) : vOp ⟨P, w, K, mg, base, A⟩ (compareOp .LtE) (.ref a) (.ref b) H Q := by
  refine ⟨?_⟩
  rintro X ⟨rfl, rfl, rfl, rfl, rfl, hA, hc⟩ pins s σ v u I rv ru
  have hA : X.A = A := hA
  subst hA
  cases (show v = Value.ref a from rv)
  cases (show u = Value.ref b from ru)
  obtain ⟨its, p1, z1, f1⟩ := tup_facts I ha
  obtain ⟨its2, p2, z2, f2⟩ := tup_facts I hb
  have R := Ob.RcOp.tuples_le (A := X.A) (s := s) (e := fun j => decide (ns.getD j 0 = ms.getD j 0)) (r := fun j => decide (ns.getD j 0 ≤ ms.getD j 0)) p1 p2 hr.units0 (fun j h1 h2 => by
    obtain ⟨t, et⟩ := f1 j h1
    obtain ⟨t', et'⟩ := f2 j h2
    rw [et, et']
    exact eqAt_getD) (fun j h1 h2 _ => by
    obtain ⟨t, et⟩ := f1 j h1
    obtain ⟨t', et'⟩ := f2 j h2
    rw [et, et']
    exact Ob.RcOp.le_int _ _ _ _)
  rw [z1, z2] at R
  exact R _ _ _ _ ⟨.bl _, H, I, rfl, q⟩
theorem e_gtT (hr : Rm k A) (ha : SqT K H a (ns.map V.int)) (hb : SqT K H b (ms.map V.int)) (q : Q (.bl (lexI (fun i j => decide (j < i)) (decide (ms.length < ns.length)) ns ms)) H) : vOp ⟨P, w, K, mg, base, A⟩ (compareOp .Gt) (.ref a) (.ref b) H Q := by
  refine ⟨?_⟩
  rintro X ⟨rfl, rfl, rfl, rfl, rfl, hA, hc⟩ pins s σ v u I rv ru
  have hA : X.A = A := hA
  subst hA
  cases (show v = Value.ref a from rv)
  cases (show u = Value.ref b from ru)
  obtain ⟨its, p1, z1, f1⟩ := tup_facts I ha
  obtain ⟨its2, p2, z2, f2⟩ := tup_facts I hb
  have R := Ob.RcOp.tuples_gt (A := X.A) (s := s) (e := fun j => decide (ns.getD j 0 = ms.getD j 0)) (r := fun j => decide (ms.getD j 0 < ns.getD j 0)) p1 p2 hr.units0 (fun j h1 h2 => by
    obtain ⟨t, et⟩ := f1 j h1
    obtain ⟨t', et'⟩ := f2 j h2
    rw [et, et']
    exact eqAt_getD) (fun j h1 h2 _ => by
    obtain ⟨t, et⟩ := f1 j h1
    obtain ⟨t', et'⟩ := f2 j h2
    rw [et, et']
    exact Ob.RcOp.gt_int _ _ _ _)
  rw [z1, z2] at R
  exact R _ _ _ _ ⟨.bl _, H, I, rfl, q⟩
theorem e_geT (hr : Rm k A) (ha : SqT K H a (ns.map V.int)) (hb : SqT K H b (ms.map V.int)) (q : Q (.bl (lexI (fun i j => decide (j ≤ i)) (decide (ms.length ≤ ns.length)) ns ms)) H) : vOp ⟨P, w, K, mg, base, A⟩ (compareOp .GtE) (.ref a) (.ref b) H Q := by
  refine ⟨?_⟩
  rintro X ⟨rfl, rfl, rfl, rfl, rfl, hA, hc⟩ pins s σ v u I rv ru
  have hA : X.A = A := hA
  subst hA
  cases (show v = Value.ref a from rv)
  cases (show u = Value.ref b from ru)
  obtain ⟨its, p1, z1, f1⟩ := tup_facts I ha
  obtain ⟨its2, p2, z2, f2⟩ := tup_facts I hb
  have R := Ob.RcOp.tuples_ge (A := X.A) (s := s) (e := fun j => decide (ns.getD j 0 = ms.getD j 0)) (r := fun j => decide (ms.getD j 0 ≤ ns.getD j 0)) p1 p2 hr.units0 (fun j h1 h2 => by
    obtain ⟨t, et⟩ := f1 j h1
    obtain ⟨t', et'⟩ := f2 j h2
    rw [et, et']
    exact eqAt_getD) (fun j h1 h2 _ => by
    obtain ⟨t, et⟩ := f1 j h1
    obtain ⟨t', et'⟩ := f2 j h2
    rw [et, et']
    exact Ob.RcOp.ge_int _ _ _ _)
  rw [z1, z2] at R
  exact R _ _ _ _ ⟨.bl _, H, I, rfl, q⟩
end
end Z

namespace Z
open PySem PySem.Spec PyProof.Rows L2
/-! ### the end: the law called by the caller -/
/-- the script's list, where the module does not own it -/
def scr (K : PySem.W.Frag) (a : Addr) (vs : List Value) (ns : List Int) : Hp := fun b => if b = a ∧ K.lookup a = none then some (.frz { cls := .type "list", data := .seq vs.toArray } (.lst (ns.map V.int))) else none
section
variable {P : Program} {w : World} {K : PySem.W.Frag} {mg mb : Str → Option Value} {k : Nat} {fa a : Addr} {sp : Sp} {s : Shared} {vs : List Value} {ns : List Int}
theorem scr_or (b : Addr) : scr K a vs ns b = none ∨ (b = a ∧ K.lookup a = none ∧ scr K a vs ns b = some (.frz { cls := .type "list", data := .seq vs.toArray } (.lst (ns.map V.int)))) := by
  by_cases c : b = a ∧ K.lookup a = none
  · exact .inr ⟨c.1, c.2, if_pos c⟩
  · exact .inl (if_neg c)
theorem law_z (kx : K.In s.heap) (hns : s.heap.Ns mainGlobals mg) (hb : s.heap.Ns builtinsNs mb) (hbb : ∀ x : Str, x ≠ "__name__" → mb x = bootBuiltins x) (nl : s.heap.NoLimit) (hg : s.gens = #[])
    (ha : s.heap.get? a = some { cls := .type "list", data := .seq vs.toArray }) (hi : IntsAre vs ns) (hl : ns.length ≤ sizeLine) (hr : Rm k callerA) (F : ∀ base : Heap, K.In base → base.Ns mainGlobals mg → FnZ P w K mg base k fa sp)
    (q : ∀ H : Hp, Only H → SqL K H a (ns.map V.int) → sp [.ref a] H (fun v _ => v = .bl true) E0) :
    codeAny (model P w) callerA (.call (.ref fa) ⟨[.ref a], []⟩) (fun r s' => r = .ok (.ret (.bool true)) ∧ OldK s.heap s'.heap ∧ s'.os = s.os ∧ AllBare s'.gens) s := by
  have rv : Vals (ns.map V.int) vs := vals_ints hi
  have len := hi.length
  have one : ∀ {b u}, scr K a vs ns b = some u → b = a ∧ K.lookup a = none ∧ u = .frz { cls := .type "list", data := .seq vs.toArray } (.lst (ns.map V.int)) := fun {b u} e => by
    rcases scr_or (K := K) (a := a) (vs := vs) (ns := ns) b with z | ⟨z1, z2, z3⟩
    · rw [z] at e; cases e
    · rw [z3] at e; cases e; exact ⟨z1, z2, rfl⟩
  have keep : ∀ {b : Addr} {o : Obj}, s.heap.get? b = some o → scr K a vs ns b = none → (hidT s.heap (scr K a vs ns)).get? b = some o := fun e n => hidT_get e n
  have dict : ∀ {b : Addr} {m : Str → Option Value}, s.heap.Ns b m → (hidT s.heap (scr K a vs ns)).Ns b m := fun {b m} ⟨o, es, ep, e, d, r⟩ => by
    refine ⟨o, es, ep, keep e ?_, d, r⟩
    rcases scr_or (K := K) (a := a) (vs := vs) (ns := ns) b with z | ⟨rfl, _, _⟩
    · exact z
    · rw [ha] at e
      cases e
      cases (show Data.seq vs.toArray _ = Data.dict es ep from d)
  have kb : K.In (hidT s.heap (scr K a vs ns)) := fun b o e => keep (kx b o e) (by
    rcases scr_or (K := K) (a := a) (vs := vs) (ns := ns) b with z | ⟨rfl, z, _⟩
    · exact z
    · rw [z] at e; cases e)
  have ok : HOk P w (scr K a vs ns) s.heap := fun b u e => by
    obtain ⟨rfl, _, rfl⟩ := one e
    exact ⟨ha, by rw [List.length_map]; exact hl, vs, _, rv, ha⟩
  have e0 : Env0 P w K mg (hidT s.heap (scr K a vs ns)) callerA [] s (scr K a vs ns) :=
    ⟨rfl, ⟨kb, dict hns, ⟨mb, dict hb, hbb⟩, nl.elim fun mc h => ⟨mc, dict h.1, h.2⟩⟩, fun b o e => of_hidT e, Nat.le_of_eq (hidT_size _ _), trivial, fun b z => (List.not_mem_nil z).elim, ok, .of_eq hg⟩
  have sq : SqL K (scr K a vs ns) a (ns.map V.int) := by
    cases e : K.lookup a with
    | none => exact .inl (.inr ⟨_, if_pos ⟨rfl, e⟩⟩)
    | some o =>
      have z := kx a o e
      rw [ha] at z
      cases z
      exact .inr ⟨_, vs.toArray, _, e, rfl, rfl, rfl, by rw [List.size_toArray, len]; exact hl, by simpa using rv⟩
  refine codeAny_mono (F _ kb (dict hns) callerA [] s (scr K a vs ns) [.ref a] [.ref a] _ E0 hr e0 (.cons rfl .nil) (q _ (fun b => ?_) sq)) fun r s' z => ?_
  · rcases scr_or (K := K) (a := a) (vs := vs) (ns := ns) b with z | ⟨_, _, z⟩
    · exact .inl z
    · exact .inr ⟨_, _, z⟩
  · match r, z with
    | .error e, ⟨_, _, _, _, _, _, _, _, _, _, _, _, z⟩ => exact z.elim
    | .ok (.ret u), ⟨v, H', os, bare, un, ok', r', e⟩ =>
      cases (show v = .bl true from e)
      cases (show u = Value.bool true from r')
      refine ⟨rfl, OldK.of_keep fun b o e => ?_, os, bare⟩
      rcases scr_or (K := K) (a := a) (vs := vs) (ns := ns) b with z | ⟨_, _, z⟩
      · exact un.keep b o e z (fun h => (List.not_mem_nil h).elim) (fun h => (List.not_mem_nil h).elim)
      · have y1 := (ok b _ z).1
        have y2 := (ok' b _ (un.frzs b _ _ z)).1
        rw [e] at y1
        cases y1
        exact y2
end
/-- the goal that the head leaves -/
theorem walk_z {l : PySem.W.OpenLaw} {n k : Nat} {p : Program} {loose : List Str} {XP : (Str → Option Value) → Heap → Prop} {YP : World → Heap → Prop} {d : DefRec} (hn : l.most = some n) (hn2 : n ≤ sizeLine) (hdf : d.params.defaults = []) (hr : Rm k callerA)
    (F : ∀ (w : World) (mg : Str → Option Value) (fa : Addr) (h : Heap), YP w h → h.Ns mainGlobals mg → mg d.name = some (.ref fa) → ∃ (K : PySem.W.Frag) (sp : Sp), K.In h ∧
      (∀ (H : Hp) (a : Addr) (ns : List Int), ns.length ≤ n → Only H → SqL K H a (ns.map V.int) → sp [.ref a] H (fun v _ => v = .bl true) E0) ∧ ∀ base : Heap, K.In base → base.Ns mainGlobals mg → FnZ l.prog w K mg base k fa sp) :
    PySem.W.WalkO p loose XP YP l.row.toRowW d [] (fun f vs => PySem.call f vs) := by
  refine Att.attach_call hn hdf fun w s₀ s₁ mg mb fa o pm cd doc a vs ns G Y _ _ _ hm ho hi hlen hg => ?_
  obtain ⟨K, sp, kx, q, G2⟩ := F w mg fa _ Y G.T.g hm
  exact law_z kx G.T.g G.T.b G.T.builtins G.T.nolimit hg ho hi (Nat.le_trans hlen hn2) hr G2 fun H o s => q H a ns hlen o s
end Z
namespace Z
open PySem PySem.Spec PyProof.Rows L2
/-! ### repr of data -/
section
variable {P : Program} {w : World} {K : PySem.W.Frag} {mg : Str → Option Value} {base : Heap} {A : Around} {k : Nat} {H : Hp} {Q : VK} {a : Addr} {d : PyData}
theorem e_repr (hr : Rm k A) (hx : Dp K H (.ref a) d) (hs : d.showable = true) (hn : d.hasDict = false) (hd : d.depth ≤ 60) (hz : d.shown.length ≤ sizeLine) (q : Q (.str d.shown) H) : vCB ⟨P, w, K, mg, base, A⟩ (.builtin "repr") [.ref a] H Q := by
  refine ⟨?_⟩
  rintro X ⟨rfl, rfl, rfl, rfl, rfl, hA, hc⟩ pins s σ us I r
  have hA : X.A = A := hA
  subst hA
  obtain ⟨u, rfl, ru⟩ := vals1 r
  cases (show u = Value.ref a from ru)
  obtain ⟨as, R⟩ := Dp.reads I d _ _ hx rfl
  refine repr_of_reads' R hs (PyData.noDict_hsm hn) hr.gs (by have := hr.units; omega) (fun _ _ e => e) (fun h' u tk kk => ?_) hz
  exact ⟨.str d.shown, H, I.kept kk, ⟨u, rfl⟩, q⟩
theorem bools_dp {K : PySem.W.Frag} {H : Hp} : ∀ bs : List Bool, DpAll K H (bs.map V.bl) (bs.map PyData.bool)
  | [] => .nil
  | b :: r => .cons (.bl b) (bools_dp r)
theorem bools_ok : ∀ bs : List Bool, PyData.showableAll (bs.map PyData.bool) = true ∧ PyData.hasDictAll (bs.map PyData.bool) = false ∧ PyData.leavesShortAll 8 (bs.map PyData.bool) = true ∧ PyData.bulkAll (bs.map PyData.bool) = bs.length ∧ PyData.depthAll (bs.map PyData.bool) = 0
  | [] => by simp [PyData.showableAll, PyData.hasDictAll, PyData.leavesShortAll, PyData.bulkAll, PyData.depthAll]
  | b :: r => by
    obtain ⟨h1, h2, h3, h4, h5⟩ := bools_ok r
    simp [PyData.showableAll, PyData.hasDictAll, PyData.leavesShortAll, PyData.bulkAll, PyData.depthAll, PyData.showable, PyData.hasDict, PyData.leavesShort, PyData.bulk, PyData.depth, h1, h2, h3, h4, h5]
    omega
/-- the text of a list of bools -/
def boolsText (bs : List Bool) : Str := (PyData.list (bs.map PyData.bool)).shown
theorem e_reprB (hr : Rm k A) {bs : List Bool} (hx : SqL K H a (bs.map V.bl)) (hl : bs.length ≤ 1000) (q : Q (.str (boolsText bs)) H) : vCB ⟨P, w, K, mg, base, A⟩ (.builtin "repr") [.ref a] H Q := by
  obtain ⟨h1, h2, h3, h4, h5⟩ := bools_ok bs
  refine e_repr (d := .list (bs.map PyData.bool)) hr (.lst hx (bools_dp bs)) (by rw [PyData.showable]; exact h1) (by rw [PyData.hasDict]; exact h2) (by rw [PyData.depth]; omega) (PyData.shown_fits_bulk (B := 8) (by omega) (by omega) (by rw [PyData.leavesShort]; exact h3) (by rw [PyData.bulk, h4]; omega)) q
end
end Z
namespace Z
open PySem PySem.Spec PyProof.Rows L2
/-- what isinstance asks of an own class that stands under object -/
structure Isi (K : PySem.W.Frag) (C : Addr) : Prop where
  ca : PySem.W.findIn K (.ref C) "__class__" = some (some (.builtin "object.__class__"))
  cn : PySem.W.specialIn K (.builtin "object.__class__") "__get__" = some (some (.builtin "getset_descriptor.__get__"))
  ct : PySem.W.takesIn K (.builtin "object.__class__") = some true
  cm : PySem.W.mroIn K C (.type "object") = some true
end Z

namespace Z
open PySem PySem.Spec PyProof.Rows L2
/-! ### the head, its facts as a list of Bools over the part of the heap that the module's names reach -/
abbrev AlZ : Type := Bool × List He.FnW
def obsZ (fn : List He5.DefA) (ex : PySem.W.Frag → List Bool) (K : PySem.W.Frag) : AlZ := ((ex K).all (fun b => b) && fn.all fun d => d.ok K, fn.map fun d => He5.fnA K (d.at_ K))
def valZ (fn : List He5.DefA) : AlZ := (true, fn.map He5.DefA.val)
def SaysZ (fn : List He5.DefA) (ex : PySem.W.Frag → List Bool) (K : PySem.W.Frag) : Prop := obsZ fn ex K = valZ fn
def obsZG (n : Nat) (fn : List He5.DefA) (ex : PySem.W.Frag → List Bool) (g : Addr → Option Obj) : AlZ := obsZ fn ex (He.frG g (He5.asA g n))
def hookZ (n : Nat) (fn : List He5.DefA) (ex : PySem.W.Frag → List Bool) : PySem.W.Hook where
  α := AlZ
  obs := fun s => obsZG n fn ex s.heap.get?
  val := fun _ => valZ fn
  says := fun _ h => ∃ K : PySem.W.Frag, K.In h ∧ SaysZ fn ex K
  of := fun _ _ e => ⟨_, He.frG_in, e⟩
  keeps := fun _ _ _ z k => z.elim fun K y => ⟨K, PySem.W.Frag.In.keeps y.1 k, y.2⟩
theorem obsZ_tree {n : Nat} {fn : List He5.DefA} {ex : PySem.W.Frag → List Bool} (s : PySem.W.SharedT) : obsZG n fn ex (HandSHeadRun.getT s) = (hookZ n fn ex).obs s.abs := by
  rw [show HandSHeadRun.getT s = s.abs.heap.get? from funext (HandSHeadRun.getT_eq s)] <;> rfl
section
variable {fn : List He5.DefA} {ex : PySem.W.Frag → List Bool} {K : PySem.W.Frag}
theorem SaysZ.two (c : SaysZ fn ex K) : (ex K).all (fun b => b) = true ∧ (fn.all fun d => d.ok K) = true := He.ba (congrArg Prod.fst c)
theorem SaysZ.b (c : SaysZ fn ex K) (i : Nat) {b : Bool} (h : (ex K)[i]? = some b) : b = true := List.all_eq_true.mp c.two.1 b (List.mem_of_getElem? h)
theorem SaysZ.d (c : SaysZ fn ex K) (i : Nat) {d : He5.DefA} (h : fn[i]? = some d) : ∃ fd, FunD K d.name d.qual d.params d.body d.scope (d.dvs K) (d.kws K) (d.at_ K) fd := by
  have e := congrArg (fun l : List He.FnW => l[i]?) (congrArg Prod.snd c)
  simp only [obsZ, valZ, List.getElem?_map, h, Option.map_some] at e
  exact He5.DefA.funD (Option.some.inj e) (List.all_eq_true.mp c.two.2 d (List.mem_of_getElem? h))
end
/-! ### more facts -/
section
variable {K : PySem.W.Frag} {C : Addr} {m : Str}
def isiB (K : PySem.W.Frag) (C : Addr) : Bool := He.eqO (PySem.W.findIn K (.ref C) "__class__") (some (some (.builtin "object.__class__"))) && He.eqO (PySem.W.specialIn K (.builtin "object.__class__") "__get__") (some (some (.builtin "getset_descriptor.__get__"))) &&
  decide (PySem.W.takesIn K (.builtin "object.__class__") = some true) && decide (PySem.W.mroIn K C (.type "object") = some true)
theorem isi_ok (h : isiB K C = true) : Isi K C := by
  obtain ⟨h, h4⟩ := He.ba h
  obtain ⟨h, h3⟩ := He.ba h
  obtain ⟨h1, h2⟩ := He.ba h
  exact ⟨He.eqO_ok h1, He.eqO_ok h2, of_decide_eq_true h3, of_decide_eq_true h4⟩
def propB (K : PySem.W.Frag) (C : Addr) (m : Str) : Bool := He.eqO (PySem.W.findIn K (.ref C) m) (some (some (.ref (He.ma K C m)))) && He.eqO (PySem.W.specialIn K (.ref (He.ma K C m)) "__get__") (some (some (.builtin "property.__get__"))) &&
  decide (PySem.W.takesIn K (.ref (He.ma K C m)) = some true) && (match PySem.W.recIn K (He.ma K C m) "property" with
    | some (.ref g :: _) => decide (g = He5.wf K C "property" m)
    | _ => false)
theorem prop_ok (h : propB K C m = true) : PropOf K C m (He.ma K C m) (He5.wf K C "property" m) := by
  obtain ⟨h, h4⟩ := He.ba h
  obtain ⟨h, h3⟩ := He.ba h
  obtain ⟨h1, h2⟩ := He.ba h
  refine ⟨He.eqO_ok h1, He.eqO_ok h2, of_decide_eq_true h3, ?_⟩
  split at h4
  · rename_i g r e
    rw [e, of_decide_eq_true h4]
    exact ⟨r, rfl⟩
  · cases h4
theorem noat_of (h : He.eqO (PySem.W.findIn K (.ref C) m) (some none) = true) : NoAttr K C m := He.eqO_ok h
end
end Z

namespace Z
open PySem PySem.Spec PyProof.Rows L2
/-! ### own dunders of plain instances -/
section
variable {P : Program} {w : World} {K : PySem.W.Frag} {mg : Str → Option Value} {base : Heap} {A : Around} {k j : Nat} {H : Hp} {Q : VK} {a C g dx : Addr} {fs : List (Str × V)} {sp : Sp} {vs : List V} {y : V} {tb : Value}
/-- a def's call at this context, at the one below a unit -/
theorem run_here {X : Cx} {pins : List (Addr × Obj)} {σ : L2.St} {s : Shared} {us : List Value} (F : FnZ X.prog X.w X.K X.mg X.base j g sp) (hr : Rm k X.A) (hj : j ≤ k) (I : Inv X pins σ H s) (r : Vals vs us) (h : sp vs H Q E0) :
    wpAny (model X.prog X.w) X.A (call (.ref g) us) (EP X pins σ Q) X.xe s :=
  wpAny_call (codeAny_mono (F X.A X.stack s H us vs Q E0 (hr.le hj) I.env0 r h) fun r s' z => match r, z with
    | .ok (.ret _), z => I.after z
    | .error _, ⟨_, _, _, _, _, _, _, _, _, _, _, _, z⟩ => z.elim)
theorem run_in1 {X : Cx} {pins : List (Addr × Obj)} {σ : L2.St} {s : Shared} {us : List Value} (F : FnZ X.prog X.w X.K X.mg X.base j g sp) (hr : Rm k X.A) (hj : j + 1 ≤ k) (I : Inv X pins σ H s) (r : Vals vs us) (h : sp vs H Q E0) :
    wpAny (model X.prog X.w) X.A.in1 (call (.ref g) us) (EP X pins σ Q) X.xe s :=
  wpAny_call (codeAny_mono (F X.A.in1 X.stack s H us vs Q E0 (hr.le hj).step I.env0.in1 r h) fun r s' z => match r, z with
    | .ok (.ret _), z => I.after z
    | .error _, ⟨_, _, _, _, _, _, _, _, _, _, _, _, z⟩ => z.elim)
def isStr (Q : VK) : VK := fun v H => match v with | .str t => Q (.str t) H | _ => False
def isBl (Q : Bool → Hp → Prop) : VK := fun v H => match v with | .bl b => Q b H | _ => False
theorem back_str {X : Cx} {pins : List (Addr × Obj)} {σ : L2.St} {v : Value} {s : Shared} (h : EP X pins σ (isStr Q) v s) : PySem.W.StrBack (EP X pins σ Q) v s := by
  obtain ⟨x, H1, I, rx, q⟩ := h
  cases x with
  | str t => obtain ⟨tk, rfl⟩ := rx; exact ⟨.str t, H1, I, ⟨tk, rfl⟩, q⟩
  | _ => exact q.elim
/-- repr(x), str(x) of an own class -/
theorem e_reprOwn (hr : Rm k A) (ea : H a = some (.ins C dx fs)) (m : Meth K C "__repr__" g) (F : FnZ P w K mg base j g sp) (h : sp [.ref a] H (isStr Q) E0) (hj : j + 1 ≤ k := by decide) : vCB ⟨P, w, K, mg, base, A⟩ (.builtin "repr") [.ref a] H Q := by
  refine ⟨?_⟩
  rintro X ⟨rfl, rfl, rfl, rfl, rfl, hA, hc⟩ pins s σ us I r
  have hA : X.A = A := hA
  subst hA
  obtain ⟨u, rfl, ru⟩ := vals1 r
  cases (show u = Value.ref a from ru)
  obtain ⟨mA, O, _, _, _, _⟩ := ins_get I.hok ea
  obtain ⟨od, J, _⟩ := O.look
  obtain ⟨mf, hF⟩ := I.fr
  exact PySem.W.repr_K (by have := hr.units; show X.A.units + 1 < _; omega) hF I.ok.mod.kin J m.at_ m.fn (wpAny_mono (run_in1 F hr hj I r h) (fun _ _ z => back_str z) fun _ _ z => z)
/-- len(x) -/
theorem e_lenOwn (hr : Rm k A) (ea : H a = some (.ins C dx fs)) (m : Meth K C "__len__" g) (F : FnZ P w K mg base j g sp) (h : sp [.ref a] H (fun v H' => ∃ i : Int, v = .int i ∧ 0 ≤ i ∧ i < 2 ^ 63 ∧ Q (.int i) H') E0) (hj : j + 1 ≤ k := by decide) : vCB ⟨P, w, K, mg, base, A⟩ (.builtin "len") [.ref a] H Q := by
  refine ⟨?_⟩
  rintro X ⟨rfl, rfl, rfl, rfl, rfl, hA, hc⟩ pins s σ us I r
  have hA : X.A = A := hA
  subst hA
  obtain ⟨u, rfl, ru⟩ := vals1 r
  cases (show u = Value.ref a from ru)
  obtain ⟨mA, O, _, _, _, _⟩ := ins_get I.hok ea
  obtain ⟨od, J, _⟩ := O.look
  obtain ⟨mf, hF⟩ := I.fr
  refine PySem.W.len_K hF I.ok.mod.kin J m.at_ m.fn (wpAny_mono (run_in1 F hr hj I r h) (fun v s' z => ?_) fun _ _ z => z)
  obtain ⟨x, H1, I1, rx, i, rfl, h0, h1, q⟩ := z
  obtain ⟨t, rfl⟩ := rx
  exact ⟨⟨h0, h1⟩, .int i, H1, I1.tok _, ⟨_, rfl⟩, q⟩
/-- truth by __bool__; without __bool__ and __len__ -/
theorem e_truOwn {R : Bool → Hp → Prop} (hr : Rm k A) (ea : H a = some (.ins C dx fs)) (m : Meth K C "__bool__" g) (F : FnZ P w K mg base j g sp) (h : sp [.ref a] H (isBl R) E0) (hj : j ≤ k := by decide) : vTru ⟨P, w, K, mg, base, A⟩ (.ref a) H R := by
  refine ⟨?_⟩
  rintro X ⟨rfl, rfl, rfl, rfl, rfl, hA, hc⟩ pins s σ u I r
  have hA : X.A = A := hA
  subst hA
  cases (show u = Value.ref a from r)
  obtain ⟨mA, O, _, _, _, _⟩ := ins_get I.hok ea
  obtain ⟨od, J, _⟩ := O.look
  obtain ⟨mf, hF⟩ := I.fr
  refine PySem.W.truthy_K hF I.ok.mod.kin J m.at_ m.fn (wpAny_mono (run_here F hr hj I (.cons r .nil) h) (fun v s' z => ?_) fun _ _ z => z)
  obtain ⟨x, H1, I1, rx, q⟩ := z
  cases x with
  | bl b => cases (show v = Value.bool b from rx); exact ⟨H1, I1, q⟩
  | _ => exact q.elim
theorem e_tru0 {n : En} {R : Bool → Hp → Prop} (ea : H a = some (.ins C dx fs)) (m : NoAttr n.K C "__bool__") (l : NoAttr n.K C "__len__") (q : R true H) : vTru n (.ref a) H R := by
  refine ⟨?_⟩
  intro X o pins s σ u I r
  cases (show u = Value.ref a from r)
  rw [← o.K] at m l
  obtain ⟨mA, O, _, _, _, _⟩ := ins_get I.hok ea
  obtain ⟨od, J, _⟩ := O.look
  obtain ⟨mf, hF⟩ := I.fr
  exact PySem.W.truthy_K0 hF I.ok.mod.kin J m l ⟨H, I, q⟩
theorem bool_meets0 {K : PySem.W.Frag} {C a : Addr} {ox : Obj} {od : Option Obj} (m : NoAttr K C "__bool__") (l : NoAttr K C "__len__") :
    Meets (Builtin.«bool.__new__» ⟨[.type "bool", .ref a], []⟩) (fun _ R s => (PySem.W.InstAt s.heap a ox C od ∧ ∃ (h0 : Heap) (L : Addr) (mm : Str → Option Value), K.In h0 ∧ Fr h0 L s.heap mm) ∧ R (.ok (.ret (.bool true))) s) :=
  Meets.of_wp fun prog w A R s hs => by
    obtain ⟨⟨hi, h0, L, mm, hk, hF⟩, hs⟩ := hs
    have f1 := F.conv_sub_bool
    have m1 : PySem.W.findIn K (.ref C) "__bool__" = some none := m
    have l1 : PySem.W.findIn K (.ref C) "__len__" = some none := l
    obtain ⟨hp, gg, d, tk, os⟩ := s
    repeat (any_goals (first | assumption | (with_reducible refine PySem.W.truthy_K0 hF hk hi m1 l1 ?_) | wp_step))
    all_goals first | exact ⟨_, rfl, hs⟩ | exact hs | skip
theorem e_bool0 {n : En} (ea : H a = some (.ins C dx fs)) (m : NoAttr n.K C "__bool__") (l : NoAttr n.K C "__len__") (q : Q (.bl true) H) : vCB n (.type "bool") [.ref a] H Q := by
  refine ⟨?_⟩
  intro X o pins s σ us I r
  obtain ⟨u, rfl, ru⟩ := vals1 r
  cases (show u = Value.ref a from ru)
  rw [← o.K] at m l
  obtain ⟨mA, O, _, _, _, _⟩ := ins_get I.hok ea
  obtain ⟨od, J, _⟩ := O.look
  obtain ⟨mf, hF⟩ := I.fr
  exact call_bool_1 (bool_meets0 m l) ⟨⟨J, _, _, mf, I.ok.mod.kin, hF⟩, rfl, .bl true, H, I, rfl, q⟩
end
end Z

namespace Z
open PySem PySem.Spec PyProof.Rows L2
section
variable {P : Program} {w : World} {K : PySem.W.Frag} {mg : Str → Option Value} {base : Heap} {A : Around} {k j : Nat} {H : Hp} {Q : VK} {a C g dx : Addr} {fs : List (Str × V)} {sp : Sp} {vs : List V} {y : V} {tb : Value}
/-- x op y, x of an own class with the dunder, y of a type that is no class under x's -/
theorem e_cmpX (hr : Rm k A) {op : CmpOp} (hop : ∀ a b, compareOp op a b = richCompare op a b) (ea : H a = some (.ins C dx fs)) (ty : TyX K H y tb) (hn : PySem.W.notFirst K C tb = true) (hm : Meth K C (cmpInfo op).2.1 g) (F : FnZ P w K mg base j g sp)
    (h : sp [.ref a, y] H Q E0) (hj : j ≤ k := by decide) : vOp ⟨P, w, K, mg, base, A⟩ (compareOp op) (.ref a) y H Q := by
  refine ⟨?_⟩
  rintro X ⟨rfl, rfl, rfl, rfl, rfl, hA, hc⟩ pins s σ v u I rv ru
  have hA : X.A = A := hA
  subst hA
  cases (show v = Value.ref a from rv)
  obtain ⟨mA, O, _, _, _, _⟩ := ins_get I.hok ea
  obtain ⟨od, J, _⟩ := O.look
  obtain ⟨Pt, kit, hP, _⟩ := kit_of I ru ty
  obtain ⟨m, hF⟩ := I.fr
  rw [hop]
  refine PySem.W.cmp_K (op := op) (tb := tb) hr.units0 hF I.ok.mod.kin J (kit.ty _ _ I.kIn hP) hn hm.at_ hm.fn ?_
  refine wpAny_mono (run_here (us := [.ref a, u]) (vs := [.ref a, y]) F hr hj I (.cons rfl (.cons ru .nil)) h) (fun w s' z => ?_) fun _ _ x => x
  obtain ⟨z', H', I', rz, qz⟩ := z
  exact SlX.cmpback rz ⟨z', H', I', rz, qz⟩
/-- x != y by __eq__ alone -/
theorem ne_run {prog : Program} {s : Shared} {E : Value → Shared → Prop} {h₀ : Heap} {L : Addr} {m : Str → Option Value} {ox : Obj} {od : Option Obj} {b : Value} {R : Value → Shared → Prop} (hu : A.in1.units + 1 < cLine) (F : Fr h₀ L s.heap m) (X₀ : K.In h₀) (I : PySem.W.InstAt s.heap a ox C od)
    (hb : PySem.W.Looks (model prog w) s.heap (typeOf b) tb) (hn : PySem.W.notFirst K C tb = true) (hs : PySem.W.findIn K (.ref C) "__ne__" = some (some (.builtin "object.__ne__"))) (hm : PySem.W.mroIn K C (.type "object") = some true)
    (he : PySem.W.findIn K (.ref C) "__eq__" = some (some (.ref g))) (hf : PySem.W.isFn K (.ref g) = true)
    (h : wpAny (model prog w) A.in1 (call (.ref g) [.ref a, b]) (fun v s' => ∃ c, v = .bool c ∧ R (.bool (!c)) s') E s) : wpAny (model prog w) A (richCompare .NotEq (.ref a) b) R E s := by
  have X := X₀.keeps F.keep
  have inner : wpAny (model prog w) A (call (.builtin "object.__ne__") [.ref a, b]) (fun v s' => (∃ c, v = .bool c) ∧ R v s') E s := by
    refine wpAny_call (codeAny_call_builtin (by decide +kernel) PySem.F.cmpEntry_ne (PySem.W.check_slot (i := "object.__ne__") (owner := "object") (n := "__ne__") PySem.F.cmpKind_ne PySem.F.cmpSplit_ne (I.type.andThen (PySem.W.looks_mroIn X hm)) (PySem.F.cmpArgs_ne _ _) ?_))
    unfold Builtin.«object.__ne__»
    refine wpAny_bind (m := slotArgs "__ne__" 1 _) (wpAny_pure ?_)
    refine wpAny_bind (m := cRoomFor _ _) (wpAny_cRoomFor (by omega) ?_)
    refine wpAny_bind (m := callSpecialIfBound? (.ref a) (Str.ofString "__eq__") _) (PySem.W.ifBound_K X I he hf (wpAny_mono h (fun v s' hq => ?_) fun _ _ y => y))
    obtain ⟨c, rfl, q⟩ := hq
    exact wpAny_bind (m := truthy (.bool c)) (wpAny_pure (wpAny_pure ⟨⟨_, rfl⟩, q⟩))
  have one : wpAny (model prog w) A (tryCompare (.ref a) "__ne__" b) (fun r s' => ∃ v, r = some v ∧ R v s') E s := by
    unfold tryCompare
    refine wpAny_bind ?_
    simp only [callSpecialIfBound?, bindSpecialIfBound?]
    refine wpAny_holding (wpAny_bind (wpAny_bind (wpAny_bind (I.type.here ((PySem.W.looks_findIn X hs).here ?_)))))
    refine wpAny_bind (wpAny_askSetting (wpAny_ite ?_))
    have bnd : bindSpecial (.builtin "object.__ne__") (.ref a) = pure (.builtin "object.__ne__", [.ref a]) := by first | rfl | kernel_rfl | decide +kernel
    have fin : ∀ Z : Option Value → Shared → Prop, (∀ v s', (∃ c, v = .bool c) ∧ R v s' → Z (some v) s') → wpAny (model prog w) A (call (.builtin "object.__ne__") ([.ref a] ++ [b]) >>= fun v => pure (some v)) Z E s :=
      fun Z hz => wpAny_bind (wpAny_mono inner (fun v s' z => wpAny_pure (hz v s' z)) fun _ _ h' => h')
    split
    · rw [bnd]
      refine wpAny_bind (wpAny_pure (wpAny_pure (fin _ fun v s' z => ?_)))
      obtain ⟨⟨c, rfl⟩, q⟩ := z
      exact wpAny_pure ⟨_, rfl, q⟩
    · rw [bnd]
      refine wpAny_tryCatch (wpAny_bind (wpAny_pure (wpAny_pure (fin _ fun v s' z => ?_))))
      obtain ⟨⟨c, rfl⟩, q⟩ := z
      exact wpAny_pure ⟨_, rfl, q⟩
  unfold richCompare
  simp only [oneThing_ref]
  refine wpAny_holding (wpAny_bind (wpAny_cRoomFor (by have : A.units ≤ A.in1.units := Nat.le_succ _; omega) ?_))
  refine wpAny_bind (I.type.here (wpAny_bind (hb.here ?_)))
  have fin : wpAny (model prog w) A (tryCompare (.ref a) "__ne__" b) (fun r s' => ∃ v, r = some v ∧ R v s') E s := one
  split
  · rename_i q
    have e : PySem.W.subIn K tb (.ref C) = some false := by
      rcases Bool.or_eq_true_iff.mp hn with e | e
      · rw [beq_iff_eq.mp e] at q; simp at q
      · exact beq_iff_eq.mp e
    refine wpAny_bind ((PySem.W.looks_subIn X e).here ?_)
    simp only [Bool.false_eq_true, if_false]
    refine wpAny_bind (wpAny_mono fin (fun r s' z => ?_) fun _ _ e => e)
    obtain ⟨v, rfl, hq⟩ := z
    exact wpAny_pure hq
  · refine wpAny_bind (wpAny_pure ?_)
    simp only [Bool.false_eq_true, if_false]
    refine wpAny_bind (wpAny_mono fin (fun r s' z => ?_) fun _ _ e => e)
    obtain ⟨v, rfl, hq⟩ := z
    exact wpAny_pure hq
/-- what != asks of an own class without __ne__ -/
structure NeC (K : PySem.W.Frag) (C : Addr) : Prop where
  at_ : PySem.W.findIn K (.ref C) "__ne__" = some (some (.builtin "object.__ne__"))
  ob : PySem.W.mroIn K C (.type "object") = some true
def neB (K : PySem.W.Frag) (C : Addr) : Bool := He.eqO (PySem.W.findIn K (.ref C) "__ne__") (some (some (.builtin "object.__ne__"))) && decide (PySem.W.mroIn K C (.type "object") = some true)
theorem ne_ok {K : PySem.W.Frag} {C : Addr} (h : neB K C = true) : NeC K C := ⟨He.eqO_ok (He.ba h).1, of_decide_eq_true (He.ba h).2⟩
theorem e_neX (hr : Rm k A) (ea : H a = some (.ins C dx fs)) (ty : TyX K H y tb) (hn : PySem.W.notFirst K C tb = true) (hc : NeC K C) (hm : Meth K C "__eq__" g) (F : FnZ P w K mg base j g sp)
    (h : sp [.ref a, y] H (isBl fun b H' => Q (.bl (!b)) H') E0) (hj : j + 1 ≤ k := by decide) : vOp ⟨P, w, K, mg, base, A⟩ (compareOp .NotEq) (.ref a) y H Q := by
  refine ⟨?_⟩
  rintro X ⟨rfl, rfl, rfl, rfl, rfl, hA, hcalm⟩ pins s σ v u I rv ru
  have hA : X.A = A := hA
  subst hA
  cases (show v = Value.ref a from rv)
  obtain ⟨mA, O, _, _, _, _⟩ := ins_get I.hok ea
  obtain ⟨od, J, _⟩ := O.look
  obtain ⟨Pt, kit, hP, _⟩ := kit_of I ru ty
  obtain ⟨m, hF⟩ := I.fr
  show wpAny _ _ (richCompare .NotEq (.ref a) u) _ _ _
  refine ne_run (tb := tb) (by have := hr.units; show X.A.units + 1 + 1 < _; omega) hF I.ok.mod.kin J (kit.ty _ _ I.kIn hP) hn hc.at_ hc.ob hm.at_ hm.fn ?_
  refine wpAny_mono (run_in1 (us := [.ref a, u]) (vs := [.ref a, y]) F hr hj I (.cons rfl (.cons ru .nil)) h) (fun w s' z => ?_) fun _ _ x => x
  obtain ⟨z', H', I', rz, qz⟩ := z
  cases z' with
  | bl b => cases (show w = Value.bool b from rz); exact ⟨b, rfl, .bl (!b), H', I', rfl, qz⟩
  | _ => exact qz.elim
end
end Z

namespace Z
open PySem PySem.Spec PyProof.Rows L2
/-! ### calls with keywords -/
structure KBz (K : PySem.W.Frag) (fd : FuncData) (ps : List Str) (n : Nat) (ks : List Str) (g : ∀ {α : Type}, List α → List α → List α) : Prop where
  to : ∀ (s : Shared) (us ws : List Value), us.length = n → ws.length = ks.length → BindsTo s fd ⟨us, ks.zip ws⟩ (ps.zip (g us ws))
  rel : ∀ {vs : List V} {us : List Value} {zs : List V} {ws : List Value}, vs.length = n → zs.length = ks.length → Vals vs us → Vals zs ws → Vals (g vs zs) (g us ws)
theorem kb_of {K : PySem.W.Frag} {x qual : Str} {st : Stmt} {kws : List (Str × V)} {f : Addr} {fd : FuncData} {ps : List Str} {n : Nat} {ks : List Str} {g : ∀ {α : Type}, List α → List α → List α} (F : FunD K x qual (defArgs st) (defBody st) (defScope st) [] kws f fd)
    (h : ∀ (kV doc pm : Value) (an : Option Addr) (cdv ct : Value) (us ws : List Value), us.length = n → ws.length = ks.length → bindArgs (PySem.W.fnOf x qual (defArgs st) (defBody st) (defScope st) .none kV doc pm an cdv ct) ⟨us, ks.zip ws⟩ = pure (ps.zip (g us ws)))
    (r : ∀ {vs : List V} {us : List Value} {zs : List V} {ws : List Value}, vs.length = n → zs.length = ks.length → Vals vs us → Vals zs ws → Vals (g vs zs) (g us ws)) : KBz K fd ps n ks g := by
  obtain ⟨oc, od, dV, kV, doc, pm, an, cdv, ct, osl, rfl, lk, hcd, hD, hK⟩ := F.ex
  rcases hD with ⟨_, rfl⟩ | ⟨e, _⟩
  · exact ⟨fun s us ws l1 l2 => .of_eq (h kV doc pm an cdv ct us ws l1 l2), r⟩
  · exact absurd rfl e
structure vCallK (e : En) (f : Value) (ks : List Str) (xs zs : List V) (W : XK) (H : Hp) (Q : VK) : Prop where
  run : ∀ (X : Cx), Of e X → ∀ (pins : List (Addr × Obj)) (s : Shared) (σ : L2.St) (us ws : List Value), (∀ cls d H', W cls d H' → xw X σ cls d H') → Inv X pins σ H s → Vals xs us → Vals zs ws → wpAny (model X.prog X.w) X.A (call f us (ks.zip ws)) (EP X pins σ Q) X.xe s
def tCallK (e : En) (W : WX) (u : Value) (ks : List Str) (t tk : TA) : TE := fun σ H Q => t σ H fun vs H1 => tk σ H1 fun zs H2 => vCallK e u ks vs zs (fun c d H' => W c d σ H') H2 Q
section
variable {n : En} {X : Cx} {W : WX} {e : Expr} {es : List Expr} {kws : List Keyword} {t tk' : TA} {pos p : Pos} {x : Str} {ks : List Str}
theorem z_callK (o : Of n X) (tk : Takes X W) {u : Value} (hm : X.mg x = some u) (hk : PySem.W.keepIn X.K u = true) (ha : PA X (e :: es) t) (hkw : PK X kws tk') (hg : Gl X x := by rfl) (hdb : (x == ("__debug__" : Str)) = false := by decide)
    (hall : (backToKw pos (keywordEach kws X.env)).all (·.1.isSome) = true := by rfl) (hks : (backToKw pos (keywordEach kws X.env)).filterMap (·.1) = ks := by rfl) (he : starEach (e :: es) X.env = (false, eval e X.env) :: starEach es X.env := by rfl)
    (hpl : ((backTo pos (starEach (e :: es) X.env)).any (·.1) || (backToKw pos (keywordEach kws X.env)).any (·.1.isNone)) = false := by rfl) : PE X (.Call (.Name x p) (e :: es) kws pos) (tCallK n W u ks t tk') := by
  refine ⟨fun pins s σ H Q I h => ?_⟩
  refine wpAny_Call_Name_kw (ld_glob I hg hm ?_ hdb)
  refine PySem.W.callWith_KW (h₀ := X.base) I.ok.mod.kin hk hall (thn (ha.run pos pins s σ H _ I h) fun us s1 ⟨vs, H1, I1, r, q⟩ => ?_) hpl he
  refine thn (hkw.run pos pins s1 σ H1 _ I1 q) fun ws s2 ⟨zs, H2, I2, rz, q2⟩ => ⟨I2.kIn, ?_⟩
  rw [hks]
  exact q2.run X o pins s2 σ us ws (fun _ _ _ w => xw_of tk w) I2 r rz
theorem z_callK0 (o : Of n X) (tk : Takes X W) {u : Value} (hm : X.mg x = some u) (hk : PySem.W.keepIn X.K u = true) (hkw : PK X kws tk') (hg : Gl X x := by rfl) (hdb : (x == ("__debug__" : Str)) = false := by decide)
    (hall : (backToKw pos (keywordEach kws X.env)).all (·.1.isSome) = true := by rfl) (hks : (backToKw pos (keywordEach kws X.env)).filterMap (·.1) = ks := by rfl)
    (hpl : ((backTo pos (starEach [] X.env)).any (·.1) || (backToKw pos (keywordEach kws X.env)).any (·.1.isNone)) = false := by rfl) : PE X (.Call (.Name x p) [] kws pos) (tCallK n W u ks tNil tk') := by
  refine ⟨fun pins s σ H Q I h => ?_⟩
  refine wpAny_Call_Name_kw (ld_glob I hg hm ?_ hdb)
  refine PySem.W.callWith_KW0 (h₀ := X.base) I.ok.mod.kin hk hall ?_ hpl
  refine thn (hkw.run pos pins s σ H _ I h) fun ws s2 ⟨zs, H2, I2, rz, q2⟩ => ⟨I2.kIn, ?_⟩
  rw [hks]
  exact q2.run X o pins s2 σ [] ws (fun _ _ _ w => xw_of tk w) I2 .nil rz
end
section
variable {P : Program} {w : World} {K : PySem.W.Frag} {mg : Str → Option Value} {base : Heap} {A : Around} {k j m : Nat} {E W : XK} {f C : Addr} {fd : FuncData} {ps ks : List Str} {sp : Sp} {vs zs : List V} {H : Hp} {Q : VK} {g : ∀ {α : Type}, List α → List α → List α}
theorem callk_z (hr : Rm k A) (F : FnB P w K mg base j f fd ps sp) (B : KBz K fd ps m ks g) (l1 : vs.length = m) (l2 : zs.length = ks.length) (h : sp (g vs zs) H Q W) (hj : j ≤ k := by decide) : vCallK ⟨P, w, K, mg, base, A⟩ (.ref f) ks vs zs W H Q := by
  refine ⟨?_⟩
  rintro X ⟨rfl, rfl, rfl, rfl, rfl, hA, hc⟩ pins s σ us ws hW I r rz
  have hA : X.A = A := hA
  subst hA
  refine wpAny_call (codeAny_mono (F X.A X.stack s H ⟨us, ks.zip ws⟩ (g us ws) (g vs zs) Q W (hr.le hj) I.env0 (B.to s us ws (r.length.symm.trans l1) (rz.length.symm.trans l2)) (B.rel l1 l2 r rz) h) fun r s' hq => ?_)
  match r, hq with
  | .error e, ⟨a, B, H', cls, d, e1, fl, hok, ub, na, os, ag, hE⟩ => exact takes_w e s' (XE.of_call (W := fun cls d σ H => xw X σ cls d H) (E := xw X σ) I (fun cls d H' h => h) ⟨a, B, H', cls, d, e1, fl, hok, ub, na, os, ag, hW _ _ _ hE⟩)
  | .ok (.ret u), hq => exact I.after hq
theorem guards_make (C : Addr) (us : List Value) (kw : List (Str × Value)) : Code.guards (.builtin "type.__call__" ⟨.ref C :: us, kw⟩) = [] :=
  if_neg (by rw [show Code.isGuard (.builtin "type.__call__" ⟨.ref C :: us, kw⟩) = false from (by decide +kernel : guardIds.contains "type.__call__" = false)]; decide)
theorem guards_under_make {A : Around} {C : Addr} {us : List Value} {kw : List (Str × Value)} (h : A.guards = some []) : (A.under (.builtin "type.__call__" ⟨.ref C :: us, kw⟩)).guards = some [] := by
  show pushGuards (Code.guards (.builtin "type.__call__" ⟨.ref C :: us, kw⟩)) A.guards = some []
  rw [guards_make]
  exact h
theorem makek_z {fI : Addr} (hr : Rm k A) (M : Mk K C fI) (F : FnB P w K mg base j fI fd ps sp) (B : KBz K fd ps (m + 1) ks g) (l1 : vs.length = m) (l2 : zs.length = ks.length)
    (h : ∀ x dx, H x = none → H dx = none → dx ≠ x → sp (g (.ref x :: vs) zs) (upd (upd H dx (.own x)) x (.ins C dx [])) (fun v H2 => v = .non ∧ Q (.ref x) H2) W) (hj : j + 1 ≤ k := by decide) : vCallK ⟨P, w, K, mg, base, A⟩ (.ref C) ks vs zs W H Q := by
  refine ⟨?_⟩
  rintro X ⟨rfl, rfl, rfl, rfl, rfl, hA, hc⟩ pins s σ us ws hW I r rz
  have hA : X.A = A := hA
  subst hA
  have hq := h (s.heap.objs.size + 1) s.heap.objs.size (I.hok.fresh (Nat.le_succ _)) (I.hok.fresh (Nat.le_refl _)) (Nat.ne_of_lt (Nat.lt_succ_self _))
  have I2 := Inv.made (C := C) I
  have r1 : Vals (V.ref (s.heap.objs.size + 1) :: vs) (Value.ref (s.heap.objs.size + 1) :: us) := .cons rfl r
  have n1 : (Value.ref (s.heap.objs.size + 1) :: us).length = m + 1 := by rw [List.length_cons, ← r.length, l1]
  have hrm : Rm j (X.A.under (.builtin "type.__call__" ⟨.ref C :: us, ks.zip ws⟩)) := ⟨(hr.le hj).toRoom.make C us (ks.zip ws), guards_under_make hr.gs⟩
  refine wpAny_call (make_map (f := fI) I.kIn M.makes M.init (beq_iff_eq.mp M.fn) (codeAny_mono (F _ X.stack _ _ ⟨Value.ref (s.heap.objs.size + 1) :: us, ks.zip ws⟩ (g (Value.ref (s.heap.objs.size + 1) :: us) ws) _ _ W hrm
    (I2.env0.make C us (ks.zip ws)) (B.to _ _ ws n1 (rz.length.symm.trans l2)) (B.rel (by rw [List.length_cons, l1]) l2 r1 rz) hq) fun r s' hq' => ?_))
  match r, hq' with
  | .error e, ⟨a, B, H', cls, d, e1, fl, hok, ub, na, os, ag, hE⟩ => exact takes_w e s' (XE.of_call (W := fun cls d σ H => xw X σ cls d H) (E := xw X σ) I2 (fun cls d H' h => h) ⟨a, B, H', cls, d, e1, fl, hok, ub, na, os, ag, hW _ _ _ hE⟩)
  | .ok (.ret u), hq' =>
    obtain ⟨v, H', I3, rv, ev, q3⟩ := I2.after hq'
    subst ev
    exact ⟨rv, ⟨V.ref (s.heap.objs.size + 1), H', I3, rfl, q3⟩⟩
end
/-! ### f-strings, texts -/
structure vFmt (x : V) (H : Hp) (Q : VK) : Prop where
  run : (∃ y : Str, x = .str y ∧ y.length ≤ sizeLine ∧ Q (.str y) H) ∨ ∃ i : Int, x = .int i ∧ i.natAbs.log2 < 1920 ∧ Q (.str (toString i)) H
def uFmt (te : TE) : TE := fun σ H Q => te σ H fun x H1 => vFmt x H1 Q
theorem z_fmt {X : Cx} {e : Expr} {te : TE} {pos : Pos} (he : PE X e te) : PE X (.FormattedValue e (-1) none pos) (uFmt te) := by
  have e : uFmt te = tFmt te := by funext σ H Q; exact congrArg (te σ H) (funext fun x => funext fun H1 => propext ⟨fun h => h.run, fun h => ⟨h⟩⟩)
  rw [e]; exact pe_fmt he
/-- the parts of a text put together -/
structure vCat (acc : Str) (x : V) (R : Str → Prop) : Prop where
  run : ∃ y : Str, x = .str y ∧ (acc ++ y).length ≤ sizeLine ∧ R (acc ++ y)
def uJs : List TE → Str → L2.St → Hp → (Str → Hp → Prop) → Prop
  | [], acc, _, H, Q => Q acc H
  | t :: ts, acc, σ, H, Q => t σ H fun x H1 => vCat acc x fun z => uJs ts z σ H1 Q
theorem uJs_eq : ∀ (ts : List TE) (acc : Str) (σ : L2.St) (H : Hp) (Q : Str → Hp → Prop), uJs ts acc σ H Q = tJs ts acc σ H Q
  | [], _, _, _, _ => rfl
  | t :: ts, acc, σ, H, Q => by
    show t σ H _ = t σ H _
    congr 1
    funext x H1
    refine propext ⟨fun h => ?_, fun h => ?_⟩
    · obtain ⟨y, e, l, q⟩ := h.run
      rw [uJs_eq] at q
      exact ⟨y, e, l, q⟩
    · obtain ⟨y, e, l, q⟩ := h
      refine ⟨y, e, l, ?_⟩
      show uJs ts _ σ H1 Q
      rw [uJs_eq]; exact q
def uJoin (ts : List TE) : TE := fun σ H Q => uJs ts Str.empty σ H fun out H1 => Q (.str out) H1
theorem z_joined {X : Cx} {v1 v2 : Expr} {rest : List Expr} {ts : List TE} {pos : Pos} (h : PJ X (v1 :: v2 :: rest) ts) : PE X (.JoinedStr (v1 :: v2 :: rest) pos) (uJoin ts) := by
  have e : uJoin ts = fun σ H Q => tJs ts Str.empty σ H fun out H1 => Q (.str out) H1 := by funext σ H Q; exact uJs_eq _ _ _ _ _
  rw [e]; exact pe_joined h
section
variable {n : En} {H : Hp} {Q : VK} {x y : V} {i : Int} {t u : Str} {R : Str → Prop}
theorem e_fmtI (h : i.natAbs.log2 < 1920) (q : Q (.str (toString i)) H) : vFmt (.int i) H Q := ⟨.inr ⟨i, rfl, h, q⟩⟩
theorem e_fmtS (h : t.length ≤ sizeLine) (q : Q (.str t) H) : vFmt (.str t) H Q := ⟨.inl ⟨t, rfl, h, q⟩⟩
theorem e_part (h : (t ++ u).length ≤ sizeLine) (q : R (t ++ u)) : vCat t (.str u) R := ⟨u, rfl, h, q⟩
theorem e_strI (h : i.natAbs.log2 < 1920) (q : Q (.str (toString i)) H) : vCB n (.type "str") [.int i] H Q := vCB_of (fun _ _ => call_str_int) ⟨i, rfl, h, q⟩
theorem e_strS (q : Q (.str t) H) : vCB n (.type "str") [.str t] H Q := vCB_of (fun _ _ => SkE.call_str_str) ⟨t, rfl, q⟩
theorem e_addS (h : t.length + u.length ≤ sizeLine) (q : Q (.str (t ++ u)) H) : vOp n (binaryOp .Add) (.str t) (.str u) H Q := vOp_of (fun _ _ => op_add_str) ⟨t, u, rfl, rfl, h, q⟩
theorem e_reprI (h : i.natAbs.log2 < 1920) (q : Q (.str (toString i)) H) : vCB n (.builtin "repr") [.int i] H Q := vCB_of (fun _ _ => SkE.call_repr_int) ⟨i, rfl, h, q⟩
theorem e_reprBl {b : Bool} (q : Q (.str (if b then Str.ofString "True" else Str.ofString "False")) H) : vCB n (.builtin "repr") [.bl b] H Q := by
  refine ⟨fun X o pins s σ us I r => ?_⟩
  obtain ⟨v, rfl, rv⟩ := vals1 r
  cases (show v = Value.bool b from rv)
  exact PySem.P.repr_of_bool ⟨.str _, H, I.tok _, ⟨_, rfl⟩, q⟩
theorem e_reprN (q : Q (.str (Str.ofString "None")) H) : vCB n (.builtin "repr") [.non] H Q := by
  refine ⟨fun X o pins s σ us I r => ?_⟩
  obtain ⟨v, rfl, rv⟩ := vals1 r
  cases (show v = Value.none from rv)
  exact PySem.P.repr_of_none ⟨.str _, H, I.tok _, ⟨_, rfl⟩, q⟩
theorem e_reprS (h : (reprText t).length ≤ sizeLine) (q : Q (.str (reprText t)) H) : vCB n (.builtin "repr") [.str t] H Q := by
  refine ⟨fun X o pins s σ us I r => ?_⟩
  obtain ⟨v, rfl, tk, rfl⟩ := vals1 r
  exact PySem.P.repr_of_str ⟨.str _, H, I.tok _, ⟨_, rfl⟩, q⟩ h
theorem e_bool {b : Bool} (q : Q (.bl b) H) : vCB n (.type "bool") [.bl b] H Q := vCB_of (fun _ _ => call_bool1) (.inr ⟨b, rfl, q⟩)
theorem e_boolI (q : Q (.bl (i != 0)) H) : vCB n (.type "bool") [.int i] H Q := vCB_of (fun _ _ => call_bool1) (.inl ⟨i, rfl, q⟩)
end
end Z

namespace Z
open PySem PySem.Spec PyProof.Rows L2
theorem FnB.z0 {P : Program} {w : World} {K : PySem.W.Frag} {mg : Str → Option Value} {base : Heap} {k : Nat} {f : Addr} {fd : FuncData} {ps : List Str} {sp : Sp} (F : FnB P w K mg base k f fd ps sp) (hb : Binds K fd ps []) (len : ∀ vs H Q E, sp vs H Q E → vs.length = ps.length) : FnZ P w K mg base k f sp :=
  F.z (dvs := []) hb .nil (fun vs H Q E h => by rw [List.append_nil]; exact len _ _ _ _ h) fun vs H Q E h => by rw [List.append_nil]; exact h
/-! ### comprehensions whose turns change elder objects -/
section
variable {K : PySem.W.Frag} {g : TG} {tt : TT} {te : TE} {vs : List Nat} {σ : L2.St} {H : Hp} {Q : VK} {a : Addr} {xs : List V} {i j : Int}
theorem m_lcR1 (P : Addr → Nat → List V → Hp → Prop) (h1 : -(2 ^ 62) ≤ j) (h2 : j < 2 ^ 62) (h0 : ∀ D H1, H D = none → Same H H1 → H1 D = some (.lst []) → P D 0 [] H1)
    (hs : ∀ D (k : Nat) ys H1 (Next : Hp → Prop), (k : Int) < j → H D = none → H1 D = some (.lst ys) → P D k ys H1 → ys.length ≤ k → (∀ ys' H2, H2 D = some (.lst ys') → P D (k + 1) ys' H2 → ys'.length ≤ k + 1 → Next H2) → lcTurn g tt te vs σ D (.int (k : Int)) H1 Next)
    (hd : ∀ D ys H1, H D = none → H1 D = some (.lst ys) → P D j.toNat ys H1 → ys.length ≤ j.toNat → Q (.ref D) H1) : vLcR1 [.int j] g tt te vs σ H Q :=
  ⟨⟨j, rfl, h1, h2, fun D hD => lc_range (lo := 0) (n := j.toNat) (fun k H1 => ∃ ys, H1 D = some (.lst ys) ∧ P D k ys H1 ∧ ys.length ≤ k) ⟨[], upd_same, h0 D _ hD (same_upd hD) upd_same, Nat.le_refl _⟩
    (fun k H1 hk ⟨ys, hy, p, l⟩ => by
      have e : (0 : Int) + (k : Int) = (k : Int) := Int.zero_add _
      rw [e]
      exact turn_eq (hs D k ys H1 _ (by omega) hD hy p l fun ys' H2 h2 p2 l2 => ⟨ys', h2, p2, l2⟩))
    (fun H1 ⟨ys, hy, p, l⟩ => hd D ys H1 hD hy p l)⟩⟩
theorem m_lcR2 (P : Addr → Nat → List V → Hp → Prop) (h1 : -(2 ^ 62) ≤ i ∧ i < 2 ^ 62 ∧ -(2 ^ 62) ≤ j ∧ j < 2 ^ 62) (h0 : ∀ D H1, H D = none → Same H H1 → H1 D = some (.lst []) → P D 0 [] H1)
    (hs : ∀ D (k : Nat) ys H1 (Next : Hp → Prop), i + (k : Int) < j → H D = none → H1 D = some (.lst ys) → P D k ys H1 → ys.length ≤ k → (∀ ys' H2, H2 D = some (.lst ys') → P D (k + 1) ys' H2 → ys'.length ≤ k + 1 → Next H2) → lcTurn g tt te vs σ D (.int (i + (k : Int))) H1 Next)
    (hd : ∀ D ys H1, H D = none → H1 D = some (.lst ys) → P D (j - i).toNat ys H1 → ys.length ≤ (j - i).toNat → Q (.ref D) H1) : vLcR2 [.int i, .int j] g tt te vs σ H Q :=
  ⟨⟨i, j, rfl, h1, fun D hD => lc_range (lo := i) (n := (j - i).toNat) (fun k H1 => ∃ ys, H1 D = some (.lst ys) ∧ P D k ys H1 ∧ ys.length ≤ k) ⟨[], upd_same, h0 D _ hD (same_upd hD) upd_same, Nat.le_refl _⟩
    (fun k H1 hk ⟨ys, hy, p, l⟩ => turn_eq (hs D k ys H1 _ (by omega) hD hy p l fun ys' H2 h2 p2 l2 => ⟨ys', h2, p2, l2⟩))
    (fun H1 ⟨ys, hy, p, l⟩ => hd D ys H1 hD hy p l)⟩⟩
theorem m_lcL (P : Addr → Nat → List V → Hp → Prop) (hx : SqL K H a xs) (hz : xs.length ≤ 1000000) (h0 : ∀ D H1, H D = none → Same H H1 → H1 D = some (.lst []) → P D 0 [] H1) (hl : ∀ D i ys H1, H D = none → P D i ys H1 → SqL K H1 a xs)
    (hs : ∀ D i x ys H1 (Next : Hp → Prop), xs[i]? = some x → H D = none → H1 D = some (.lst ys) → P D i ys H1 → ys.length ≤ i → i < xs.length → (∀ ys' H2, H2 D = some (.lst ys') → P D (i + 1) ys' H2 → ys'.length ≤ i + 1 → Next H2) → lcTurn g tt te vs σ D x H1 Next)
    (hd : ∀ D ys H1, H D = none → H1 D = some (.lst ys) → P D xs.length ys H1 → ys.length ≤ xs.length → Q (.ref D) H1) : vLcL K (.ref a) g tt te vs σ H Q :=
  ⟨⟨a, rfl, ⟨xs, hx⟩, fun D hD => lc_list (xs := xs) (fun i H1 => ∃ ys, H1 D = some (.lst ys) ∧ P D i ys H1 ∧ ys.length ≤ i) ⟨[], upd_same, h0 D _ hD (same_upd hD) upd_same, Nat.le_refl _⟩
    (fun i H1 _ ⟨ys, _, p, _⟩ => hl D i ys H1 hD p) (fun i x H1 hi ⟨ys, hy, p, l⟩ => turn_eq (hs D i x ys H1 _ hi hD hy p l (List.getElem?_eq_some_iff.mp hi).1 fun ys' H2 h2 p2 l2 => ⟨ys', h2, p2, l2⟩))
    (fun H1 ⟨ys, hy, p, l⟩ => hd D ys H1 hD hy p l)⟩⟩
theorem m_lcT (P : Addr → Nat → List V → Hp → Prop) (hx : SqT K H a xs) (hz : xs.length ≤ 1000000) (h0 : ∀ D H1, H D = none → Same H H1 → H1 D = some (.lst []) → P D 0 [] H1) (hl : ∀ D i ys H1, H D = none → P D i ys H1 → SqT K H1 a xs)
    (hs : ∀ D i x ys H1 (Next : Hp → Prop), xs[i]? = some x → H D = none → H1 D = some (.lst ys) → P D i ys H1 → ys.length ≤ i → i < xs.length → (∀ ys' H2, H2 D = some (.lst ys') → P D (i + 1) ys' H2 → ys'.length ≤ i + 1 → Next H2) → lcTurn g tt te vs σ D x H1 Next)
    (hd : ∀ D ys H1, H D = none → H1 D = some (.lst ys) → P D xs.length ys H1 → ys.length ≤ xs.length → Q (.ref D) H1) : vLcT K (.ref a) g tt te vs σ H Q :=
  ⟨⟨a, rfl, ⟨xs, hx⟩, fun D hD => lc_tup (xs := xs) (fun i H1 => ∃ ys, H1 D = some (.lst ys) ∧ P D i ys H1 ∧ ys.length ≤ i) ⟨[], upd_same, h0 D _ hD (same_upd hD) upd_same, Nat.le_refl _⟩
    (fun i H1 _ ⟨ys, _, p, _⟩ => hl D i ys H1 hD p) (fun i x H1 hi ⟨ys, hy, p, l⟩ => turn_eq (hs D i x ys H1 _ hi hD hy p l (List.getElem?_eq_some_iff.mp hi).1 fun ys' H2 h2 p2 l2 => ⟨ys', h2, p2, l2⟩))
    (fun H1 ⟨ys, hy, p, l⟩ => hd D ys H1 hD hy p l)⟩⟩
end
end Z

namespace ZE
open PySem PySem.W PySem.Calls PyProof.Rows PySem.HandSPX
/-! ### own exceptions whose __init__ calls super().__init__() and stores its arguments -/
section
open Builtin Builtin.ObjectAttr
variable {prog : Program} {w : World} {A : Around} {E : Value → Shared → Prop} {R : Result → Shared → Prop} {hp : Heap} {g : Array GenState} {d : Drawn} {t : Nat} {os : OsState} {K : Frag} {B : String} {bmB : List Value} {x C dx : Addr} {name : Str} {tk : Tok} {v : Value} {fv : Array Value}
theorem put1 (SF : StoreFacts B bmB "object.__setattr__" "object") (X : K.In hp) (hx : hp.get? x = some { cls := .ref C, data := .fields fv }) (ov : excOver K C bmB = true) (ht : takerIn K C name = some none) (hh : hasDictIn K C = true)
    (hq : ∀ h' tk' dx, (∀ b o, b ≠ x → hp.get? b = some o → h'.get? b = some o) → hp.objs.size ≤ dx → dx ≠ x → h'.get? x = some { cls := .ref C, dict := some dx, data := .fields fv } → h'.Ns1 dx (fun y => if y = name then some v else none) → R (.ok (.ret .none)) ⟨h', g, d, tk', os⟩) :
    codeAny (model prog w) A (.call (.builtin "object.__setattr__") ⟨[.ref x, .str name tk, v], []⟩) R ⟨hp, g, d, t, os⟩ := by
  refine osa_openX (s := ⟨hp, g, d, t, os⟩) (od := none) SF X ⟨hx, rfl, rfl, trivial⟩ ov ht fun b => ?_
  obtain ⟨cd, hc, hd'⟩ := any_some hh
  have hcls : W.Looks (model prog w) hp (classData C) cd := W.looks_clsIn X hc
  have hxs : x ≠ hp.objs.size := Nat.ne_of_lt (Heap.lt_size hx)
  obtain ⟨nm, bs, mro, ns, qn, hdc, sn, sb, ab, col, del⟩ := cd
  dsimp only at hd'
  subst hd'
  show wpAny _ _ (storeInOwnDict (.ref x) (.ref C) (.str name tk) name v b) _ _ _
  unfold storeInOwnDict ownDictForStores
  repeat (first | with_reducible refine store_in_new ?_ ?_ | with_reducible refine wpAny_loadPart_at hx ?_ | with_reducible refine hcls.at ?_ | wp_step)
  · exact ⟨_, #[], _, (Heap.get?_update_ne _ _ _ _ hxs.symm).trans (Heap.get?_push_at rfl rfl), rfl, fun e he => absurd he (by simp), fun _ => rfl⟩
  · intro h' tk' hn' hs
    have hx₁ : (hp.push { cls := .type "dict", data := .dict #[] }).get? x = some { cls := .ref C, data := .fields fv } := Heap.get?_push_of_some _ hx
    exact hq h' tk' hp.objs.size (fun b o hb ho => (hs.2 b (Nat.ne_of_lt (Heap.lt_size ho))).trans ((Heap.get?_update_ne _ _ _ _ hb).trans (Heap.get?_push_of_some _ ho))) (Nat.le_refl _) hxs.symm ((hs.2 x hxs).trans (Heap.get?_update_self _ hx₁ rfl)) hn'
theorem put2 {m0 : Str → Option Value} {nl : List Str} (SF : StoreFacts B bmB "object.__setattr__" "object") (X : K.In hp) (hx : hp.get? x = some { cls := .ref C, dict := some dx, data := .fields fv }) (hns : hp.Ns1 dx m0) (hw : Within m0 nl) (hz : nl.length ≤ 1000)
    (ov : excOver K C bmB = true) (ht : takerIn K C name = some none) (hh : hasDictIn K C = true)
    (hq : ∀ h' tk', (∀ b o, b ≠ dx → hp.get? b = some o → h'.get? b = some o) → h'.Ns1 dx (fun y => if y = name then some v else m0 y) → R (.ok (.ret .none)) ⟨h', g, d, tk', os⟩) :
    codeAny (model prog w) A (.call (.builtin "object.__setattr__") ⟨[.ref x, .str name tk, v], []⟩) R ⟨hp, g, d, t, os⟩ := by
  obtain ⟨oD, esD, epD, hoD, hdD, _⟩ := hns.count hw
  refine osa_openX (s := ⟨hp, g, d, t, os⟩) (od := some oD) SF X ⟨hx, rfl, rfl, hoD⟩ ov ht fun b => ?_
  obtain ⟨cd, hc, hd'⟩ := any_some hh
  have hcls : W.Looks (model prog w) hp (classData C) cd := W.looks_clsIn X hc
  obtain ⟨nm, bs, mro, ns, qn, hdc, sn, sb, ab, col, del⟩ := cd
  dsimp only at hd'
  subst hd'
  show wpAny _ _ (storeInOwnDict (.ref x) (.ref C) (.str name tk) name v b) _ _ _
  unfold storeInOwnDict ownDictForStores
  repeat (first | with_reducible refine OEX.store_in_old hns hw hz ?_ | with_reducible refine wpAny_loadPart_at hx ?_ | with_reducible refine hcls.at ?_ | wp_step)
  intro h' tk' hn' hs
  exact hq h' tk' (fun b o hb ho => (hs.2 b hb).trans ho) hn'
end
/-! ### the text of __init__ -/
/-- self.f = x, one behind the other -/
inductive Asg : List Stmt → List (Str × Str) → Prop
  | nil : Asg [] []
  | cons {f x : Str} {q1 q2 q3 q4 : Pos} {r : List Stmt} {l : List (Str × Str)} (h : Asg r l) : Asg (.Assign [.Attribute (.Name "self" q1) f q2] (.Name x q3) q4 :: r) ((f, x) :: l)
/-- what the fields come to -/
def put (m : Str → Option Value) (f : Str) (v : Value) : Str → Option Value := fun y => if y = f then some v else m y
def puts (m : Str → Option Value) : List (Str × Value) → Str → Option Value
  | [] => m
  | (f, v) :: r => puts (put m f v) r
/-- in the midst of __init__ -/
structure Mid (K : Frag) (h0 h : Heap) (x C t1 : Addr) (od : Option Addr) (m : Str → Option Value) (nl : List Str) : Prop where
  keep : ∀ b o, b ≠ x → h0.get? b = some o → h.get? b = some o
  sz : h0.objs.size ≤ h.objs.size
  obj : h.get? x = some { cls := .ref C, dict := od, data := .fields #[.ref t1, .none, .none, .none, .bool false, .none] }
  dict : match od with
    | none => m = fun _ => none
    | some dx => h0.objs.size ≤ dx ∧ dx ≠ x ∧ h.Ns1 dx m ∧ Within m nl
section
variable {prog : Program} {w : World} {A : Around} {E : Value → Shared → Prop} {K : Frag} {B : String} {bmB : List Value} {x C t1 L : Addr} {h0 : Heap} {fd : FuncData} {fI : Addr} {loc : Str → Option Value}
theorem asg_run (SF : StoreFacts B bmB "object.__setattr__" "object") (ov : excOver K C bmB = true) (hh : hasDictIn K C = true) (sa : findIn K (.ref C) "__setattr__" = some (some (.builtin "object.__setattr__"))) (X0 : K.In h0) (hnx : K.lookup x = none) (hk : fd.scope.kind = .function)
    (hL : h0.Ns L loc) (xL : L ≠ x) (hs : loc "self" = some (.ref x)) (ks : (callEnv fd L fI).kindOf "self" = some .local) : ∀ {body : List Stmt} {l : List (Str × Str)}, Asg body l → ∀ (fs : List (Str × Value)) (s : Shared) (od : Option Addr) (m : Str → Option Value) (nl : List Str) (Q : Flow → Shared → Prop),
    nl.length + l.length ≤ 1000 → Mid K h0 s.heap x C t1 od m nl → Paired (fun (p : Str × Str) (q : Str × Value) => p.1 = q.1 ∧ loc p.2 = some q.2 ∧ (callEnv fd L fI).kindOf p.2 = some .local ∧ takerIn K C p.1 = some none ∧ (p.2 == ("__debug__" : Str)) = false) l fs →
    (∀ h' tk od' nl', Mid K h0 h' x C t1 od' (puts m fs) nl' → (l ≠ [] → od'.isSome = true) → (l = [] → od' = od) → Q .next { s with heap := h', toks := tk }) → wpAny (model prog w) A (execs body (callEnv fd L fI)) Q E s := by
  intro body l h
  induction h with
  | nil =>
    intro fs s od m nl Q hz M P hq
    cases P
    exact wpAny_execs_nil (hq s.heap s.toks od nl M (fun z => absurd rfl z) fun _ => rfl)
  | @cons f y q1 q2 q3 q4 r l h ih =>
    intro fs s od m nl Q hz M P hq
    cases P with
    | @cons _ q _ fs' p P =>
      obtain ⟨f', v⟩ := q
      obtain ⟨rfl, hv, kv, ht, hd⟩ := p
      dsimp only at hv kv ht hd ⊢
      have kL : s.heap.Ns L loc := by
        obtain ⟨o, es, ep, e, rest⟩ := hL
        exact ⟨o, es, ep, M.keep _ _ xL e, rest⟩
      have X : K.In s.heap := fun a o e => M.keep a o (fun z => by rw [z, hnx] at e; cases e) (X0 a o e)
      obtain ⟨hp, g, dr, tk, os⟩ := s
      refine wpAny_execs_cons (plainObj_wpAny_Assign_Attribute ?_)
      refine ldc hk kv kL hv (ldc hk ks kL hs ?_) hd
      cases od with
      | none =>
        refine set_plain X (ox := { cls := .ref C, dict := none, data := .fields #[.ref t1, .none, .none, .none, .bool false, .none] }) (od := none) ⟨M.obj, rfl, rfl, trivial⟩ sa ?_
        refine put1 SF X M.obj ov ht hh fun h' tk' dx kk dz dn ox nn => ?_
        have hm : m = fun _ => none := M.dict
        subst hm
        have z0 : h0.objs.size ≤ dx := Nat.le_trans M.sz dz
        have z1 : dx < h'.objs.size := by
          obtain ⟨o, _, _, e, _⟩ := nn.count (Within.cons f v Within.nil)
          exact Heap.lt_size e
        refine ih fs' ⟨h', g, dr, tk', os⟩ (some dx) (put (fun _ => none) f v) [f] Q (by simp only [List.length_cons, List.length_nil] at hz ⊢; omega) ⟨fun b o hb ho => kk b o hb (M.keep b o hb ho), Nat.le_trans z0 (Nat.le_of_lt z1), ox, z0, dn, nn, Within.cons f v Within.nil⟩ P fun h2 tk2 od2 nl2 M2 z1 z2 => ?_
        · refine hq h2 tk2 od2 nl2 M2 (fun _ => ?_) (fun z => by cases z)
          cases l with
          | nil => rw [z2 rfl]; rfl
          | cons _ _ => exact z1 (by simp)
      | some dx =>
        obtain ⟨dz, dn, nn, hw⟩ := M.dict
        obtain ⟨oD, esD, epD, hoD, hdD, _⟩ := nn.count hw
        refine set_plain X (ox := { cls := .ref C, dict := some dx, data := .fields #[.ref t1, .none, .none, .none, .bool false, .none] }) (od := some oD) ⟨M.obj, rfl, rfl, hoD⟩ sa ?_
        refine put2 SF X M.obj nn hw (by simp only [List.length_cons] at hz; omega) ov ht hh fun h' tk' kk nn' => ?_
        refine ih fs' ⟨h', g, dr, tk', os⟩ (some dx) (put m f v) (f :: nl) Q (by simp only [List.length_cons] at hz ⊢; omega) ⟨fun b o hb ho => kk b o (fun z => ?_) (M.keep b o hb ho), ?_, kk _ _ dn.symm M.obj, dz, dn, nn', Within.cons f v hw⟩ P fun h2 tk2 od2 nl2 M2 z1 z2 => ?_
        · rw [z] at ho
          exact absurd (Heap.lt_size ho) (Nat.not_lt.mpr dz)
        · obtain ⟨o, _, _, e, _⟩ := nn'.count (Within.cons f v hw)
          exact Nat.le_trans dz (Nat.le_of_lt (Heap.lt_size e))
        · refine hq h2 tk2 od2 nl2 M2 (fun _ => ?_) (fun z => by cases z)
          cases l with
          | nil => rw [z2 rfl]; rfl
          | cons _ _ => exact z1 (by simp)
end
end ZE

namespace ZE
open PySem PySem.W PySem.Calls PyProof.Rows PySem.HandSPX L2
/-- the text: super().__init__(), then the stores -/
structure ExS (st : Stmt) (qual : Str) (ps : List Str) (l : List (Str × Str)) : Prop where
  body : ∃ p0 p1 p2 p3 p4 rest, defBody st = .Expr (.Call (.Attribute (.Call (.Name "super" p0) [] [] p1) "__init__" p2) [] [] p3) p4 :: rest ∧ Asg rest l ∧
    ∀ env : Env, ∃ pl : Sem Bool, eval (.Call (.Attribute (.Call (.Name "super" p0) [] [] p1) "__init__" p2) [] [] p3) env = (do
      let ov ← attributeBase (.Call (.Name "super" p0) [] [] p1) "__init__" env (eval (.Call (.Name "super" p0) [] [] p1) env)
      standAt p2.atName
      let (f, first) ← holding [ov] (getMethod ov "__init__" pl)
      callWith p3 f first (backTo p3 (starEach [] env)) [])
  hd : ∃ ar, ((defArgs st).posonlyargs ++ (defArgs st).args).head? = some ar ∧ ar.arg = ("self" : Str)
  sup : (defScope st).names.lookup ("super" : Str) = some .globalImplicit
  cls : (defScope st).names.lookup ("__class__" : Str) = some .free
  loc : ∀ p ∈ ps, (defScope st).names.lookup p = some .local
  cel : ∀ x ∈ (defScope st).names, x.2 ≠ .cell
  kind : (defScope st).kind = .function
  co : (defScope st).isCoroutine = false
  gen : (defScope st).isGenerator = false
  nd : ps.Nodup
  self : ∃ r, ps = ("self" : Str) :: r
  dbg : ∀ p ∈ ps, (p == ("__debug__" : Str)) = false
  mem : ∀ q ∈ l, q.2 ∈ ps
  bind : ∀ (kV doc pm : Value) (an : Option Addr) (cdv ct : Value) (cl : List (Str × Addr)) (us : List Value), us.length = ps.length → bindArgs (fnX "__init__" qual (defArgs st) (defBody st) (defScope st) cl .none kV doc pm an cdv ct) ⟨us, []⟩ = pure (ps.zip us)
/-- what the written part says of the class at C, its __init__ at fI -/
structure ExT (P : Program) (K : Frag) (st : Stmt) (qual : Str) (C fI : Addr) (fs : List Str) (B newId i : String) (bmB : List Value) : Prop where
  FB : ExcBaseFacts B newId i bmB
  SF : StoreFacts B bmB "object.__setattr__" "object"
  KF : KxsFacts B i
  q : excInitIn K C bmB newId = true
  ov : excOver K C bmB = true
  sa : findIn K (.ref C) "__setattr__" = some (some (.builtin "object.__setattr__"))
  hd : hasDictIn K C = true
  tk : ∀ f ∈ fs, takerIn K C f = some none
  ini : findIn K (.ref C) "__init__" = some (some (.ref fI))
  fty : typeIn K (.ref fI) = some (.type "function")
  kC : keepIn K (.ref C) = true
  exC : subIn K (.ref C) (.type "BaseException") = some true
  tyC : typeIn K (.ref C) = some (.type "type")
  sup : ks_superIn K C C "__init__" = some (some (.builtin i))
  subB : subIn K (.ref C) (.type B) = some true
  msf : mroIn K C (.ref C) = some true
  op : nsIn K cStatics "thirdparty.any" = some none
  top : (P.main.scope.names.lookup ("super" : Str)).isSome = false
  fn : ∃ (oc : Value) (od : Option Addr) (osl : Array (Option Value)) (kV doc pm : Value) (an : Option Addr) (ct : Value) (cda cc : Addr) (vs : Array Value) (file : Str) (tf : Tok) (ccl : Value) (cdd : Option Addr) (ccs : Array (Option Value)) (cl : Value) (cld : Option Addr) (csl : Array (Option Value)),
    K.lookup fI = some ⟨oc, od, .func (fnX "__init__" qual (defArgs st) (defBody st) (defScope st) [("__class__", cc)] .none kV doc pm an (.ref cda) ct), osl⟩ ∧ codeIn K (.ref cda) qual = true ∧ K.lookup cda = some ⟨ccl, cdd, .fields vs, ccs⟩ ∧ vs[2]? = some (.str file tf) ∧
    ((P.main.file : Str) == file) = true ∧ K.lookup cc = some ⟨cl, cld, .cell (some (.ref C)), csl⟩
/-- what the call leaves of a fresh exception at x -/
structure InitZ (h h' : Heap) (x C dx t1 : Addr) (m : Str → Option Value) : Prop where
  keep : ∀ b o, b ≠ x → h.get? b = some o → h'.get? b = some o
  obj : h'.get? x = some { cls := .ref C, dict := some dx, data := .fields #[.ref t1, .none, .none, .none, .bool false, .none] }
  dbig : h.objs.size ≤ dx
  dne : dx ≠ x
  ns : h'.Ns1 dx m
section
variable {P : Program} {w : World} {A : Around} {R : Result → Shared → Prop} {K : Frag} {st : Stmt} {qual : Str} {C fI : Addr} {fs ps : List Str} {B newId i : String} {bmB : List Value} {l : List (Str × Str)} {mg mb : Str → Option Value}
theorem zip_look : ∀ {ps : List Str} {us : List Value} {j : Nat} {p : Str} {v : Value}, ps.Nodup → ps[j]? = some p → us[j]? = some v → us.length = ps.length → (ps.zip us).reverse.lookup p = some v := by
  intro ps us j p v nd hp hu hl
  have key : (ps.zip us).lookup p = some v := by
    induction ps generalizing us j with
    | nil => simp at hp
    | cons a r ih =>
      cases us with
      | nil => simp at hu
      | cons b t =>
        cases j with
        | zero =>
          simp at hp hu
          subst hp hu
          simp [List.lookup]
        | succ j =>
          simp at hp hu hl
          have hne : (p == a) = false := by
            rw [List.nodup_cons] at nd
            refine beq_eq_false_iff_ne.mpr fun z => nd.1 ?_
            rw [← z]
            exact List.mem_of_getElem? hp
          simp only [List.zip_cons_cons, List.lookup, hne]
          exact ih nd.of_cons hp hu hl
  have ndz : ((ps.zip us).map (·.1)).Nodup := by
    have : (ps.zip us).map (·.1) = ps := by
      rw [List.map_fst_zip]
      omega
    rw [this]; exact nd
  have mem : (p, v) ∈ ps.zip us := by
    clear ndz
    generalize ps.zip us = z at key
    induction z with
    | nil => cases key
    | cons q r ih =>
      obtain ⟨a, b⟩ := q
      simp only [List.lookup] at key
      split at key
      · rename_i e
        cases key
        rw [beq_iff_eq.mp e]
        exact List.mem_cons_self
      · exact List.mem_cons_of_mem _ (ih key)
  have ndr : ((ps.zip us).reverse.map (·.1)).Nodup := by rw [List.map_reverse]; exact List.pairwise_reverse.mpr (ndz.imp fun h => Ne.symm h)
  have memr : (p, v) ∈ (ps.zip us).reverse := List.mem_reverse.mpr mem
  generalize (ps.zip us).reverse = z at ndr memr
  induction z with
  | nil => cases memr
  | cons q r ih =>
    obtain ⟨a, b⟩ := q
    rcases List.mem_cons.mp memr with e | e
    · cases e
      simp [List.lookup]
    · simp only [List.map_cons, List.nodup_cons] at ndr
      have hne : (p == a) = false := by
        refine beq_eq_false_iff_ne.mpr fun z => ndr.1 ?_
        rw [← z]
        exact List.mem_map.mpr ⟨_, e, rfl⟩
      simp only [List.lookup, hne]
      exact ih ndr.2 e
theorem paired_imp {α β : Type} {R R' : α → β → Prop} : ∀ {l : List α} {m : List β}, (∀ a ∈ l, ∀ b, R a b → R' a b) → Paired R l m → Paired R' l m
  | [], [], _, _ => .nil
  | a :: l, b :: m, h, .cons r p => .cons (h a List.mem_cons_self b r) (paired_imp (fun a ha => h a (List.mem_cons_of_mem _ ha)) p)
/-- super().__init__() of the exception at x -/
theorem exc_super {s : Shared} {x u t0 : Addr} {A : Around} {E : Value → Shared → Prop} {Q : Value → Shared → Prop} (FB : ExcBaseFacts B newId i bmB) (X : K.In s.heap) (q : excInitIn K C bmB newId = true) (hu : s.heap.get? u = some (kxs_mw i x)) (he : s.heap.get? x = some (excObj C t0 none .none))
    (h : ∀ h', (∀ b o, b ≠ x → s.heap.get? b = some o → h'.get? b = some o) → h'.get? x = some (excObj C s.heap.objs.size none .none) → h'.get? s.heap.objs.size = some (excTup []) → Q .none { s with heap := h' }) : wpAny (model P w) A (call (.ref u) []) Q E s := by
  obtain ⟨nm, N', qn, bs, bm, hdct, sn, sub, ab, col, dd, k0, k1, k2, k3, k5, hC, hT⟩ := excInit_of X q
  obtain ⟨hh, g, d, tk, os⟩ := s
  refine wpAny_call (codeAny_of_tree ?_)
  show wpAny _ A.in1 (callAny (.ref u) ⟨[], []⟩) _ _ _
  simp only [callAny]
  refine wpAny_bind (wpAny_load hu ?_)
  simp only [kxs_mw, show (Value.type "method-wrapper" == Value.type "method" || Value.type "method-wrapper" == Value.type "builtin_function_or_method" || Value.type "method-wrapper" == Value.type "method-wrapper") = true by decide, if_true]
  refine KFB.if_so (by decide) ?_
  refine wpAny_bind (check_bound_init FB.toExcCallFacts hC he rfl ?_)
  refine wpAny_bind (wpAny_pure (wpAny_pure ?_))
  refine ⟨plainId_quiet FB.init.plain _, codeAny_builtin FB.initEntry ?_⟩
  exact exc_init_tree (cls := .ref C) (t0 := t0) (dv := none) (c2 := .none) (c3 := .none) (b4 := .bool false) he (Nat.zero_le _) h
theorem exc_init (S : ExS st qual ps l) (T : ExT P K st qual C fI fs B newId i bmB) {x t0 : Addr} {us : List Value} {vs : List (Str × Value)} {s : Shared} (X : K.In s.heap) (hg : s.heap.Ns mainGlobals mg) (hsu : mg "super" = none) (hb : s.heap.Ns builtinsNs mb) (hbb : mb "super" = bootBuiltins "super") (hlim : s.heap.NoLimit)
    (hx : s.heap.get? x = some (excO C t0)) (hnx : K.lookup x = none) (hroom : A.depth < recursionLimit) (hl : us.length + 1 = ps.length) (hll : l.length ≤ 100)
    (hv : Paired (fun (p : Str × Str) (q : Str × Value) => p.1 = q.1 ∧ p.1 ∈ fs ∧ ∃ j : Nat, ps[j]? = some p.2 ∧ (Value.ref x :: us)[j]? = some q.2) l vs) (hne : l ≠ [])
    (hq : ∀ h' tk dx t1, InitZ s.heap h' x C dx t1 (puts (fun _ => none) vs) → R (.ok (.ret .none)) { s with heap := h', toks := tk }) : codeAny (model P w) A (.call (.ref fI) ⟨.ref x :: us, []⟩) R s := by
  obtain ⟨oc, od, osl, kV, doc, pm, an, ct, cda, cc, vs', file, tf, ccl, cdd, ccs, cl, cld, csl, lk, hcd, lkc, hvs, hfile, lkcc⟩ := T.fn
  obtain ⟨p0, p1, p2, p3, p4, rest, hbody, hasg, hev⟩ := S.body
  obtain ⟨r, hps⟩ := S.self
  have hlen : (Value.ref x :: us).length = ps.length := by rw [List.length_cons]; omega
  refine ks_codeAny_call_defAt (binds := ps.zip (.ref x :: us)) hroom (X _ _ lk) rfl hlim (codeRec_of X hcd) rfl (BindsTo.of_eq (S.bind _ _ _ _ _ _ _ _ hlen)) S.cel (fun y hy => S.loc _ (List.of_mem_zip hy).1) (fun h₁ hns hk₁ => ?_) S.co S.gen S.kind
  have loc : ∀ {j : Nat} {p : Str} {v : Value}, ps[j]? = some p → (Value.ref x :: us)[j]? = some v → (ps.zip (Value.ref x :: us)).reverse.lookup p = some v := fun h1 h2 => zip_look S.nd h1 h2 hlen
  have hself : (ps.zip (Value.ref x :: us)).reverse.lookup ("self" : Str) = some (Value.ref x) := loc (j := 0) (by rw [hps]; rfl) rfl
  have kself : (defScope st).names.lookup ("self" : Str) = some .local := S.loc _ (by rw [hps]; exact List.mem_cons_self)
  have X₁ : K.In h₁ := X.keeps hk₁
  obtain ⟨hp, g, dr, tk, os⟩ := s
  obtain ⟨ar, har, har2⟩ := S.hd
  have hx₁ := hk₁ _ _ hx
  obtain ⟨oD, cdD, hD1, hD2, hDc⟩ : ∃ oD cdD, h₁.get? C = some oD ∧ oD.data = .cls cdD ∧ clsIn K C = some cdD := by
    obtain ⟨cd, hc, _⟩ := any_some T.hd
    unfold clsIn at hc
    split at hc
    · rename_i c d cd' sl ho
      cases hc
      refine ⟨_, _, X₁ _ _ ho, rfl, ?_⟩
      unfold clsIn
      rw [ho] <;> rfl
    · cases hc
  rw [show defBody st = _ from hbody]
  obtain ⟨pl, hev⟩ := hev (callEnv (fnX "__init__" qual (defArgs st) (defBody st) (defScope st) [("__class__", cc)] .none kV doc pm an (.ref cda) ct) hp.objs.size fI)
  rw [hbody] at hev
  refine ks_wpAt_execs_cons (ks_wpAt_Expr_any (ks_wpAt_MethodCall (pl := pl) ?_ hev) (by show ((defScope st).kind == .module && _) = false; rw [S.kind]; rfl))
  refine ks_wpAt_super_base (env := callEnv (fnX "__init__" qual (defArgs st) (defBody st) (defScope st) [("__class__", cc)] .none kV doc pm an (.ref cda) ct) hp.objs.size fI) S.sup S.cls (by decide) rfl (X₁ _ _ lk) rfl har rfl (X₁ _ _ lkc) rfl hvs hfile T.top ?_
  refine ks_loadName_global S.kind S.sup (loadGlobal_builtin (hg.keeps hk₁) hsu (hb.keeps hk₁) (hbb.trans (by decide +kernel : bootBuiltins "super" = some (.type "super"))) ⟨rfl, ?_⟩)
  refine wpAny_loadName_free S.kind S.cls rfl ⟨_, X₁ _ _ lkcc, rfl⟩ ?_
  rw [har2]
  refine wpAny_loadName_local S.kind kself hns hself ?_
  refine ks_wpAny_isType_cls hD1 hD2 ⟨rfl, ?_⟩
  refine ks_wpAny_call_super hD1 hD2 hx₁ rfl (fun c e => nomatch e) (looks_mroIn X₁ T.msf) (fun h2 e2 k2 => ?_)
  have X2 : K.In h2 := X₁.keeps k2
  have hx2 := k2 _ _ hx₁
  have I2 : InstAt h2 x (excObj C t0 none .none) C none := ⟨hx2, rfl, rfl, trivial⟩
  have hsup := T.sup
  unfold ks_superIn at hsup
  rw [hDc] at hsup
  have xC : x ≠ C := fun z => by
    have y := X2 C
    obtain ⟨cd, hc, _⟩ := any_some T.hd
    unfold clsIn at hc
    rw [← z, hnx] at hc
    cases hc
  refine kxs_getMethod T.KF e2 (looks_opaque X2 T.op) (l₀ := cdD.mro) (fun A Q E s k q => wpAny_bind ((looks_clsIn X2 hDc) A _ E s k (wpAny_pure q))) rfl X2 hsup (I2.type.andThen (looks_subIn X2 T.subB)) xC (by decide) ?_
  refine kxs_callWith (i := i) (x := x) rfl (evalArgs_empty ⟨Heap.get?_push_at rfl rfl, ?_⟩)
  have k3 : ∀ b o, h2.get? b = some o → (h2.push (kxs_mw i x)).get? b = some o := fun b o e => Heap.get?_push_of_some _ e
  refine exc_super T.FB (X2.keeps k3) T.q (Heap.get?_push_at rfl rfl) (k3 _ _ hx2) fun h4 k4 hx4 ht4 => ?_
  refine wpAt_of_wpAny ?_
  have kk : ∀ b o, b ≠ x → h₁.get? b = some o → h4.get? b = some o := fun b o hb e => k4 b o hb (k3 _ _ (k2 _ _ e))
  have xL : hp.objs.size ≠ x := Nat.ne_of_gt (Heap.lt_size hx)
  have sz : h₁.objs.size ≤ h4.objs.size := by
    have z1 : h₁.objs.size < h2.objs.size := Heap.lt_size e2
    have z2 : (h2.push (kxs_mw i x)).objs.size < h4.objs.size := Heap.lt_size ht4
    have z3 : (h2.push (kxs_mw i x)).objs.size = h2.objs.size + 1 := Heap.size_push _ _
    rw [z3] at z2
    omega
  refine asg_run (h0 := h₁) (fd := fnX "__init__" qual (defArgs st) (defBody st) (defScope st) [("__class__", cc)] .none kV doc pm an (.ref cda) ct) (fI := fI) (t1 := (h2.push (kxs_mw i x)).objs.size) T.SF T.ov T.hd T.sa X₁ hnx S.kind hns xL hself kself hasg vs _ none (fun _ => none) [] _ (by simp; omega) ⟨kk, sz, hx4, rfl⟩ ?_ fun h' tk' od' nl' M z1 z2 => ?_
  · refine paired_imp (fun p hp q ⟨h1, h2, j, h3, h4⟩ => ⟨h1, loc h3 h4, S.loc _ (S.mem _ hp), T.tk _ h2, S.dbg _ (S.mem _ hp)⟩) hv
  · have z3 := z1 hne
    cases od' with
    | none => cases z3
    | some dx =>
      obtain ⟨y1, y2, y3, y4⟩ := M.dict
      refine hq h' tk' dx _ ⟨fun b o hb e => M.keep b o hb (hk₁ _ _ e), M.obj, ?_, y2, y3⟩
      exact Nat.le_trans (Nat.le_of_lt hns.lt) y1
end
end ZE

namespace ZE
open PySem PySem.W PySem.Calls PyProof.Rows PySem.HandSPX L2
/-- a made exception -/
structure Made (h h' : Heap) (e C d : Addr) (m : Str → Option Value) : Prop where
  keep : ∀ b o, h.get? b = some o → h'.get? b = some o
  new : h.objs.size ≤ e
  obj : ∃ t1, h'.get? e = some { cls := .ref C, dict := some d, data := .fields #[.ref t1, .none, .none, .none, .bool false, .none] }
  dbig : h.objs.size ≤ d
  dne : d ≠ e
  ns : h'.Ns1 d m
/-- the fields by the arguments -/
structure ExF (ps : List Str) (l : List (Str × Str)) (fs : List Str) (fl : ∀ {α : Type}, List α → List (Str × α)) : Prop where
  val : ∀ (x : Addr) (us : List Value), us.length + 1 = ps.length → Paired (fun (p : Str × Str) (q : Str × Value) => p.1 = q.1 ∧ p.1 ∈ fs ∧ ∃ j : Nat, ps[j]? = some p.2 ∧ (Value.ref x :: us)[j]? = some q.2) l (fl us)
  rel : ∀ (vs : List V) (us : List Value), vs.length + 1 = ps.length → Vals vs us → Paired (fun (p : Str × V) (q : Str × Value) => p.1 = q.1 ∧ RelV p.2 q.2) (fl vs) (fl us)
  nd : ∀ vs : List V, ((fl vs).map (·.1)).Nodup
  len : l ≠ [] ∧ l.length ≤ 100 ∧ ps.length ≤ 100
theorem puts_off : ∀ {vs : List (Str × Value)} {m : Str → Option Value} {y : Str}, y ∉ vs.map (·.1) → puts m vs y = m y
  | [], _, _, _ => rfl
  | (f, v) :: r, m, y, h => by
    simp only [List.map_cons, List.mem_cons, not_or] at h
    rw [puts, puts_off h.2]
    exact if_neg h.1
theorem relo_puts : ∀ {zs : List (Str × V)} {vs : List (Str × Value)} {m : Str → Option Value}, Paired (fun (p : Str × V) (q : Str × Value) => p.1 = q.1 ∧ RelV p.2 q.2) zs vs → (zs.map (·.1)).Nodup → (∀ f, m f = none) → ∀ f, RelO (zs.lookup f) (puts m vs f)
  | [], [], m, _, _, hm, f => by
    show RelO none (m f)
    rw [hm f]
    trivial
  | (k, z) :: r, (k', v) :: r', m, .cons p P, nd, hm, f => by
    obtain ⟨e, rz⟩ := p
    dsimp only at e rz
    subst e
    simp only [List.map_cons, List.nodup_cons] at nd
    have keys : ∀ {r : List (Str × V)} {r' : List (Str × Value)}, Paired (fun (p : Str × V) (q : Str × Value) => p.1 = q.1 ∧ RelV p.2 q.2) r r' → r'.map (·.1) = r.map (·.1) := by
      intro r r' P
      induction P with
      | nil => rfl
      | cons p _ ih => simp only [List.map_cons, ih, p.1]
    by_cases hf : f = k
    · subst hf
      rw [puts, puts_off (by rw [keys P]; exact nd.1)]
      have : List.lookup f ((f, z) :: r) = some z := by simp [List.lookup]
      rw [this]
      show RelO (some z) (put m f v f)
      rw [show put m f v f = some v from if_pos rfl]
      exact rz
    · have h2 : (f == k) = false := beq_eq_false_iff_ne.mpr hf
      have : List.lookup f ((k, z) :: r) = List.lookup f r := by simp [List.lookup, h2]
      rw [this, puts]
      -- the further fields over the one put
      have gen : ∀ {r : List (Str × V)} {r' : List (Str × Value)} {m : Str → Option Value}, Paired (fun (p : Str × V) (q : Str × Value) => p.1 = q.1 ∧ RelV p.2 q.2) r r' → (r.map (·.1)).Nodup → m f = none → RelO (r.lookup f) (puts m r' f) := by
        intro r r' m P
        induction P generalizing m with
        | nil => intro _ hm; show RelO none (m f); rw [hm]; trivial
        | @cons p q r r' hpq P ih =>
          intro nd hm
          obtain ⟨k1, z1⟩ := p
          obtain ⟨k2, v2⟩ := q
          obtain ⟨e, rz⟩ := hpq
          dsimp only at e rz
          subst e
          simp only [List.map_cons, List.nodup_cons] at nd
          by_cases hk : f = k1
          · subst hk
            rw [puts, puts_off (by rw [keys P]; exact nd.1)]
            have e1 : List.lookup f ((f, z1) :: r) = some z1 := by simp [List.lookup]
            rw [e1, show put m f v2 f = some v2 from if_pos rfl]
            exact rz
          · have e2 : (f == k1) = false := beq_eq_false_iff_ne.mpr hk
            have e1 : List.lookup f ((k1, z1) :: r) = List.lookup f r := by simp [List.lookup, e2]
            rw [e1, puts]
            exact ih nd.2 ((if_neg hk).trans hm)
      exact gen P nd.2 ((if_neg hf).trans (hm f))
section
variable {P : Program} {w : World} {A : Around} {R : Result → Shared → Prop} {K : Frag} {st : Stmt} {qual : Str} {C fI : Addr} {fs ps : List Str} {B newId i : String} {bmB : List Value} {l : List (Str × Str)} {mg mb : Str → Option Value} {fl : ∀ {α : Type}, List α → List (Str × α)}
theorem exc_made (S : ExS st qual ps l) (T : ExT P K st qual C fI fs B newId i bmB) (Fl : ExF ps l fs fl) {us : List Value} {s : Shared} (X : K.In s.heap) (hg : s.heap.Ns mainGlobals mg) (hsu : mg "super" = none) (hb : s.heap.Ns builtinsNs mb) (hbb : mb "super" = bootBuiltins "super") (hlim : s.heap.NoLimit)
    (hroom : A.depth + 1 < recursionLimit) (hl : us.length + 1 = ps.length)
    (hq : ∀ h' tk e d, Made s.heap h' e C d (puts (fun _ => none) (fl us)) → R (.ok (.ret (.ref e))) { s with heap := h', toks := tk }) : codeAny (model P w) A (.call (.ref C) ⟨us, []⟩) R s := by
  obtain ⟨nm, N', qn, bs, bm, hdct, sn, sub, ab, col, dd, k0, k1, k2, k3, k5, hC, hT⟩ := excInit_of X T.q
  obtain ⟨hp, g, dr, tk, os⟩ := s
  have up : ∀ b o, hp.get? b = some o → ((hp.push (kdv_tup us)).push (excO C hp.objs.size)).get? b = some o := fun b o z => Heap.get?_push_of_some _ (Heap.get?_push_of_some _ z)
  have at1 : ((hp.push (kdv_tup us)).push (excO C hp.objs.size)).get? (hp.objs.size + 1) = some (excO C hp.objs.size) := by heap_get
  have off : K.lookup (hp.objs.size + 1) = none := by
    cases z : K.lookup (hp.objs.size + 1) with
    | none => rfl
    | some o => exact absurd (Nat.lt_of_succ_lt (Heap.lt_size (show hp.get? (hp.objs.size + 1) = some o from X _ _ z))) (Nat.lt_irrefl _)
  have small : us.length ≤ sizeLine := by have := Fl.len; rw [sizeLine_eq]; omega
  refine call_own T.FB hT hC (looks_findIn X T.ini) (fun self => bind_fn X self T.fty) small ?_
  refine exc_init (s := ⟨(hp.push (kdv_tup us)).push (excO C hp.objs.size), g, dr, tk, os⟩) (A := A.under (.builtin "type.__call__" ⟨.ref C :: us, []⟩)) S T (X.keeps up) (hg.keeps up) hsu (hb.keeps up) hbb (hlim.keeps up) at1 off ?_ hl Fl.len.2.1 (Fl.val _ us hl) Fl.len.1 fun h' tk' dx t1 Z => ?_
  · rw [L2.make_depth]; exact hroom
  · have sz : ((hp.push (kdv_tup us)).push (excO C hp.objs.size)).objs.size = hp.objs.size + 1 + 1 := by rw [Heap.size_push, Heap.size_push]
    have db : ((hp.push (kdv_tup us)).push (excO C hp.objs.size)).objs.size ≤ dx := Z.dbig
    refine ⟨rfl, hq h' tk' (hp.objs.size + 1) dx ⟨fun b o z => Z.keep b o (fun y => ?_) (up b o z), Nat.le_succ _, ⟨t1, Z.obj⟩, by show hp.objs.size ≤ dx; omega, Z.dne, Z.ns⟩⟩
    rw [y] at z
    exact absurd (Nat.lt_of_succ_lt (Heap.lt_size z)) (Nat.lt_irrefl _)
end
/-- the reading of raise C(e, ..) -/
def tRaiseU (W : WX) (C : Addr) (m : Nat) (fl : ∀ {α : Type}, List α → List (Str × α)) (ta : TA) : TS := fun _ σ H => ta σ H fun vs H1 => vs.length = m ∧ ∀ d H2, H1 d = none → Same H1 H2 → H2 d = some (.xd (fl vs)) → W (.ref C) (some d) σ H2
section
variable {n : Z.En} {X : Cx} {W : WX} {st : Stmt} {qual : Str} {C fI : Addr} {fs ps : List Str} {B newId i : String} {bmB : List Value} {l : List (Str × Str)} {fl : ∀ {α : Type}, List α → List (Str × α)} {x : Str} {p pos pos2 : Pos} {e : Expr} {es : List Expr} {ta : TA}
theorem z_raise (o : Z.Of n X) (tk : Takes X W) (S : ExS st qual ps l) (T : ExT n.P n.K st qual C fI fs B newId i bmB) (Fl : ExF ps l fs fl) {m : Nat} (hm : m + 1 = ps.length) (gC : X.mg x = some (.ref C)) (gS : X.mg "super" = none) (ha : PA X (e :: es) ta)
    (hc : X.calm = true := by rfl) (hg : Gl X x := by rfl) (hdb : (x == ("__debug__" : Str)) = false := by decide) (he : starEach (e :: es) X.env = (false, eval e X.env) :: starEach es X.env := by rfl) (hpl : (backTo pos (starEach es X.env)).any (·.1) = false := by rfl) :
    PS X (.Raise (some (.Call (.Name x p) (e :: es) [] pos)) none pos2) (tRaiseU W C m fl ta) := by
  refine ps_raise (t := fun σ H Q => ta σ H fun vs H1 => vs.length = m ∧ ∀ d H2, H1 d = none → Same H1 H2 → H2 d = some (.xd (fl vs)) → Q (.ref C) (some d) H2) hc tk ?_
  intro pins s σ H Q I h
  rw [← o.P, ← o.K] at T
  refine wpAny_Call_Name_kw (ld_glob I hg gC ?_ hdb)
  refine callWith_K (h₀ := X.base) I.ok.mod.kin T.kC (thn (ha.run pos pins s σ H _ I h) fun us s1 ⟨vs, H1, I1, r1, lv, q1⟩ => ⟨I1.kIn, ?_⟩) he hpl
  have hl : us.length + 1 = ps.length := by rw [← r1.length, lv]; exact hm
  obtain ⟨mb, nb, bb⟩ := I1.ok.mod.blt
  have upb := fun b o z => (I1.env0.bs b o z).1
  have hgl := I1.ok.mod.glob.keeps upb
  have hbl := nb.keeps upb
  have lim := I1.nolimit
  obtain ⟨hp, g, dr, tk', os⟩ := s1
  refine wpAny_call (exc_made (mg := X.mg) (mb := mb) S T Fl I1.kIn hgl gS hbl (bb _ (by decide)) lim (by have := o.dp; rw [o.A]; omega) hl fun h' tk2 e' d M => ?_)
  · obtain ⟨t1, ho⟩ := M.obj
    obtain ⟨G, g1, g2⟩ := restrict h' fun b => decide (b ≠ e')
    have same : ∀ b, b ≠ e' → G.get? b = h'.get? b := fun b hb => g1 b (decide_eq_true hb)
    have gone : G.get? e' = none := g2 e' (by simp)
    have up : ∀ b o, hp.get? b = some o → G.get? b = some o := fun b o z => (same b (Nat.ne_of_lt (Nat.lt_of_lt_of_le (Heap.lt_size z) M.new))).trans (M.keep b o z)
    have fd : H1 d = none := I1.hok.fresh M.dbig
    have J : Inv X pins σ (upd H1 d (.xd (fl vs))) ⟨G, g, dr, tk2, os⟩ := I1.laid (t' := tk2) up M.dbig ⟨_, M.ns.at (fun o z => (same d M.dne).trans z), fun f => relo_puts (Fl.rel vs us (by omega) r1) (Fl.nd vs) (fun _ => rfl) f⟩
    refine ⟨e', _, _, ⟨G, g, dr, tk2, os⟩, _, .ref C, some d, rfl, J, fun b o z => ?_, gone, ho, ⟨rfl, rfl⟩, rfl, rfl, ?_, rfl, I1.bare, raises_own T.exC T.tyC, q1 d _ fd (Z.same_upd fd) upd_same⟩
    · by_cases hb : b = e'
      · rw [hb] at z
        rw [show G.get? e' = some o from z] at gone
        cases gone
      · exact (same b hb).symm.trans z
    · rw [upd_ne (Ne.symm M.dne)]
      exact I1.hok.fresh M.new
end
end ZE

namespace Z
open PySem PySem.Spec PyProof.Rows L2
/-! ### try: .. except X as e: .. -/
def En.su (n : En) (a : Addr) : En := { n with A := n.A.mark (some (.ref a)) }
theorem of_su {n : En} {X : Cx} (o : Of n X) (a : Addr) (pn : List (Addr × Obj)) : Of (n.su a) (X.suite a pn) :=
  ⟨o.P, o.w, o.K, o.mg, o.base, by show X.A.mark _ = n.A.mark _; rw [o.A], fun h => (by cases h), o.dp⟩
structure vCatch (K : PySem.W.Frag) (cls c : Value) (p q : Prop) : Prop where
  run : ∃ b, PySem.W.exmOne K cls c = some b ∧ (b = true → p) ∧ (b = false → q)
theorem n_hit {K : PySem.W.Frag} {cls c : Value} {p q : Prop} (h : PySem.W.exmOne K cls c = some true) (k : p) : vCatch K cls c p q := ⟨true, h, fun _ => k, fun z => by cases z⟩
theorem n_miss {K : PySem.W.Frag} {cls c : Value} {p q : Prop} (h : PySem.W.exmOne K cls c = some false) (k : q) : vCatch K cls c p q := ⟨false, h, fun z => (by cases z), fun _ => k⟩
def uAs (K : PySem.W.Frag) (c : Value) (i : Nat) (ts : Addr → Value → Option Addr → TS) (Wout : WX) (D : Ends) : WX := fun cls d σ H =>
  vCatch K cls c (∀ a, H a = none → ts a cls d { nx := fun σ' H' => D.nx (σ'.set i none) H', rt := D.rt, bk := fun σ' H' => D.bk (σ'.set i none) H', ct := fun σ' H' => D.ct (σ'.set i none) H' } (σ.set i (some (.ref a))) H) (Wout cls d σ H)
theorem uAs_eq (K : PySem.W.Frag) (c : Value) (i : Nat) (ts : Addr → Value → Option Addr → TS) (Wout : WX) (D : Ends) : uAs K c i ts Wout D = wAs K c i ts Wout D := by
  funext cls d σ H
  exact propext ⟨fun h => h.run, fun h => ⟨h⟩⟩
def uTryAs (K : PySem.W.Frag) (c : Value) (i : Nat) (W : WX) (tb : WX → TS) (ts : Addr → Value → Option Addr → TS) : TS := fun D σ H => tb (uAs K c i ts W D) D σ H
section
variable {n : En} {X : Cx} {x nm : Str} {c : Value} {i : Nat} {body suite : List Stmt} {b₀ : Stmt} {np pos pos' : Pos} {tb : WX → TS} {ts : Addr → Value → Option Addr → TS} {W : WX}
theorem z_tryAs (o : Of n X) (hs : X.stack = X.env :: X.outer) (hf : X.env.frame = some X.env.locals) (hN : X.N.Nodup) (hi : X.N[i]? = some nm) (hln : X.env.kindOf nm = some .local) (hm : X.mg x = some c) (hg : Gl X x) (tk : Takes X W)
    (hb : ∀ (W : WX) (pn : List (Addr × Obj)) (xe : Value → Shared → Prop), Takes (X.tr pn xe) W → PassesOwn (model X.prog X.w) X.A X.env xe → PSs (X.tr pn xe) body (tb W))
    (hsu : ∀ (a : Addr) (oe : Obj) (cls : Value) (d : Option Addr) (pn : List (Addr × Obj)), Zc cls d oe → (∃ vs, oe.data = .fields vs) → PSs (X.suite a ((a, oe) :: pn)) (b₀ :: suite) (ts a cls d)) (hdb : (x == ("__debug__" : Str)) = false := by decide) :
    PS X (.Try body [.ExceptHandler (some (.Name x np)) (some nm) (b₀ :: suite) pos'] [] [] pos) (uTryAs n.K c i W tb ts) := by
  have h := ps_try_as (np := np) (pos := pos) (pos' := pos') (Wout := W) hs hf hN hi hln (c := c) (x := x) ⟨hg, hdb, .inl hm⟩ tk hb hsu
  have e : uTryAs n.K c i W tb ts = fun D σ H => tb (wAs X.K c i ts W D) D σ H := by
    funext D σ H
    show tb (uAs n.K c i ts W D) D σ H = _
    rw [uAs_eq, o.K]
  rw [e]
  exact h
end
/-! ### a field of the exception that a suite holds -/
structure ExRead (K : PySem.W.Frag) (C : Addr) (f : Str) : Prop where
  ga : PySem.W.findIn K (.ref C) "__getattribute__" = some (some (.builtin "BaseException.__getattribute__"))
  gg : PySem.W.findIn K (.ref C) "__getattr__" = some none
  ex : PySem.W.subIn K (.ref C) (.type "BaseException") = some true
  hd : PySem.W.hasDictIn K C = true
  no : PySem.W.findIn K (.ref C) f = some none
structure vByE (K : PySem.W.Frag) (a : Addr) (cls : Value) (d : Option Addr) (f : Str) (x : V) (H : Hp) (Q : VK) : Prop where
  run : ∃ (C dd : Addr) (fs : List (Str × V)) (v : V), x = .ref a ∧ cls = .ref C ∧ ExRead K C f ∧ d = some dd ∧ H dd = some (.xd fs) ∧ fs.lookup f = some v ∧ Q v H
theorem n_byE {K : PySem.W.Frag} {a C dd : Addr} {f : Str} {H : Hp} {Q : VK} {fs : List (Str × V)} {v : V} (r : ExRead K C f) (h : H dd = some (.xd fs)) (l : fs.lookup f = some v) (q : Q v H) : vByE K a (.ref C) (some dd) f (.ref a) H Q := ⟨C, dd, fs, v, rfl, rfl, r, rfl, h, l, q⟩
def tByE (K : PySem.W.Frag) (a : Addr) (cls : Value) (d : Option Addr) (f : Str) (te : TE) : TE := fun σ H Q => te σ H fun x H1 => vByE K a cls d f x H1 Q
theorem z_byE {K : PySem.W.Frag} {X : Cx} {a : Addr} {oe : Obj} {cls : Value} {d : Option Addr} {pn : List (Addr × Obj)} {e : Expr} {te : TE} {pos : Pos} {f : Str} (hK : X.K = K) (hz : Zc cls d oe) (hf : ∃ vs, oe.data = .fields vs) (he : PE (X.suite a ((a, oe) :: pn)) e te)
    (hb : attributeBase e f X.env (eval e X.env) = eval e X.env := by rfl) : PE (X.suite a ((a, oe) :: pn)) (.Attribute e f pos) (tByE K a cls d f te) := by
  refine ⟨fun pins s σ H Q I h => attr_of hb (thn (he.run pins s σ H _ I h) fun u s1 hh => ?_)⟩
  obtain ⟨x, H1, I1, rx, ⟨C, dd, fs, v, ex, ec, R, ed, ea, l, q⟩⟩ := hh
  subst ex ec ed
  cases (show u = Value.ref a from rx)
  rw [← hK] at R
  obtain ⟨at1, _⟩ := I1.pin (a, oe) (List.mem_append_left _ List.mem_cons_self)
  obtain ⟨vs, hd⟩ := hf
  obtain ⟨mA, hns, hr⟩ := (show ObjOk X.prog X.w H1 s1.heap dd (.xd fs) from I1.hok dd _ ea)
  obtain ⟨od, ho, hl⟩ := lookIn_ns hns
  obtain ⟨w', hw, rw'⟩ := RelO.some_of (v := v) (o := mA f) (by rw [← l]; exact hr f)
  have J : PySem.W.InstAt s1.heap a oe C (some od) := ⟨at1, hz.1, by unfold PySem.W.notCls; rw [hd] <;> rfl, by rw [hz.2]; exact ho⟩
  exact HandSPX.exc_get I1.kIn J R.ga R.gg R.ex (PySem.W.findObj_own R.hd R.no rfl (by rw [hl, hw])) (handed_of rw') ⟨v, H1, I1.tok _, rw', q⟩
/-! ### o.m(.., k = e) -/
def tMethK (e : En) (W : WX) (m : Str) (ks : List Str) (ta : TE) (t tk : TA) : TE := fun σ H Q => ta σ H fun x H1 => ∃ a C dx fs g, x = .ref a ∧ H1 a = some (.ins C dx fs) ∧ Cls e.K C ∧ Meth e.K C m g ∧ fs.lookup m = none ∧
  t σ H1 fun vs H2 => tk σ H2 fun zs H3 => vCallK e (.ref g) ks (.ref a :: vs) zs (fun c d H' => W c d σ H') H3 Q
theorem z_methK0 {n : En} {X : Cx} {W : WX} {o : Expr} {m : Str} {apos pos : Pos} {kws : List Keyword} {ks : List Str} {ta : TE} {tk' : TA} {pl : Sem Bool} (oo : Of n X) (tk : Takes X W) (he : PE X o ta) (hkw : PK X kws tk')
    (hall : (backToKw pos (keywordEach kws X.env)).all (·.1.isSome) = true := by rfl) (hks : (backToKw pos (keywordEach kws X.env)).filterMap (·.1) = ks := by rfl) (hpl : ((backTo pos (starEach [] X.env)).any (·.1) || (backToKw pos (keywordEach kws X.env)).any (·.1.isNone)) = false := by rfl)
    (ht : eval (.Call (.Attribute o m apos) [] kws pos) X.env = (do
      let ov ← eval o X.env
      standAt apos.atName
      let (f, first) ← holding [ov] (getMethod ov m pl)
      callWith pos f first (backTo pos (starEach [] X.env)) (backToKw pos (keywordEach kws X.env))) := by rfl) : PE X (.Call (.Attribute o m apos) [] kws pos) (tMethK n W m ks ta tNil tk') := by
  refine ⟨fun pins s σ H Q I h => PySem.W.methodCall_KW (pl := pl) (thn (he.run pins s σ H _ I h) fun u s1 ⟨x, H1, I1, rx, a, C, dx, fs, g, ex, ea, c, hm, l, q⟩ => ?_) ht⟩
  subst ex
  cases (show u = Value.ref a from rx)
  rw [← oo.K] at c hm
  refine getmeth_ok I1 ea c hm l (PySem.W.callWith_KW0 (first := [.ref a]) (h₀ := X.base) I.ok.mod.kin hm.kp hall ?_ hpl)
  refine thn (hkw.run pos pins s1 σ H1 _ I1 q) fun ws s2 ⟨zs, H2, I2, rz, q2⟩ => ⟨I2.kIn, ?_⟩
  rw [hks]
  exact q2.run X oo pins s2 σ [.ref a] ws (fun _ _ _ w => xw_of tk w) I2 (.cons rfl .nil) rz
end Z

namespace ZE
open PySem PySem.Spec PyProof.Rows L2 Z
/-! ### the head's facts of exceptions -/
abbrev FnY : Type := Option (Str × Str × Arguments × FuncBody × Scope × Addr × List Str × Addr)
def fnY (K : PySem.W.Frag) (a : Addr) : FnY := match K.lookup a with
  | some ⟨_, _, .func fd, _⟩ => some (fd.name, fd.qualname, fd.params, fd.body, fd.scope, fd.globals, fd.closure.map (·.1), fd.builtins)
  | _ => none
structure DefY where
  at_ : PySem.W.Frag → Addr
  qual : Str
  st : Stmt
def DefY.val (d : DefY) : FnY := some ("__init__", d.qual, defArgs d.st, .stmts (defBody d.st), defScope d.st, mainGlobals, ["__class__"], builtinsNs)
abbrev AlE : Type := AlZ × List FnY
def obsE (fn : List He5.DefA) (ex : PySem.W.Frag → List Bool) (fy : List DefY) (K : PySem.W.Frag) : AlE := (obsZ fn ex K, fy.map fun d => fnY K (d.at_ K))
def valE (fn : List He5.DefA) (fy : List DefY) : AlE := (valZ fn, fy.map DefY.val)
def SaysE (fn : List He5.DefA) (ex : PySem.W.Frag → List Bool) (fy : List DefY) (K : PySem.W.Frag) : Prop := obsE fn ex fy K = valE fn fy
def obsEG (n : Nat) (fn : List He5.DefA) (ex : PySem.W.Frag → List Bool) (fy : List DefY) (g : Addr → Option Obj) : AlE := obsE fn ex fy (He.frG g (He5.asA g n))
def hookE (n : Nat) (fn : List He5.DefA) (ex : PySem.W.Frag → List Bool) (fy : List DefY) : PySem.W.Hook where
  α := AlE
  obs := fun s => obsEG n fn ex fy s.heap.get?
  val := fun _ => valE fn fy
  says := fun _ h => ∃ K : PySem.W.Frag, K.In h ∧ SaysE fn ex fy K
  of := fun _ _ e => ⟨_, He.frG_in, e⟩
  keeps := fun _ _ _ z k => z.elim fun K y => ⟨K, PySem.W.Frag.In.keeps y.1 k, y.2⟩
theorem obsE_tree {n : Nat} {fn : List He5.DefA} {ex : PySem.W.Frag → List Bool} {fy : List DefY} (s : PySem.W.SharedT) : obsEG n fn ex fy (HandSHeadRun.getT s) = (hookE n fn ex fy).obs s.abs := by
  rw [show HandSHeadRun.getT s = s.abs.heap.get? from funext (HandSHeadRun.getT_eq s)] <;> rfl
section
variable {fn : List He5.DefA} {ex : PySem.W.Frag → List Bool} {fy : List DefY} {K : PySem.W.Frag}
theorem SaysE.z (c : SaysE fn ex fy K) : SaysZ fn ex K := congrArg Prod.fst c
theorem SaysE.b (c : SaysE fn ex fy K) (i : Nat) {b : Bool} (h : (ex K)[i]? = some b) : b = true := c.z.b i h
theorem SaysE.d (c : SaysE fn ex fy K) (i : Nat) {d : He5.DefA} (h : fn[i]? = some d) : ∃ fd, FunD K d.name d.qual d.params d.body d.scope (d.dvs K) (d.kws K) (d.at_ K) fd := c.z.d i h
theorem SaysE.y (c : SaysE fn ex fy K) (i : Nat) {d : DefY} (h : fy[i]? = some d) : fnY K (d.at_ K) = d.val := by
  have e := congrArg (fun l : List FnY => l[i]?) (congrArg Prod.snd c)
  simp only [obsE, valE, List.getElem?_map, h, Option.map_some] at e
  exact Option.some.inj e
end
/-- a family of built-in exceptions -/
structure Fam where
  B : String
  newId : String
  i : String
  bm : List Value
structure FamOk (f : Fam) : Prop where
  FB : PySem.ExcBaseFacts f.B f.newId f.i f.bm
  SF : PySem.StoreFacts f.B f.bm "object.__setattr__" "object"
  KF : PySem.W.KxsFacts f.B f.i
def famVE : Fam := ⟨"ValueError", "ValueError.__new__", "ValueError.__init__", [.type "ValueError", .type "Exception", .type "BaseException", .type "object"]⟩
theorem famVE_ok : FamOk famVE := ⟨PySem.F.excBase_ValueError, PySem.F.store_ValueError, PySem.W.kxs_ValueError⟩
def famLE : Fam := ⟨"LookupError", "LookupError.__new__", "LookupError.__init__", [.type "LookupError", .type "Exception", .type "BaseException", .type "object"]⟩
theorem famLE_ok : FamOk famLE := ⟨PySem.F.excBase_LookupError, PySem.F.store_LookupError, PySem.W.kxs_LookupError⟩
def famAE : Fam := ⟨"ArithmeticError", "ArithmeticError.__new__", "ArithmeticError.__init__", [.type "ArithmeticError", .type "Exception", .type "BaseException", .type "object"]⟩
theorem famAE_ok : FamOk famAE := ⟨PySem.F.excBase_ArithmeticError, PySem.F.store_ArithmeticError, PySem.W.kxs_ArithmeticError⟩
def cellB (P : Program) (K : PySem.W.Frag) (C fI : Addr) (qual : Str) : Bool := match K.lookup fI with
  | some ⟨_, _, .func fd, _⟩ => (match fd.defaults, fd.closure, fd.code with
    | .none, [(_, cc)], .ref cda => PySem.W.codeIn K (.ref cda) qual && (match K.lookup cc with
      | some ⟨_, _, .cell (some (.ref D)), _⟩ => D == C
      | _ => false) && (match K.lookup cda with
      | some ⟨_, _, .fields vs, _⟩ => (match (vs[2]? : Option Value) with
        | some (Value.str file _) => ((P.main.file : Str) == file)
        | _ => false)
      | _ => false)
    | _, _, _ => false)
  | _ => false
def extB (P : Program) (K : PySem.W.Frag) (C fI : Addr) (qual : Str) (fs : List Str) (f : Fam) : Bool :=
  [PySem.W.excInitIn K C f.bm f.newId, PySem.W.excOver K C f.bm, He.eqO (PySem.W.findIn K (.ref C) "__setattr__") (some (some (.builtin "object.__setattr__"))), PySem.W.hasDictIn K C,
   fs.all fun n => decide (PySem.W.takerIn K C n = some none), He.eqO (PySem.W.findIn K (.ref C) "__init__") (some (some (.ref fI))), decide (PySem.W.typeIn K (.ref fI) = some (.type "function")), PySem.W.keepIn K (.ref C),
   decide (PySem.W.subIn K (.ref C) (.type "BaseException") = some true), decide (PySem.W.typeIn K (.ref C) = some (.type "type")), He.eqO (PySem.W.ks_superIn K C C "__init__") (some (some (.builtin f.i))), decide (PySem.W.subIn K (.ref C) (.type f.B) = some true),
   decide (PySem.W.mroIn K C (.ref C) = some true), He.eqO (PySem.W.nsIn K cStatics "thirdparty.any") (some none), !(P.main.scope.names.lookup ("super" : Str)).isSome, cellB P K C fI qual].all fun b => b
theorem ext_ok {P : Program} {K : PySem.W.Frag} {st : Stmt} {C fI : Addr} {qual : Str} {fs : List Str} {f : Fam} (fo : FamOk f) (h : extB P K C fI qual fs f = true) (y : fnY K fI = (DefY.mk (fun _ => fI) qual st).val) : ExT P K st qual C fI fs f.B f.newId f.i f.bm := by
  simp only [extB, List.all_cons, List.all_nil, Bool.and_true, Bool.and_eq_true] at h
  obtain ⟨h1, h2, h3, h4, h5, h6, h7, h8, h9, h10, h11, h12, h13, h14, h15, h16⟩ := h
  refine ⟨fo.FB, fo.SF, fo.KF, h1, h2, He.eqO_ok h3, h4, fun n hn => of_decide_eq_true (List.all_eq_true.mp h5 n hn), He.eqO_ok h6, of_decide_eq_true h7, h8, of_decide_eq_true h9, of_decide_eq_true h10, He.eqO_ok h11, of_decide_eq_true h12, of_decide_eq_true h13, He.eqO_ok h14, by simpa using h15, ?_⟩
  unfold cellB at h16
  unfold fnY at y
  split at h16
  · rename_i oc od fd osl lk
    rw [lk] at y
    obtain ⟨n1, n2, n3, n4, n5, n6, n7, n8, n9, n10, n11, n12, n13, n14, n15⟩ := fd
    simp only [DefY.val, Option.some.injEq, Prod.mk.injEq] at y
    obtain ⟨e1, e2, e3, e4, e5, e6, e7, e8⟩ := y
    subst e1 e2 e3 e4 e5 e6 e8
    split at h16
    · rename_i q cc cda h17 h18 h19
      dsimp only at h17 h18 h19
      subst h17 h18 h19
      simp only [List.map_cons, List.map_nil, List.cons.injEq, and_true] at e7
      subst e7
      simp only [Bool.and_eq_true] at h16
      obtain ⟨⟨h20, h21⟩, h22⟩ := h16
      split at h21
      · rename_i cl cld D csl lc
        cases (beq_iff_eq.mp h21)
        split at h22
        · rename_i ccl cdd vs ccs lcd
          split at h22
          · rename_i file tf hv
            exact ⟨oc, od, osl, _, _, _, _, _, cda, cc, vs, file, tf, ccl, cdd, ccs, cl, cld, csl, lk, h20, lcd, hv, h22, lc⟩
          · cases h22
        · cases h22
      · cases h21
    · cases h16
  · cases h16
def readB (K : PySem.W.Frag) (C : Addr) (f : Str) : Bool := He.eqO (PySem.W.findIn K (.ref C) "__getattribute__") (some (some (.builtin "BaseException.__getattribute__"))) && (He.eqO (PySem.W.findIn K (.ref C) "__getattr__") (some none) && (decide (PySem.W.subIn K (.ref C) (.type "BaseException") = some true) &&
  (PySem.W.hasDictIn K C && He.eqO (PySem.W.findIn K (.ref C) f) (some none))))
theorem read_ok {K : PySem.W.Frag} {C : Addr} {f : Str} (h : readB K C f = true) : ExRead K C f := by
  obtain ⟨h1, h⟩ := He.ba h
  obtain ⟨h2, h⟩ := He.ba h
  obtain ⟨h3, h⟩ := He.ba h
  obtain ⟨h4, h5⟩ := He.ba h
  exact ⟨He.eqO_ok h1, He.eqO_ok h2, of_decide_eq_true h3, h4, He.eqO_ok h5⟩
end ZE

namespace Z
open PySem PySem.Spec PyProof.Rows L2
/-! ### repr of what is drawn -/
mutual
theorem dp_same {K : PySem.W.Frag} {H H' : Hp} (s : Same H H') : ∀ {v : V} {d : PyData}, Dp K H v d → Dp K H' v d
  | _, _, .non => .non
  | _, _, .bl b => .bl b
  | _, _, .int i => .int i
  | _, _, .str x => .str x
  | _, _, .lst h a => .lst (sql_same s h) (dpAll_same s a)
  | _, _, .tup h a => .tup (sqt_same s h) (dpAll_same s a)
theorem dpAll_same {K : PySem.W.Frag} {H H' : Hp} (s : Same H H') : ∀ {vs : List V} {ds : List PyData}, DpAll K H vs ds → DpAll K H' vs ds
  | _, _, .nil => .nil
  | _, _, .cons h a => .cons (dp_same s h) (dpAll_same s a)
end
/-- the text of a value -/
inductive Shw (K : PySem.W.Frag) (H : Hp) : V → Str → Prop
  | int (i : Int) (h : i.natAbs.log2 < 1920) : Shw K H (.int i) (Str.ofString (toString i))
  | bl (b : Bool) : Shw K H (.bl b) (if b then Str.ofString "True" else Str.ofString "False")
  | non : Shw K H .non (Str.ofString "None")
  | str (t : Str) (h : (reprText t).length ≤ sizeLine) : Shw K H (.str t) (reprText t)
  | data {a : Addr} {d : PyData} (h : Dp K H (.ref a) d) (h1 : d.showable = true) (h2 : d.hasDict = false) (h3 : d.depth ≤ 60) (h4 : d.shown.length ≤ sizeLine) : Shw K H (.ref a) d.shown
  | emp {a : Addr} (h : H a = some (.dK [])) : Shw K H (.ref a) (PyData.dict []).shown
theorem Shw.same {K : PySem.W.Frag} {H H' : Hp} (s : Same H H') {v : V} {t : Str} : Shw K H v t → Shw K H' v t
  | .int i h => .int i h
  | .bl b => .bl b
  | .non => .non
  | .str t h => .str t h
  | .data h h1 h2 h3 h4 => .data (dp_same s h) h1 h2 h3 h4
  | .emp h => .emp (s _ _ h)
theorem e_shw {n : En} {H : Hp} {Q : VK} {x : V} {t : Str} (hg : n.A.guards = some []) (hu : n.A.units + 64 < cLine) (h : Shw n.K H x t) (q : Q (.str t) H) : vCB n (.builtin "repr") [x] H Q := by
  cases h with
  | int i h => exact e_reprI h q
  | bl b => exact e_reprBl q
  | non => exact e_reprN q
  | str t h => exact e_reprS h q
  | @data a d h h1 h2 h3 h4 =>
    refine ⟨fun X o pins s σ us I r => ?_⟩
    obtain ⟨u, rfl, ru⟩ := vals1 r
    cases (show u = Value.ref a from ru)
    rw [← o.K] at h
    obtain ⟨as, R⟩ := Dp.reads I d _ _ h rfl
    exact repr_of_reads' R h1 (PyData.noDict_hsm h2) (by rw [o.A]; exact hg) (by rw [o.A]; omega) (fun _ _ e => e) (fun h' u tk kk => ⟨.str d.shown, H, I.kept kk, ⟨u, rfl⟩, q⟩) h4
  | @emp a h =>
    refine ⟨fun X o pins s σ us I r => ?_⟩
    obtain ⟨u, rfl, ru⟩ := vals1 r
    cases (show u = Value.ref a from ru)
    obtain ⟨_, ns, vs, kv, ob, es, ep, e1, e2, e3, e4, e5, e6⟩ := (show ObjOk X.prog X.w H s.heap a (.dK []) from I.hok a _ h)
    cases kv
    generalize hl : es.toList = l at e5
    cases e5
    have R : Reads s.heap (.ref a) (.dict []) (a :: [] ++ []) := .dict e1 e2.1 e3 (by rw [hl]; exact .nil) (by rw [hl]; exact .nil)
    refine repr_of_reads' R (by simp [PyData.showable, PyData.showableKv]) (fun _ hm => ?_) (by rw [o.A]; exact hg) (by rw [o.A, PyData.depth, PyData.depthKv]; omega) (fun _ _ e => e) (fun h' u tk kk => ⟨.str _, H, I.kept kk, ⟨u, rfl⟩, q⟩) (by decide)
    simp only [List.append_nil, List.mem_singleton] at hm
    rw [hm] at ns
    simp at ns
theorem Rm.units' {k : Nat} {A : Around} (r : Rm k A) : A.units + 64 < cLine := r.toRoom.units
/-- {} -/
structure vDic (H : Hp) (Q : VK) : Prop where
  run : ∀ p, H p = none → Q (.ref p) (upd H p (.dK []))
def uDic : TE := fun _ H Q => vDic H Q
theorem z_dic {X : Cx} {pos : Pos} : PE X (.Dict [] [] pos) uDic := pe_imp pe_dnewK fun _ _ _ h => h.run
theorem n_dic {H : Hp} {Q : VK} (q : ∀ p H', H p = none → Same H H' → H' p = some (.dK []) → Q (.ref p) H') : vDic H Q := ⟨a_new q⟩
/-! ### lists of texts -/
theorem strOk_of (s : String) : PyData.strOk (Str.ofString s) = true := by
  unfold PyData.strOk
  rw [← Array.all_toList, List.all_eq_true]
  intro c hc
  rw [PyProof.Rows.signs_ofString] at hc
  obtain ⟨d, _, rfl⟩ := List.mem_map.mp hc
  have := d.valid
  simp only [decide_eq_true_eq]
  rcases this with h | ⟨_, h⟩
  · exact Nat.lt_trans h (by decide)
  · exact h
theorem canStrs : ∀ xs : List Str, (∀ x ∈ xs, PyData.strOk x = true) → PyData.canLayAll0 (xs.map PyData.str) = true
  | [], _ => by simp [PyData.canLayAll0]
  | n :: r, h => by simp [PyData.canLayAll0, PyData.canLay0, canStrs r (fun x hx => h x (List.mem_cons_of_mem _ hx)), h n List.mem_cons_self]
theorem depStrs : ∀ xs : List Str, PyData.depthAll (xs.map PyData.str) = 0
  | [] => by simp [PyData.depthAll]
  | n :: r => by simp [PyData.depthAll, PyData.depth, depStrs r]
theorem shLS (xs : List Str) (h : ∀ x ∈ xs, PyData.strOk x = true) : SeqAt.shaped (.list (xs.map PyData.str)) = true := by simp [SeqAt.shaped, PyData.canLay0, PyData.depth, canStrs xs h, depStrs]
theorem dpStrs {K : PySem.W.Frag} {H : Hp} : ∀ xs : List Str, DpAll K H (xs.map V.str) (xs.map PyData.str)
  | [] => .nil
  | n :: r => .cons (.str n) (dpStrs r)
theorem eqvStrs : ∀ xs ys : List Str, PyData.eqvAll (xs.map PyData.str) (ys.map PyData.str) = decide (xs = ys)
  | [], [] => by simp [PyData.eqvAll]
  | [], y :: ys => by simp [PyData.eqvAll]
  | x :: xs, [] => by simp [PyData.eqvAll]
  | x :: xs, y :: ys => by
    simp only [List.map_cons, PyData.eqvAll, PyData.eqv, eqvStrs xs ys, List.cons.injEq, Bool.decide_and]
    by_cases h : x = y
    · simp [h]
    · simp [h]
theorem e_neLS {P : Program} {w : World} {K : PySem.W.Frag} {mg : Str → Option Value} {base : Heap} {A : Around} {k : Nat} {H : Hp} {Q : VK} {a b : Addr} {xs ys : List Str} (hr : Rm k A) (hx : SqL K H a (xs.map V.str)) (hy : SqL K H b (ys.map V.str)) (ox : ∀ x ∈ xs, PyData.strOk x = true) (oy : ∀ x ∈ ys, PyData.strOk x = true) (q : Q (.bl (!decide (xs = ys))) H) :
    vOp ⟨P, w, K, mg, base, A⟩ (compareOp .NotEq) (.ref a) (.ref b) H Q :=
  e_neD hr (.lst hx (dpStrs xs)) (.lst hy (dpStrs ys)) (shLS xs ox) (shLS ys oy) (by simpa [PyData.eqv, eqvStrs] using q)
theorem two_ok {x y : Str} (h1 : PyData.strOk x = true) (h2 : PyData.strOk y = true) : ∀ z ∈ [x, y], PyData.strOk z = true := by
  intro z hz
  simp only [List.mem_cons, List.not_mem_nil, or_false] at hz
  rcases hz with rfl | rfl
  · exact h1
  · exact h2
end Z

namespace Z
open PySem PySem.Spec PyProof.Rows L2
/-! ### try: .. except X as e: .. except Y as e: .. -/
abbrev Cl : Type := Value × Nat × (Addr → Value → Option Addr → TS)
def wM (K : PySem.W.Frag) (W : WX) (D : Ends) : List Cl → WX
  | [] => W
  | (c, i, ts) :: l => uAs K c i ts (wM K W D l) D
inductive HdA (X : Cx) : List ExceptHandler → List Cl → Prop
  | nil : HdA X [] []
  | cons {x nm : Str} {c : Value} {i : Nat} {ts : Addr → Value → Option Addr → TS} {b0 : Stmt} {su : List Stmt} {np pos' : Pos} {hs : List ExceptHandler} {l : List Cl} (hm : X.mg x = some c) (hg : Gl X x) (hdb : (x == ("__debug__" : Str)) = false) (hi : X.N[i]? = some nm) (hln : X.env.kindOf nm = some .local)
      (hsu : ∀ (a : Addr) (oe : Obj) (cls : Value) (d : Option Addr) (pn : List (Addr × Obj)), Zc cls d oe → (∃ vs, oe.data = .fields vs) → PSs (X.suite a ((a, oe) :: pn)) (b0 :: su) (ts a cls d)) (r : HdA X hs l) :
      HdA X (.ExceptHandler (some (.Name x np)) (some nm) (b0 :: su) pos' :: hs) ((c, i, ts) :: l)
def uTryM (K : PySem.W.Frag) (l : List Cl) (W : WX) (tb : WX → TS) : TS := fun D σ H => tb (wM K W D l) D σ H
theorem z_tryM {n : En} {X : Cx} {body : List Stmt} {h0 : ExceptHandler} {hds : List ExceptHandler} {l : List Cl} {pos : Pos} {tb : WX → TS} {W : WX} (o : Of n X) (hs : X.stack = X.env :: X.outer) (hf : X.env.frame = some X.env.locals) (hN : X.N.Nodup) (tk : Takes X W)
    (hb : ∀ (W : WX) (pn : List (Addr × Obj)) (xe : Value → Shared → Prop), Takes (X.tr pn xe) W → PassesOwn (model X.prog X.w) X.A X.env xe → PSs (X.tr pn xe) body (tb W)) (hh : HdA X (h0 :: hds) l) : PS X (.Try body (h0 :: hds) [] [] pos) (uTryM n.K l W tb) := by
  rw [← o.K]
  refine ⟨fun pins s σ H D I h => wpAny_Try_except ?_⟩
  have ok := I.ok
  have fr : X.A.frames = some (X.env :: X.outer) := ok.frames.trans (by rw [hs])
  let after : Value → Shared → Prop := fun e s1 => wpAny (model X.prog X.w) X.A (noteFrame e X.env) (fun _ s2 => wpAny (model X.prog X.w) X.A (setFlight e none) (fun _ s3 => wpAny (model X.prog X.w) X.A (handleBy e X.env (h0 :: hds)) (SP X pins D) X.xe s3) X.xe s2) X.xe s1
  refine wpAny_mono ((hb (wM X.K W D l) (X.pn ++ pins) after (fun u s' xx => ?_) PassesOwn.looking).run [] s σ H D (I.toTry _) h) (fun f s1 z => ?_) (fun e s1 z => z)
  · obtain ⟨a, B, sI, pins', σ', H', cls, d, rfl, J', nb, up, sky, na, os, ag, w⟩ := xx
    have J : Inv X pins σ' H' sI := J'.ofTry ok
    show wpAny (model X.prog X.w) X.A (noteFrame (.ref a) X.env) _ _ _
    refine Sky.land Zc.steady fr hf (by rw [← hs]; exact sky) fun h3 fl up3 => ?_
    have J3 : Inv X pins σ' H' { s' with heap := h3 } := J.landed nb fl.1 (up.trans up3) os ag
    obtain ⟨oe, vs, he, hz, hd⟩ := fl.there
    have off : a ∉ frs (X.env :: X.outer) := fun hm => by
      obtain ⟨_, o', e', hn⟩ := fl.2.2.1.mem hm
      rw [he] at e'
      cases e'
      exact hn _ hd
    have nL : a ≠ X.env.locals := fun y => off (List.mem_filterMap.mpr ⟨X.env, List.mem_cons_self, by rw [hf, y]⟩)
    have nF : a ∉ X.fs := fun hm => by
      obtain ⟨e, h1, h2⟩ := List.mem_filterMap.mp hm
      exact off (List.mem_filterMap.mpr ⟨e, List.mem_cons_of_mem _ h1, h2⟩)
    have S3 := J3.suite he hd na nL nF
    have LT : PySem.W.Looks (model X.prog X.w) h3 (typeOf (.ref a)) cls := fun A Q E s k q => wpAny_typeOf_ref (k _ _ he) (by rw [hz.1]; exact q)
    have go : ∀ {hds' : List ExceptHandler} {l' : List Cl}, HdA X hds' l' → wM X.K W D l' cls d σ' H' → wpAny (model X.prog X.w) X.A (handleBy (.ref a) X.env hds') (SP X pins D) X.xe { s' with heap := h3 } := by
      intro hds' l' hk
      induction hk with
      | nil =>
        intro w
        refine wpAny_handleBy_nil ?_
        obtain ⟨_, _, _, oe', vs', T, oT, ts', he', _, hd', h1, _⟩ := id fl
        unfold PySem.passOn
        refine wpAny_bind (wpAny_field he' hd' h1 ?_)
        rw [if_neg (show ¬ ((Value.ref T == Value.none) = true) from by simp)]
        have out : wpAny (model X.prog X.w) X.A (setFlight (.ref a) X.env.frame) (fun _ s4 => wpAny (model X.prog X.w) X.A (throw (.ref a) : Sem Flow) (SP X pins D) X.xe s4) X.xe { s' with heap := h3 } := by
          rw [hf]
          exact HandSPX.setFlight_upZ fl fun h4 hh4 up4 => wpAny_throw (tk _ _ ⟨a, B, sI, pins, σ', H', cls, d, rfl, J, nb, (up.trans up3).trans up4, .inr (.inr (by rw [hs]; exact hh4)), na, os, ag, w⟩)
        first
          | exact wpAny_bind (wpAny_pure (wpAny_bind out))
          | exact wpAny_bind out
      | @cons x nm c i ts b0 su np pos' hs2 l2 hm hg hdb hi hln hsu r ih =>
        intro w
        obtain ⟨b, hb1, hyes, hno⟩ := w.run
        refine wpAny_handleBy_cons (codeAny_handlers_test ?_) (by intro q; cases q)
        have LM := PySem.W.exm_one (M := model X.prog X.w) J3.kIn LT hb1
        refine ld_glob (X := X.suite a ((a, oe) :: (X.pn ++ pins))) S3 hg hm (LM.here ?_) hdb
        cases b with
        | true =>
          refine codeAny_handlers_suite_as (HandSPX.lands_againZ fl fun h4 fl4 up4 => ?_)
          have J4 : Inv X pins σ' H' { s' with heap := h4 } := J.landed nb fl4.1 ((up.trans up3).trans up4) os ag
          obtain ⟨oe4, vs4, he4, hz4, hd4⟩ := fl4.there
          refine store_ok (X := X.suite a ((a, oe4) :: (X.pn ++ pins))) (v := .ref a) (J4.suite he4 hd4 na nL nF) hN hi (.inl hln) rfl (fun s5 S5 => ?_) (.inr hln)
          refine wpAny_mono ((hsu a oe4 cls d (X.pn ++ pins) hz4 ⟨_, hd4⟩).run [] s5 _ H' _ S5 (hyes rfl a na)) (fun f s6 y => ?_) (fun _ _ z => False.elim z)
          have fin : ∀ {σ6 : L2.St} {H6 : Hp} {R : Shared → Prop}, Inv (X.suite a ((a, oe4) :: (X.pn ++ pins))) [] σ6 H6 s6 → (∀ s7, Inv X pins (σ6.set i none) H6 s7 → R s7) → wpAny (model X.prog X.w) X.A (do bindName X.env nm .none; unbindBehindTheSuite X.env nm pos') (fun _ s7 => R s7) X.xe s6 :=
            fun S6 hq => gone_ok (S6.unsuite ok) hN hi hln hq
          cases f with
          | next => obtain ⟨σ6, H6, S6, q⟩ := y; exact fin S6 fun s7 J7 => ⟨_, _, J7, q⟩
          | brk => obtain ⟨σ6, H6, S6, q⟩ := y; exact fin S6 fun s7 J7 => ⟨_, _, J7, q⟩
          | cont => obtain ⟨σ6, H6, S6, q⟩ := y; exact fin S6 fun s7 J7 => ⟨_, _, J7, q⟩
          | ret u => obtain ⟨v6, σ6, H6, S6, r6, q⟩ := y; exact fin S6 fun s7 J7 => ⟨_, _, _, J7, r6, q⟩
        | false =>
          show wpAny _ X.A (handleBy (.ref a) X.env hs2) _ _ _
          exact ih (hno rfl)
    exact go hh w
  · cases f with
    | next => obtain ⟨σ', H', J', q⟩ := z; exact wpAny_execs_nil ⟨σ', H', J'.ofTry ok, q⟩
    | brk => obtain ⟨σ', H', J', q⟩ := z; exact ⟨σ', H', J'.ofTry ok, q⟩
    | cont => obtain ⟨σ', H', J', q⟩ := z; exact ⟨σ', H', J'.ofTry ok, q⟩
    | ret u => obtain ⟨v, σ', H', J', r, q⟩ := z; exact ⟨v, σ', H', J'.ofTry ok, r, q⟩
end Z
namespace Z
open PySem PySem.Spec PyProof.Rows L2
theorem tyo_same {K : PySem.W.Frag} {H H' : Hp} (s : Same H H') {x : V} {t : Value} : TyOf K H x t → TyOf K H' x t
  | .non => .non
  | .bl b => .bl b
  | .int i => .int i
  | .str i => .str i
  | .flt i => .flt i
  | .lst e => .lst (s _ _ e)
  | .frz e => .frz (s _ _ e)
  | .tup e => .tup (s _ _ e)
  | .dK e => .dK (s _ _ e)
  | .dT e => .dT (s _ _ e)
  | .ins e c h1 h2 h3 h4 => .ins (s _ _ e) c h1 h2 h3 h4
theorem tyx_same {K : PySem.W.Frag} {H H' : Hp} (s : Same H H') {x : V} {t : Value} : TyX K H x t → TyX K H' x t
  | .base h => .base (tyo_same s h)
  | .byt b => .byt b
  | .set e => .set (s _ _ e)
  | .kList e c => .kList e c
  | .kTuple e c => .kTuple e c
  | .kDict e c => .kDict e c
  | .fTuple e => .fTuple (s _ _ e)
  | .fDict e => .fDict (s _ _ e)
end Z

namespace Pf
open PySem PySem.Spec PyProof.Rows L2 Z ZE
def topS (i : Nat) : Stmt := PySem.Challenge.pw_searchloops_k03_rows_refused.main.body.getD i (.Pass ⟨0, 0, 0, 0⟩)
abbrev s_is_integer : Stmt := topS 8
theorem sc_is_integer : FnScope ["value"] ["value"] (defScope s_is_integer) := ⟨rfl, rfl, rfl, by decide +kernel, rfl, by decide +kernel, by decide +kernel⟩
abbrev s_Row_init : Stmt := inClass (topS 11) 0
theorem sc_Row_init : FnScope ["self", "length", "below", "upto"] ["self", "length", "below", "upto"] (defScope s_Row_init) := ⟨rfl, rfl, rfl, by decide +kernel, rfl, by decide +kernel, by decide +kernel⟩
abbrev s__law_store : Stmt := topS 13
theorem sc__law_store : FnScope ["_law_script", "_law_mixed", "_law_cell"] ["_law_script"] (defScope s__law_store) := ⟨rfl, rfl, rfl, by decide +kernel, rfl, by decide +kernel, by decide +kernel⟩
abbrev s__law_pick : Stmt := topS 14
theorem sc__law_pick : FnScope ["_law_store_here", "_law_many", "_law_rest", "_law_digit", "_law_old"] ["_law_store_here", "_law_many"] (defScope s__law_pick) := ⟨rfl, rfl, rfl, by decide +kernel, rfl, by decide +kernel, by decide +kernel⟩
abbrev s__law_odd : Stmt := topS 15
theorem sc__law_odd : FnScope ["_law_store_here"] ["_law_store_here"] (defScope s__law_odd) := ⟨rfl, rfl, rfl, by decide +kernel, rfl, by decide +kernel, by decide +kernel⟩
abbrev s__law_number : Stmt := topS 16
theorem sc__law_number : FnScope ["_law_store_here", "_law_low", "_law_high", "_law_way"] ["_law_store_here", "_law_low", "_law_high"] (defScope s__law_number) := ⟨rfl, rfl, rfl, by decide +kernel, rfl, by decide +kernel, by decide +kernel⟩
abbrev s__law_told : Stmt := topS 17
theorem sc__law_told : FnScope ["_law_n", "_law_t", "_law_u", "e"] ["_law_n", "_law_t", "_law_u"] (defScope s__law_told) := ⟨rfl, rfl, rfl, by decide +kernel, rfl, by decide +kernel, by decide +kernel⟩
abbrev s__law_whole : Stmt := topS 18
theorem sc__law_whole : FnScope ["_law_sought"] ["_law_sought"] (defScope s__law_whole) := ⟨rfl, rfl, rfl, by decide +kernel, rfl, by decide +kernel, by decide +kernel⟩
abbrev s_law : Stmt := topS 19
theorem sc_law : FnScope ["_law_script", "_law_store_here", "_law_turn", "_law_n", "_law_top", "_law_t", "_law_low", "_law_u", "_law_due"] ["_law_script"] (defScope s_law) := ⟨rfl, rfl, rfl, by decide +kernel, rfl, by decide +kernel, by decide +kernel⟩
abbrev s_InvalidLength_init : Stmt := inClass (topS 3) 0
theorem exs_InvalidLength : ExS s_InvalidLength_init "InvalidLength.__init__" ["self", "value"] [("value", "value")] := ⟨⟨_, _, _, _, _, _, rfl, (.cons .nil), fun _ => ⟨_, rfl⟩⟩, ⟨_, rfl, rfl⟩, by decide +kernel, by decide +kernel, by decide +kernel, by decide +kernel, rfl, rfl, rfl, by decide +kernel, ⟨_, rfl⟩, by decide +kernel, by decide +kernel, fun _ _ _ _ _ _ _ us h => match us, h with | [_, _], _ => rfl⟩
def fl_InvalidLength {α : Type} : List α → List (Str × α)
  | [x0] => [("value", x0)]
  | _ => []
theorem exf_InvalidLength : ExF ["self", "value"] [("value", "value")] ["value"] fl_InvalidLength := ⟨fun x us h => match us, h with | [_], _ => (.cons ⟨rfl, by decide +kernel, 1, rfl, rfl⟩ .nil), fun vs us h r => match vs, us, h, r with | [_], [_], _, (.cons x0 .nil) => (.cons ⟨rfl, x0⟩ .nil), fun vs => match vs with
    | [] => List.Pairwise.nil
    | [_] => (by decide +kernel : (["value"] : List Str).Nodup)
    | _ :: _ :: _ => List.Pairwise.nil, by decide, by decide, by decide⟩
abbrev s_InvalidPlace_init : Stmt := inClass (topS 4) 0
theorem exs_InvalidPlace : ExS s_InvalidPlace_init "InvalidPlace.__init__" ["self", "value"] [("value", "value")] := ⟨⟨_, _, _, _, _, _, rfl, (.cons .nil), fun _ => ⟨_, rfl⟩⟩, ⟨_, rfl, rfl⟩, by decide +kernel, by decide +kernel, by decide +kernel, by decide +kernel, rfl, rfl, rfl, by decide +kernel, ⟨_, rfl⟩, by decide +kernel, by decide +kernel, fun _ _ _ _ _ _ _ us h => match us, h with | [_, _], _ => rfl⟩
def fl_InvalidPlace {α : Type} : List α → List (Str × α)
  | [x0] => [("value", x0)]
  | _ => []
theorem exf_InvalidPlace : ExF ["self", "value"] [("value", "value")] ["value"] fl_InvalidPlace := ⟨fun x us h => match us, h with | [_], _ => (.cons ⟨rfl, by decide +kernel, 1, rfl, rfl⟩ .nil), fun vs us h r => match vs, us, h, r with | [_], [_], _, (.cons x0 .nil) => (.cons ⟨rfl, x0⟩ .nil), fun vs => match vs with
    | [] => List.Pairwise.nil
    | [_] => (by decide +kernel : (["value"] : List Str).Nodup)
    | _ :: _ :: _ => List.Pairwise.nil, by decide, by decide, by decide⟩
structure Wd (P : Program) (K : PySem.W.Frag) (mg : Str → Option Value) where
  a_is_integer : Addr
  fd_is_integer : FuncData
  F_is_integer : FunD K "is_integer" "is_integer" (defArgs s_is_integer) (defBody s_is_integer) (defScope s_is_integer) [] [] a_is_integer fd_is_integer
  B_is_integer : Binds K fd_is_integer ["value"] []
  h_is_integer : mg "is_integer" = some (.ref a_is_integer)
  k_is_integer : PySem.W.keepIn K (.ref a_is_integer) = true
  a_Row_init : Addr
  fd_Row_init : FuncData
  F_Row_init : FunD K "__init__" "Row.__init__" (defArgs s_Row_init) (defBody s_Row_init) (defScope s_Row_init) [] [] a_Row_init fd_Row_init
  B_Row_init : Binds K fd_Row_init ["self", "length", "below", "upto"] []
  a__law_store : Addr
  fd__law_store : FuncData
  F__law_store : FunD K "_law_store" "_law_store" (defArgs s__law_store) (defBody s__law_store) (defScope s__law_store) [] [] a__law_store fd__law_store
  B__law_store : Binds K fd__law_store ["_law_script"] []
  h__law_store : mg "_law_store" = some (.ref a__law_store)
  k__law_store : PySem.W.keepIn K (.ref a__law_store) = true
  a__law_pick : Addr
  fd__law_pick : FuncData
  F__law_pick : FunD K "_law_pick" "_law_pick" (defArgs s__law_pick) (defBody s__law_pick) (defScope s__law_pick) [] [] a__law_pick fd__law_pick
  B__law_pick : Binds K fd__law_pick ["_law_store_here", "_law_many"] []
  h__law_pick : mg "_law_pick" = some (.ref a__law_pick)
  k__law_pick : PySem.W.keepIn K (.ref a__law_pick) = true
  a__law_odd : Addr
  fd__law_odd : FuncData
  F__law_odd : FunD K "_law_odd" "_law_odd" (defArgs s__law_odd) (defBody s__law_odd) (defScope s__law_odd) [] [] a__law_odd fd__law_odd
  B__law_odd : Binds K fd__law_odd ["_law_store_here"] []
  h__law_odd : mg "_law_odd" = some (.ref a__law_odd)
  k__law_odd : PySem.W.keepIn K (.ref a__law_odd) = true
  a__law_number : Addr
  fd__law_number : FuncData
  F__law_number : FunD K "_law_number" "_law_number" (defArgs s__law_number) (defBody s__law_number) (defScope s__law_number) [] [] a__law_number fd__law_number
  B__law_number : Binds K fd__law_number ["_law_store_here", "_law_low", "_law_high"] []
  h__law_number : mg "_law_number" = some (.ref a__law_number)
  k__law_number : PySem.W.keepIn K (.ref a__law_number) = true
  a__law_told : Addr
  fd__law_told : FuncData
  F__law_told : FunD K "_law_told" "_law_told" (defArgs s__law_told) (defBody s__law_told) (defScope s__law_told) [] [] a__law_told fd__law_told
  B__law_told : Binds K fd__law_told ["_law_n", "_law_t", "_law_u"] []
  h__law_told : mg "_law_told" = some (.ref a__law_told)
  k__law_told : PySem.W.keepIn K (.ref a__law_told) = true
  a__law_whole : Addr
  fd__law_whole : FuncData
  F__law_whole : FunD K "_law_whole" "_law_whole" (defArgs s__law_whole) (defBody s__law_whole) (defScope s__law_whole) [] [] a__law_whole fd__law_whole
  B__law_whole : Binds K fd__law_whole ["_law_sought"] []
  h__law_whole : mg "_law_whole" = some (.ref a__law_whole)
  k__law_whole : PySem.W.keepIn K (.ref a__law_whole) = true
  a_law : Addr
  fd_law : FuncData
  F_law : FunD K "law" "law" (defArgs s_law) (defBody s_law) (defScope s_law) [] [] a_law fd_law
  B_law : Binds K fd_law ["_law_script"] []
  h_law : mg "law" = some (.ref a_law)
  k_law : PySem.W.keepIn K (.ref a_law) = true
  a_Row : Addr
  h_Row : mg "Row" = some (.ref a_Row)
  k_Row : PySem.W.keepIn K (.ref a_Row) = true
  c_Row : Cls K a_Row
  M_Row : Mk K a_Row a_Row_init
  n_Row_place : NoAttr K a_Row "place"
  a_InvalidLength : Addr
  ai_InvalidLength : Addr
  h_InvalidLength : mg "InvalidLength" = some (.ref a_InvalidLength)
  T_InvalidLength : ExT P K s_InvalidLength_init "InvalidLength.__init__" a_InvalidLength ai_InvalidLength ["value"] famVE.B famVE.newId famVE.i famVE.bm
  a_InvalidPlace : Addr
  ai_InvalidPlace : Addr
  h_InvalidPlace : mg "InvalidPlace" = some (.ref a_InvalidPlace)
  T_InvalidPlace : ExT P K s_InvalidPlace_init "InvalidPlace.__init__" a_InvalidPlace ai_InvalidPlace ["value"] famVE.B famVE.newId famVE.i famVE.bm
  m_InvalidLength_InvalidLength : PySem.W.exmOne K (.ref a_InvalidLength) (.ref a_InvalidLength) = some true
  m_InvalidPlace_InvalidLength : PySem.W.exmOne K (.ref a_InvalidPlace) (.ref a_InvalidLength) = some false
  m_InvalidPlace_InvalidPlace : PySem.W.exmOne K (.ref a_InvalidPlace) (.ref a_InvalidPlace) = some true
  r_InvalidPlace_value : ExRead K a_InvalidPlace "value"
  r_InvalidLength_value : ExRead K a_InvalidLength "value"
  b_abs : mg "abs" = none
  b_bool : mg "bool" = none
  b_divmod : mg "divmod" = none
  b_int : mg "int" = none
  b_isinstance : mg "isinstance" = none
  b_range : mg "range" = none
  b_repr : mg "repr" = none
  b_super : mg "super" = none

section
variable {P : Program} {w : World} {K : PySem.W.Frag} {mg : Str → Option Value} {base : Heap}

def t_is_integer (D : Wd P K mg) (n : En) (W : WX) : TS := (tRet (tAndU n (tCB (vCB n (.builtin "isinstance")) (tCons (tV 0) (tCons (tC (.ty "int")) tNil))) (tNotU n (tCB (vCB n (.builtin "isinstance")) (tCons (tV 0) (tCons (tC (.ty "bool")) tNil))))))
theorem d_is_integer (D : Wd P K mg) (cdv : Value) (A : Around) (outer : List Env) (s : Shared) (H : Hp) (E : XK) (f : Addr) (o : Of ⟨P, w, K, mg, base, A.deeper (envOfC "is_integer" (defScope s_is_integer) s.heap.objs.size f cdv)⟩ (cxOf (L2.CX P w) P w K mg base ["value"] "is_integer" (defScope s_is_integer) f cdv A outer s H E))
    (tk : Takes (cxOf (L2.CX P w) P w K mg base ["value"] "is_integer" (defScope s_is_integer) f cdv A outer s H E) (fun cls d _ H => E cls d H)) :
    PSs (cxOf (L2.CX P w) P w K mg base ["value"] "is_integer" (defScope s_is_integer) f cdv A outer s H E) (defBody s_is_integer) (t_is_integer D ⟨P, w, K, mg, base, A.deeper (envOfC "is_integer" (defScope s_is_integer) s.heap.objs.size f cdv)⟩ (fun cls d _ H => E cls d H)) := by
  have hp : PassesOwn (model (cxOf (L2.CX P w) P w K mg base ["value"] "is_integer" (defScope s_is_integer) f cdv A outer s H E).prog (cxOf (L2.CX P w) P w K mg base ["value"] "is_integer" (defScope s_is_integer) f cdv A outer s H E).w) (cxOf (L2.CX P w) P w K mg base ["value"] "is_integer" (defScope s_is_integer) f cdv A outer s H E).A (cxOf (L2.CX P w) P w K mg base ["value"] "is_integer" (defScope s_is_integer) f cdv A outer s H E).env (cxOf (L2.CX P w) P w K mg base ["value"] "is_integer" (defScope s_is_integer) f cdv A outer s H E).xe := passes_of rfl
  exact (pss_one (ps_ret (z_and o (pe_callB (cbr_v o) (by rfl) D.b_isinstance (by decide +kernel) (pa_cons (zv 0) (pa_cons (pe_bltn (by rfl) D.b_int (by decide +kernel) rfl) pa_nil))) (pe_one (z_not o (pe_callB (cbr_v o) (by rfl) D.b_isinstance (by decide +kernel) (pa_cons (zv 0) (pa_cons (pe_bltn (by rfl) D.b_bool (by decide +kernel) rfl) pa_nil))))))))

def t_Row_init_k0 (D : Wd P K mg) (n : En) (W : WX) : TS := (sFld n.K (tV 0) (uTup (tCons (tV 1) (tCons (tV 2) (tCons (tV 3) tNil)))) "place")
def t_Row_init_k1 (D : Wd P K mg) (n : En) (W : WX) : TS := (tSeq (uIfS (uOr (tNot (tTruU n (tCallU n W (.ref D.a_is_integer) (tCons (tV 3) tNil)))) (tNot (uTest (uChain (vOp n (compareOp .LtE)) (vOp n (compareOp .LtE)) (tV 2) (tV 3) (tV 1))))) (tRaiseU W D.a_InvalidPlace 1 fl_InvalidPlace (tCons (tV 3) tNil)) tNext)
  (t_Row_init_k0 D n W))
def t_Row_init_k2 (D : Wd P K mg) (n : En) (W : WX) : TS := (tSeq (uIfS (uOr (tNot (tTruU n (tCallU n W (.ref D.a_is_integer) (tCons (tV 2) tNil)))) (tNot (uTest (uChain (vOp n (compareOp .LtE)) (vOp n (compareOp .LtE)) (tC (.int 0)) (tV 2) (tV 1))))) (tRaiseU W D.a_InvalidPlace 1 fl_InvalidPlace (tCons (tV 2) tNil)) tNext)
  (t_Row_init_k1 D n W))
def t_Row_init (D : Wd P K mg) (n : En) (W : WX) : TS := (tSeq (uIfS (uOr (tNot (tTruU n (tCallU n W (.ref D.a_is_integer) (tCons (tV 1) tNil)))) (uTest (tOp (vOp n (compareOp .Lt)) (tV 1) (tC (.int 0))))) (tRaiseU W D.a_InvalidLength 1 fl_InvalidLength (tCons (tV 1) tNil)) tNext)
  (t_Row_init_k2 D n W))
theorem d_Row_init (D : Wd P K mg) (cdv : Value) (A : Around) (outer : List Env) (s : Shared) (H : Hp) (E : XK) (f : Addr) (o : Of ⟨P, w, K, mg, base, A.deeper (envOfC "Row.__init__" (defScope s_Row_init) s.heap.objs.size f cdv)⟩ (cxOf (L2.CX P w) P w K mg base ["self", "length", "below", "upto"] "Row.__init__" (defScope s_Row_init) f cdv A outer s H E))
    (tk : Takes (cxOf (L2.CX P w) P w K mg base ["self", "length", "below", "upto"] "Row.__init__" (defScope s_Row_init) f cdv A outer s H E) (fun cls d _ H => E cls d H)) :
    PSs (cxOf (L2.CX P w) P w K mg base ["self", "length", "below", "upto"] "Row.__init__" (defScope s_Row_init) f cdv A outer s H E) (defBody s_Row_init) (t_Row_init D ⟨P, w, K, mg, base, A.deeper (envOfC "Row.__init__" (defScope s_Row_init) s.heap.objs.size f cdv)⟩ (fun cls d _ H => E cls d H)) := by
  have hp : PassesOwn (model (cxOf (L2.CX P w) P w K mg base ["self", "length", "below", "upto"] "Row.__init__" (defScope s_Row_init) f cdv A outer s H E).prog (cxOf (L2.CX P w) P w K mg base ["self", "length", "below", "upto"] "Row.__init__" (defScope s_Row_init) f cdv A outer s H E).w) (cxOf (L2.CX P w) P w K mg base ["self", "length", "below", "upto"] "Row.__init__" (defScope s_Row_init) f cdv A outer s H E).A (cxOf (L2.CX P w) P w K mg base ["self", "length", "below", "upto"] "Row.__init__" (defScope s_Row_init) f cdv A outer s H E).env (cxOf (L2.CX P w) P w K mg base ["self", "length", "below", "upto"] "Row.__init__" (defScope s_Row_init) f cdv A outer s H E).xe := passes_of rfl
  exact (pss_cons (z_if (PW.pt (zw_or (pt_not (z_tru o (z_call o tk D.h_is_integer D.k_is_integer (pa_cons (zv 1) pa_nil)))) (pw_or1 (z_cmpT (opr_v o) (zv 1) pe_int (nomark _))))) (pss_one (z_raise o tk exs_InvalidLength D.T_InvalidLength exf_InvalidLength (m := 1) rfl D.h_InvalidLength D.b_super (pa_cons (zv 1) pa_nil))) pss_nil)
  (pss_cons (z_if (PW.pt (zw_or (pt_not (z_tru o (z_call o tk D.h_is_integer D.k_is_integer (pa_cons (zv 2) pa_nil)))) (pw_or1 (pt_not (z_chainT (opr_v o) (opr_v o) pe_int (zv 2) (zv 1)))))) (pss_one (z_raise o tk exs_InvalidPlace D.T_InvalidPlace exf_InvalidPlace (m := 1) rfl D.h_InvalidPlace D.b_super (pa_cons (zv 2) pa_nil))) pss_nil)
  (pss_cons (z_if (PW.pt (zw_or (pt_not (z_tru o (z_call o tk D.h_is_integer D.k_is_integer (pa_cons (zv 3) pa_nil)))) (pw_or1 (pt_not (z_chainT (opr_v o) (opr_v o) (zv 2) (zv 3) (zv 1)))))) (pss_one (z_raise o tk exs_InvalidPlace D.T_InvalidPlace exf_InvalidPlace (m := 1) rfl D.h_InvalidPlace D.b_super (pa_cons (zv 3) pa_nil))) pss_nil)
  (pss_one (ps_fld (zv 0) (z_tup (pa_cons (zv 1) (pa_cons (zv 2) (pa_cons (zv 3) pa_nil)))) rfl)))))

def t__law_store_k0 (D : Wd P K mg) (n : En) (W : WX) : TS := (tAsg (tOp (vOp n (binaryOp .Mod)) (tCB (vCB n (.type "int")) (tCons (tOp (vOp n (binaryOp .Add)) (tOp (vOp n (binaryOp .Add)) (tOp (vOp n (binaryOp .Mult)) (tV 1) (tC (.int 48271))) (tCB (vCB n (.type "int")) (tCons (tV 2) tNil))) (tC (.int 7))) tNil)) (tC (.int 2147483647))) (gName 1))
def t__law_store_k1 (D : Wd P K mg) (n : En) (W : WX) : TS := (tRet (uLst (tCons (tV 1) (tCons (uLcL n.K (tSl (vSl n) (tV 0) tNoPart (uPart (tC (.int 60)))) (gName 2) (tNot (uTest (uChain (vOp n (compareOp .Lt)) (vOp n (compareOp .Lt)) (tUn (vUn n (unaryOp .USub)) (tC (.int 1000000))) (tV 2) (tC (.int 1000000))))) (tCB (vCB n (.builtin "abs")) (tCons (tV 2) tNil)) [2]) (tCons (tC (.int 0)) tNil)))))
def t__law_store (D : Wd P K mg) (n : En) (W : WX) : TS := (tSeq (tAsg (tC (.int 11)) (gName 1))
  (tSeq (uForL n.K (tSl (vSl n) (tV 0) tNoPart (uPart (tC (.int 60)))) (gName 2) (t__law_store_k0 D n W))
  (t__law_store_k1 D n W)))
theorem d__law_store (D : Wd P K mg) (cdv : Value) (A : Around) (outer : List Env) (s : Shared) (H : Hp) (E : XK) (f : Addr) (o : Of ⟨P, w, K, mg, base, A.deeper (envOfC "_law_store" (defScope s__law_store) s.heap.objs.size f cdv)⟩ (cxOf (L2.CX P w) P w K mg base ["_law_script", "_law_mixed", "_law_cell"] "_law_store" (defScope s__law_store) f cdv A outer s H E))
    (tk : Takes (cxOf (L2.CX P w) P w K mg base ["_law_script", "_law_mixed", "_law_cell"] "_law_store" (defScope s__law_store) f cdv A outer s H E) (fun cls d _ H => E cls d H)) :
    PSs (cxOf (L2.CX P w) P w K mg base ["_law_script", "_law_mixed", "_law_cell"] "_law_store" (defScope s__law_store) f cdv A outer s H E) (defBody s__law_store) (t__law_store D ⟨P, w, K, mg, base, A.deeper (envOfC "_law_store" (defScope s__law_store) s.heap.objs.size f cdv)⟩ (fun cls d _ H => E cls d H)) := by
  have hp : PassesOwn (model (cxOf (L2.CX P w) P w K mg base ["_law_script", "_law_mixed", "_law_cell"] "_law_store" (defScope s__law_store) f cdv A outer s H E).prog (cxOf (L2.CX P w) P w K mg base ["_law_script", "_law_mixed", "_law_cell"] "_law_store" (defScope s__law_store) f cdv A outer s H E).w) (cxOf (L2.CX P w) P w K mg base ["_law_script", "_law_mixed", "_law_cell"] "_law_store" (defScope s__law_store) f cdv A outer s H E).A (cxOf (L2.CX P w) P w K mg base ["_law_script", "_law_mixed", "_law_cell"] "_law_store" (defScope s__law_store) f cdv A outer s H E).env (cxOf (L2.CX P w) P w K mg base ["_law_script", "_law_mixed", "_law_cell"] "_law_store" (defScope s__law_store) f cdv A outer s H E).xe := passes_of rfl
  exact (pss_cons (ps_set (i := 1) sc__law_store.nd rfl (by first | exact Or.inl rfl | exact Or.inr rfl) pe_int)
  (pss_cons (c_forL (ps_for hp rfl (pi_list (pe_slice (slr_v o) (zv 0) po_none (z_part pe_int))) (pg_name (i := 2) sc__law_store.nd rfl (by first | exact Or.inl rfl | exact Or.inr rfl)) (pss_one (ps_set (i := 1) sc__law_store.nd rfl (by first | exact Or.inl rfl | exact Or.inr rfl) (pe_op (opr_v o) (pe_callTy (cbr_v o) (by rfl) D.b_int (by decide +kernel) (pa_cons (pe_op (opr_v o) (pe_op (opr_v o) (pe_op (opr_v o) (zv 1) pe_int) (pe_callTy (cbr_v o) (by rfl) D.b_int (by decide +kernel) (pa_cons (zv 2) pa_nil))) pe_int) pa_nil)) pe_int)))))
  (pss_one (ps_ret (z_lst (pa_cons (zv 1) (pa_cons (c_lcL (pe_lc (own := [("_law_cell", 2)]) rfl sc__law_store.nd (pi_list (pe_slice (slr_v o) (zv 0) po_none (z_part pe_int))) (blkOk_by (own := [("_law_cell", 2)]) (N := ["_law_script", "_law_mixed", "_law_cell"]) (sc := defScope s__law_store) (by decide +kernel)) (fun _ _ _ _ _ => (pg_name (i := 2) sc__law_store.nd rfl (by first | exact Or.inl rfl | exact Or.inr rfl))) (fun _ _ _ _ _ => (pts_one (pt_not (z_chainT (opr_v (of_blk o)) (opr_v (of_blk o)) (pe_un (unr_v (of_blk o)) pe_int) (zv 2) pe_int)))) (fun _ _ _ _ _ => (pe_callB (cbr_v (of_blk o)) (by rfl) D.b_abs (by decide +kernel) (pa_cons (zv 2) pa_nil))))) (pa_cons pe_int pa_nil))))))))

def t__law_pick_k0 (D : Wd P K mg) (n : En) (W : WX) : TS := (tSeq (tAsg (tCB (vCB n (.type "int")) (tCons (tOp (vIx n) (tV 0) (tC (.int 0))) tNil)) (gName 4))
  (tSeq (tAsg (tOp (vOp n (binaryOp .Mod)) (tCB (vCB n (.type "int")) (tCons (tOp (vOp n (binaryOp .Add)) (tOp (vOp n (binaryOp .Add)) (tOp (vOp n (binaryOp .Mult)) (tV 4) (tC (.int 16807))) (tOp (vOp n (binaryOp .Mult)) (tC (.int 131)) (tOp (vIx n) (tV 0) (tC (.int 2))))) (tOp (vOp n (binaryOp .Mod)) (tCB (vCB n (.type "int")) (tCons (tV 4) tNil)) (tC (.int 1009)))) tNil)) (tC (.int 2147483647))) (gSub (tV 0) (tC (.int 0)) (vSet n)))
  (tRet (tOp (vOp n (binaryOp .Mod)) (tCB (vCB n (.type "int")) (tCons (tOp (vOp n (binaryOp .FloorDiv)) (tOp (vIx n) (tV 0) (tC (.int 0))) (tC (.int 97))) tNil)) (tV 1)))))
def t__law_pick (D : Wd P K mg) (n : En) (W : WX) : TS := (tSeq (tAsg (tOp (vOp n (binaryOp .Add)) (tOp (vIx n) (tV 0) (tC (.int 2))) (tC (.int 1))) (gSub (tV 0) (tC (.int 2)) (vSet n)))
  (tSeq (uIfS (uTest (tOp (vOp n (compareOp .NotEq)) (tOp (vIx n) (tV 0) (tC (.int 1))) (uLst tNil))) (tSeq (tAsg (tCB (vCB n (.builtin "divmod")) (tCons (tOp (vIx n) (tOp (vIx n) (tV 0) (tC (.int 1))) (tC (.int 0))) (tCons (tV 1) tNil))) (uTupG n.K 2 (uCons (gName 2) (uCons (gName 3) uNil))))
  (tSeq (tAsg (tOp (vOp n (binaryOp .Add)) (uIf (uTest (tOp (vOp n (compareOp .Gt)) (tV 2) (tC (.int 0)))) (uLst (tCons (tV 2) tNil)) (uLst tNil)) (tSl (vSl n) (tOp (vIx n) (tV 0) (tC (.int 1))) (uPart (tC (.int 1))) tNoPart)) (gSub (tV 0) (tC (.int 1)) (vSet n)))
  (tRet (tV 3)))) tNext)
  (t__law_pick_k0 D n W)))
theorem d__law_pick (D : Wd P K mg) (cdv : Value) (A : Around) (outer : List Env) (s : Shared) (H : Hp) (E : XK) (f : Addr) (o : Of ⟨P, w, K, mg, base, A.deeper (envOfC "_law_pick" (defScope s__law_pick) s.heap.objs.size f cdv)⟩ (cxOf (L2.CX P w) P w K mg base ["_law_store_here", "_law_many", "_law_rest", "_law_digit", "_law_old"] "_law_pick" (defScope s__law_pick) f cdv A outer s H E))
    (tk : Takes (cxOf (L2.CX P w) P w K mg base ["_law_store_here", "_law_many", "_law_rest", "_law_digit", "_law_old"] "_law_pick" (defScope s__law_pick) f cdv A outer s H E) (fun cls d _ H => E cls d H)) :
    PSs (cxOf (L2.CX P w) P w K mg base ["_law_store_here", "_law_many", "_law_rest", "_law_digit", "_law_old"] "_law_pick" (defScope s__law_pick) f cdv A outer s H E) (defBody s__law_pick) (t__law_pick D ⟨P, w, K, mg, base, A.deeper (envOfC "_law_pick" (defScope s__law_pick) s.heap.objs.size f cdv)⟩ (fun cls d _ H => E cls d H)) := by
  have hp : PassesOwn (model (cxOf (L2.CX P w) P w K mg base ["_law_store_here", "_law_many", "_law_rest", "_law_digit", "_law_old"] "_law_pick" (defScope s__law_pick) f cdv A outer s H E).prog (cxOf (L2.CX P w) P w K mg base ["_law_store_here", "_law_many", "_law_rest", "_law_digit", "_law_old"] "_law_pick" (defScope s__law_pick) f cdv A outer s H E).w) (cxOf (L2.CX P w) P w K mg base ["_law_store_here", "_law_many", "_law_rest", "_law_digit", "_law_old"] "_law_pick" (defScope s__law_pick) f cdv A outer s H E).A (cxOf (L2.CX P w) P w K mg base ["_law_store_here", "_law_many", "_law_rest", "_law_digit", "_law_old"] "_law_pick" (defScope s__law_pick) f cdv A outer s H E).env (cxOf (L2.CX P w) P w K mg base ["_law_store_here", "_law_many", "_law_rest", "_law_digit", "_law_old"] "_law_pick" (defScope s__law_pick) f cdv A outer s H E).xe := passes_of rfl
  exact (pss_cons (ps_asg (pe_op (opr_v o) (pe_ix (ixr_v o) (zv 0) pe_int (fun _ _ => rfl)) pe_int) (pg_sub (zv 0) pe_int (set_v o)))
  (pss_cons (z_if (z_cmpT (opr_v o) (pe_ix (ixr_v o) (zv 0) pe_int (fun _ _ => rfl)) (z_lst pa_nil) (nomark _)) (pss_cons (ps_asg (pe_callB (cbr_v o) (by rfl) D.b_divmod (by decide +kernel) (pa_cons (pe_ix (ixr_v o) (pe_ix (ixr_v o) (zv 0) pe_int (fun _ _ => rfl)) pe_int (fun _ _ => rfl)) (pa_cons (zv 1) pa_nil))) (c_tup (pg_tup rfl (c_cons (pgs_cons (pg_name (i := 2) sc__law_pick.nd rfl (by first | exact Or.inl rfl | exact Or.inr rfl)) (c_cons (pgs_cons (pg_name (i := 3) sc__law_pick.nd rfl (by first | exact Or.inl rfl | exact Or.inr rfl)) (c_nil pgs_nil))))))))
  (pss_cons (ps_asg (pe_op (opr_v o) (z_ifE (z_cmpT (opr_v o) (zv 2) pe_int (nomark _)) (z_lst (pa_cons (zv 2) pa_nil)) (z_lst pa_nil)) (pe_slice (slr_v o) (pe_ix (ixr_v o) (zv 0) pe_int (fun _ _ => rfl)) (z_part pe_int) po_none)) (pg_sub (zv 0) pe_int (set_v o)))
  (pss_one (ps_ret (zv 3))))) pss_nil)
  (pss_cons (ps_set (i := 4) sc__law_pick.nd rfl (by first | exact Or.inl rfl | exact Or.inr rfl) (pe_callTy (cbr_v o) (by rfl) D.b_int (by decide +kernel) (pa_cons (pe_ix (ixr_v o) (zv 0) pe_int (fun _ _ => rfl)) pa_nil)))
  (pss_cons (ps_asg (pe_op (opr_v o) (pe_callTy (cbr_v o) (by rfl) D.b_int (by decide +kernel) (pa_cons (pe_op (opr_v o) (pe_op (opr_v o) (pe_op (opr_v o) (zv 4) pe_int) (pe_op (opr_v o) pe_int (pe_ix (ixr_v o) (zv 0) pe_int (fun _ _ => rfl)))) (pe_op (opr_v o) (pe_callTy (cbr_v o) (by rfl) D.b_int (by decide +kernel) (pa_cons (zv 4) pa_nil)) pe_int)) pa_nil)) pe_int) (pg_sub (zv 0) pe_int (set_v o)))
  (pss_one (ps_ret (pe_op (opr_v o) (pe_callTy (cbr_v o) (by rfl) D.b_int (by decide +kernel) (pa_cons (pe_op (opr_v o) (pe_ix (ixr_v o) (zv 0) pe_int (fun _ _ => rfl)) pe_int) pa_nil)) (zv 1))))))))


def t__law_odd (D : Wd P K mg) (n : En) (W : WX) : TS := (tRet (tOp (vIx n) (uLst (tCons (tC .non) (tCons (tC (.bl true)) (tCons (tC (.bl false)) (tCons (tC (.str "3")) (tCons (tC (.str "")) (tCons (uTup (tCons (tC (.int 3)) tNil)) (tCons (uLst tNil) (tCons (uLst (tCons (tC (.int 0)) tNil)) (tCons uDic tNil)))))))))) (tCallU n W (.ref D.a__law_pick) (tCons (tV 0) (tCons (tC (.int 9)) tNil)))))
theorem d__law_odd (D : Wd P K mg) (cdv : Value) (A : Around) (outer : List Env) (s : Shared) (H : Hp) (E : XK) (f : Addr) (o : Of ⟨P, w, K, mg, base, A.deeper (envOfC "_law_odd" (defScope s__law_odd) s.heap.objs.size f cdv)⟩ (cxOf (L2.CX P w) P w K mg base ["_law_store_here"] "_law_odd" (defScope s__law_odd) f cdv A outer s H E))
    (tk : Takes (cxOf (L2.CX P w) P w K mg base ["_law_store_here"] "_law_odd" (defScope s__law_odd) f cdv A outer s H E) (fun cls d _ H => E cls d H)) :
    PSs (cxOf (L2.CX P w) P w K mg base ["_law_store_here"] "_law_odd" (defScope s__law_odd) f cdv A outer s H E) (defBody s__law_odd) (t__law_odd D ⟨P, w, K, mg, base, A.deeper (envOfC "_law_odd" (defScope s__law_odd) s.heap.objs.size f cdv)⟩ (fun cls d _ H => E cls d H)) := by
  have hp : PassesOwn (model (cxOf (L2.CX P w) P w K mg base ["_law_store_here"] "_law_odd" (defScope s__law_odd) f cdv A outer s H E).prog (cxOf (L2.CX P w) P w K mg base ["_law_store_here"] "_law_odd" (defScope s__law_odd) f cdv A outer s H E).w) (cxOf (L2.CX P w) P w K mg base ["_law_store_here"] "_law_odd" (defScope s__law_odd) f cdv A outer s H E).A (cxOf (L2.CX P w) P w K mg base ["_law_store_here"] "_law_odd" (defScope s__law_odd) f cdv A outer s H E).env (cxOf (L2.CX P w) P w K mg base ["_law_store_here"] "_law_odd" (defScope s__law_odd) f cdv A outer s H E).xe := passes_of rfl
  exact (pss_one (ps_ret (pe_ix (ixr_v o) (z_lst (pa_cons pe_non (pa_cons pe_bl (pa_cons pe_bl (pa_cons pe_str (pa_cons pe_str (pa_cons (z_tup (pa_cons pe_int pa_nil)) (pa_cons (z_lst pa_nil) (pa_cons (z_lst (pa_cons pe_int pa_nil)) (pa_cons z_dic pa_nil)))))))))) (z_call o tk D.h__law_pick D.k__law_pick (pa_cons (zv 0) (pa_cons pe_int pa_nil))) (fun _ _ => rfl))))

def t__law_number_k0 (D : Wd P K mg) (n : En) (W : WX) : TS := (tRet (tOp (vIx n) (uLst (tCons (tOp (vOp n (binaryOp .Sub)) (tV 1) (tC (.int 1))) (tCons (tOp (vOp n (binaryOp .Add)) (tV 2) (tC (.int 1))) (tCons (tOp (vOp n (binaryOp .Add)) (tV 2) (tOp (vOp n (binaryOp .Pow)) (tC (.int 10)) (tC (.int 35)))) (tCons (tCallU n W (.ref D.a__law_odd) (tCons (tV 0) tNil)) tNil))))) (tCallU n W (.ref D.a__law_pick) (tCons (tV 0) (tCons (tC (.int 4)) tNil)))))
def t__law_number_k1 (D : Wd P K mg) (n : En) (W : WX) : TS := (tSeq (uIfS (uTest (tOp (vOp n (compareOp .Eq)) (tV 3) (tC (.int 4)))) (tRet (tCallU n W (.ref D.a__law_odd) (tCons (tV 0) tNil))) tNext)
  (t__law_number_k0 D n W))
def t__law_number (D : Wd P K mg) (n : En) (W : WX) : TS := (tSeq (tAsg (tCallU n W (.ref D.a__law_pick) (tCons (tV 0) (tCons (tC (.int 5)) tNil))) (gName 3))
  (tSeq (uIfS (uTest (tOp (vOp n (compareOp .Lt)) (tV 3) (tC (.int 3)))) (tRet (tOp (vOp n (binaryOp .Add)) (tV 1) (tCallU n W (.ref D.a__law_pick) (tCons (tV 0) (tCons (tOp (vOp n (binaryOp .Add)) (tOp (vOp n (binaryOp .Sub)) (tV 2) (tV 1)) (tC (.int 1))) tNil))))) tNext)
  (t__law_number_k1 D n W)))
theorem d__law_number (D : Wd P K mg) (cdv : Value) (A : Around) (outer : List Env) (s : Shared) (H : Hp) (E : XK) (f : Addr) (o : Of ⟨P, w, K, mg, base, A.deeper (envOfC "_law_number" (defScope s__law_number) s.heap.objs.size f cdv)⟩ (cxOf (L2.CX P w) P w K mg base ["_law_store_here", "_law_low", "_law_high", "_law_way"] "_law_number" (defScope s__law_number) f cdv A outer s H E))
    (tk : Takes (cxOf (L2.CX P w) P w K mg base ["_law_store_here", "_law_low", "_law_high", "_law_way"] "_law_number" (defScope s__law_number) f cdv A outer s H E) (fun cls d _ H => E cls d H)) :
    PSs (cxOf (L2.CX P w) P w K mg base ["_law_store_here", "_law_low", "_law_high", "_law_way"] "_law_number" (defScope s__law_number) f cdv A outer s H E) (defBody s__law_number) (t__law_number D ⟨P, w, K, mg, base, A.deeper (envOfC "_law_number" (defScope s__law_number) s.heap.objs.size f cdv)⟩ (fun cls d _ H => E cls d H)) := by
  have hp : PassesOwn (model (cxOf (L2.CX P w) P w K mg base ["_law_store_here", "_law_low", "_law_high", "_law_way"] "_law_number" (defScope s__law_number) f cdv A outer s H E).prog (cxOf (L2.CX P w) P w K mg base ["_law_store_here", "_law_low", "_law_high", "_law_way"] "_law_number" (defScope s__law_number) f cdv A outer s H E).w) (cxOf (L2.CX P w) P w K mg base ["_law_store_here", "_law_low", "_law_high", "_law_way"] "_law_number" (defScope s__law_number) f cdv A outer s H E).A (cxOf (L2.CX P w) P w K mg base ["_law_store_here", "_law_low", "_law_high", "_law_way"] "_law_number" (defScope s__law_number) f cdv A outer s H E).env (cxOf (L2.CX P w) P w K mg base ["_law_store_here", "_law_low", "_law_high", "_law_way"] "_law_number" (defScope s__law_number) f cdv A outer s H E).xe := passes_of rfl
  exact (pss_cons (ps_set (i := 3) sc__law_number.nd rfl (by first | exact Or.inl rfl | exact Or.inr rfl) (z_call o tk D.h__law_pick D.k__law_pick (pa_cons (zv 0) (pa_cons pe_int pa_nil))))
  (pss_cons (z_if (z_cmpT (opr_v o) (zv 3) pe_int (nomark _)) (pss_one (ps_ret (pe_op (opr_v o) (zv 1) (z_call o tk D.h__law_pick D.k__law_pick (pa_cons (zv 0) (pa_cons (pe_op (opr_v o) (pe_op (opr_v o) (zv 2) (zv 1)) pe_int) pa_nil)))))) pss_nil)
  (pss_cons (z_if (z_cmpT (opr_v o) (zv 3) pe_int (nomark _)) (pss_one (ps_ret (z_call o tk D.h__law_odd D.k__law_odd (pa_cons (zv 0) pa_nil)))) pss_nil)
  (pss_one (ps_ret (pe_ix (ixr_v o) (z_lst (pa_cons (pe_op (opr_v o) (zv 1) pe_int) (pa_cons (pe_op (opr_v o) (zv 2) pe_int) (pa_cons (pe_op (opr_v o) (zv 2) (pe_op (opr_v o) pe_int pe_int)) (pa_cons (z_call o tk D.h__law_odd D.k__law_odd (pa_cons (zv 0) pa_nil)) pa_nil))))) (z_call o tk D.h__law_pick D.k__law_pick (pa_cons (zv 0) (pa_cons pe_int pa_nil))) (fun _ _ => rfl)))))))


def t__law_told (D : Wd P K mg) (n : En) (W : WX) : TS := (tSeq (uTryM n.K [((.ref D.a_InvalidLength), 3, (fun a cls d => (fun (n : En) => (tRet (uLst (tCons (tC (.str "length")) (tCons (tCB (vCB n (.builtin "repr")) (tCons (tByE n.K a cls d "value" (tV 3)) tNil)) tNil))))) (n.su a))), ((.ref D.a_InvalidPlace), 3, (fun a cls d => (fun (n : En) => (tRet (uLst (tCons (tC (.str "place")) (tCons (tCB (vCB n (.builtin "repr")) (tCons (tByE n.K a cls d "value" (tV 3)) tNil)) tNil))))) (n.su a)))] W (fun W => (tDrop (tCallU n W (.ref D.a_Row) (tCons (tV 0) (tCons (tV 1) (tCons (tV 2) tNil)))))))
  (tRet (uLst tNil)))
theorem d__law_told (D : Wd P K mg) (cdv : Value) (A : Around) (outer : List Env) (s : Shared) (H : Hp) (E : XK) (f : Addr) (o : Of ⟨P, w, K, mg, base, A.deeper (envOfC "_law_told" (defScope s__law_told) s.heap.objs.size f cdv)⟩ (cxOf (L2.CX P w) P w K mg base ["_law_n", "_law_t", "_law_u", "e"] "_law_told" (defScope s__law_told) f cdv A outer s H E))
    (tk : Takes (cxOf (L2.CX P w) P w K mg base ["_law_n", "_law_t", "_law_u", "e"] "_law_told" (defScope s__law_told) f cdv A outer s H E) (fun cls d _ H => E cls d H)) :
    PSs (cxOf (L2.CX P w) P w K mg base ["_law_n", "_law_t", "_law_u", "e"] "_law_told" (defScope s__law_told) f cdv A outer s H E) (defBody s__law_told) (t__law_told D ⟨P, w, K, mg, base, A.deeper (envOfC "_law_told" (defScope s__law_told) s.heap.objs.size f cdv)⟩ (fun cls d _ H => E cls d H)) := by
  have hp : PassesOwn (model (cxOf (L2.CX P w) P w K mg base ["_law_n", "_law_t", "_law_u", "e"] "_law_told" (defScope s__law_told) f cdv A outer s H E).prog (cxOf (L2.CX P w) P w K mg base ["_law_n", "_law_t", "_law_u", "e"] "_law_told" (defScope s__law_told) f cdv A outer s H E).w) (cxOf (L2.CX P w) P w K mg base ["_law_n", "_law_t", "_law_u", "e"] "_law_told" (defScope s__law_told) f cdv A outer s H E).A (cxOf (L2.CX P w) P w K mg base ["_law_n", "_law_t", "_law_u", "e"] "_law_told" (defScope s__law_told) f cdv A outer s H E).env (cxOf (L2.CX P w) P w K mg base ["_law_n", "_law_t", "_law_u", "e"] "_law_told" (defScope s__law_told) f cdv A outer s H E).xe := passes_of rfl
  exact (pss_cons (z_tryM o rfl rfl sc__law_told.nd tk (fun W pn xe tk hp => (pss_one (ps_expr (z_call (of_tr o) tk D.h_Row D.k_Row (pa_cons (zv 0) (pa_cons (zv 1) (pa_cons (zv 2) pa_nil))))))) (.cons (i := 3) D.h_InvalidLength rfl (by decide) rfl rfl (fun a oe cls d pn hz hf => (pss_one (ps_ret (z_lst (pa_cons pe_str (pa_cons (pe_callB (cbr_v (of_su o _ _)) (by rfl) D.b_repr (by decide +kernel) (pa_cons (z_byE (Eq.trans (Of.K o) rfl) hz hf (zv 3)) pa_nil)) pa_nil)))))) (.cons (i := 3) D.h_InvalidPlace rfl (by decide) rfl rfl (fun a oe cls d pn hz hf => (pss_one (ps_ret (z_lst (pa_cons pe_str (pa_cons (pe_callB (cbr_v (of_su o _ _)) (by rfl) D.b_repr (by decide +kernel) (pa_cons (z_byE (Eq.trans (Of.K o) rfl) hz hf (zv 3)) pa_nil)) pa_nil)))))) .nil)))
  (pss_one (ps_ret (z_lst pa_nil))))


def t__law_whole (D : Wd P K mg) (n : En) (W : WX) : TS := (tRet (tAndU n (tCB (vCB n (.builtin "isinstance")) (tCons (tV 0) (tCons (tC (.ty "int")) tNil))) (tNotU n (tCB (vCB n (.builtin "isinstance")) (tCons (tV 0) (tCons (tC (.ty "bool")) tNil))))))
theorem d__law_whole (D : Wd P K mg) (cdv : Value) (A : Around) (outer : List Env) (s : Shared) (H : Hp) (E : XK) (f : Addr) (o : Of ⟨P, w, K, mg, base, A.deeper (envOfC "_law_whole" (defScope s__law_whole) s.heap.objs.size f cdv)⟩ (cxOf (L2.CX P w) P w K mg base ["_law_sought"] "_law_whole" (defScope s__law_whole) f cdv A outer s H E))
    (tk : Takes (cxOf (L2.CX P w) P w K mg base ["_law_sought"] "_law_whole" (defScope s__law_whole) f cdv A outer s H E) (fun cls d _ H => E cls d H)) :
    PSs (cxOf (L2.CX P w) P w K mg base ["_law_sought"] "_law_whole" (defScope s__law_whole) f cdv A outer s H E) (defBody s__law_whole) (t__law_whole D ⟨P, w, K, mg, base, A.deeper (envOfC "_law_whole" (defScope s__law_whole) s.heap.objs.size f cdv)⟩ (fun cls d _ H => E cls d H)) := by
  have hp : PassesOwn (model (cxOf (L2.CX P w) P w K mg base ["_law_sought"] "_law_whole" (defScope s__law_whole) f cdv A outer s H E).prog (cxOf (L2.CX P w) P w K mg base ["_law_sought"] "_law_whole" (defScope s__law_whole) f cdv A outer s H E).w) (cxOf (L2.CX P w) P w K mg base ["_law_sought"] "_law_whole" (defScope s__law_whole) f cdv A outer s H E).A (cxOf (L2.CX P w) P w K mg base ["_law_sought"] "_law_whole" (defScope s__law_whole) f cdv A outer s H E).env (cxOf (L2.CX P w) P w K mg base ["_law_sought"] "_law_whole" (defScope s__law_whole) f cdv A outer s H E).xe := passes_of rfl
  exact (pss_one (ps_ret (z_and o (pe_callB (cbr_v o) (by rfl) D.b_isinstance (by decide +kernel) (pa_cons (zv 0) (pa_cons (pe_bltn (by rfl) D.b_int (by decide +kernel) rfl) pa_nil))) (pe_one (z_not o (pe_callB (cbr_v o) (by rfl) D.b_isinstance (by decide +kernel) (pa_cons (zv 0) (pa_cons (pe_bltn (by rfl) D.b_bool (by decide +kernel) rfl) pa_nil))))))))

def t_law_k0 (D : Wd P K mg) (n : En) (W : WX) : TS := (uIfS (uTest (tOp (vOp n (compareOp .NotEq)) (tCallU n W (.ref D.a__law_told) (tCons (tV 3) (tCons (tV 5) (tCons (tV 7) tNil)))) (tV 8))) (tRet (tC (.bl false))) tNext)
def t_law_k1 (D : Wd P K mg) (n : En) (W : WX) : TS := (tSeq (tAsg (tCallU n W (.ref D.a__law_number) (tCons (tV 1) (tCons (tV 6) (tCons (tV 4) tNil)))) (gName 7))
  (tSeq (tAsg (uLst tNil) (gName 8))
  (tSeq (uIfS (uOr (tNot (tTruU n (tCallU n W (.ref D.a__law_whole) (tCons (tV 3) tNil)))) (uTest (tOp (vOp n (compareOp .Lt)) (tV 3) (tC (.int 0))))) (tAsg (uLst (tCons (tC (.str "length")) (tCons (tCB (vCB n (.builtin "repr")) (tCons (tV 3) tNil)) tNil))) (gName 8)) (uIfS (uOr (tNot (tTruU n (tCallU n W (.ref D.a__law_whole) (tCons (tV 5) tNil)))) (uOr (uTest (tOp (vOp n (compareOp .Lt)) (tV 5) (tC (.int 0)))) (uTest (tOp (vOp n (compareOp .Gt)) (tV 5) (tV 3))))) (tAsg (uLst (tCons (tC (.str "place")) (tCons (tCB (vCB n (.builtin "repr")) (tCons (tV 5) tNil)) tNil))) (gName 8)) (uIfS (uOr (tNot (tTruU n (tCallU n W (.ref D.a__law_whole) (tCons (tV 7) tNil)))) (uOr (uTest (tOp (vOp n (compareOp .Lt)) (tV 7) (tV 5))) (uTest (tOp (vOp n (compareOp .Gt)) (tV 7) (tV 3))))) (tAsg (uLst (tCons (tC (.str "place")) (tCons (tCB (vCB n (.builtin "repr")) (tCons (tV 7) tNil)) tNil))) (gName 8)) tNext)))
  (t_law_k0 D n W))))
def t_law_k2 (D : Wd P K mg) (n : En) (W : WX) : TS := (tSeq (tAsg (tCallU n W (.ref D.a__law_number) (tCons (tV 1) (tCons (tC (.int 0)) (tCons (tV 4) tNil)))) (gName 5))
  (tSeq (tAsg (uIf (uAnd (tTruU n (tCallU n W (.ref D.a__law_whole) (tCons (tV 5) tNil))) (uTest (uChain (vOp n (compareOp .LtE)) (vOp n (compareOp .LtE)) (tC (.int 0)) (tV 5) (tV 4)))) (tV 5) (tC (.int 0))) (gName 6))
  (t_law_k1 D n W)))
def t_law_k3 (D : Wd P K mg) (n : En) (W : WX) : TS := (tSeq (tAsg (tCallU n W (.ref D.a__law_number) (tCons (tV 1) (tCons (tC (.int 0)) (tCons (tC (.int 6)) tNil)))) (gName 3))
  (tSeq (tAsg (uIf (uAnd (tTruU n (tCallU n W (.ref D.a__law_whole) (tCons (tV 3) tNil))) (uTest (uChain (vOp n (compareOp .LtE)) (vOp n (compareOp .Lt)) (tC (.int 0)) (tV 3) (tC (.int 7))))) (tV 3) (tC (.int 4))) (gName 4))
  (t_law_k2 D n W)))
def t_law (D : Wd P K mg) (n : En) (W : WX) : TS := (tSeq (tAsg (tCallU n W (.ref D.a__law_store) (tCons (tV 0) tNil)) (gName 1))
  (tSeq (uForR1 (tCons (tC (.int 12)) tNil) (gName 2) (t_law_k3 D n W))
  (tRet (tC (.bl true)))))
theorem d_law (D : Wd P K mg) (cdv : Value) (A : Around) (outer : List Env) (s : Shared) (H : Hp) (E : XK) (f : Addr) (o : Of ⟨P, w, K, mg, base, A.deeper (envOfC "law" (defScope s_law) s.heap.objs.size f cdv)⟩ (cxOf (L2.CX P w) P w K mg base ["_law_script", "_law_store_here", "_law_turn", "_law_n", "_law_top", "_law_t", "_law_low", "_law_u", "_law_due"] "law" (defScope s_law) f cdv A outer s H E))
    (tk : Takes (cxOf (L2.CX P w) P w K mg base ["_law_script", "_law_store_here", "_law_turn", "_law_n", "_law_top", "_law_t", "_law_low", "_law_u", "_law_due"] "law" (defScope s_law) f cdv A outer s H E) (fun cls d _ H => E cls d H)) :
    PSs (cxOf (L2.CX P w) P w K mg base ["_law_script", "_law_store_here", "_law_turn", "_law_n", "_law_top", "_law_t", "_law_low", "_law_u", "_law_due"] "law" (defScope s_law) f cdv A outer s H E) (defBody s_law) (t_law D ⟨P, w, K, mg, base, A.deeper (envOfC "law" (defScope s_law) s.heap.objs.size f cdv)⟩ (fun cls d _ H => E cls d H)) := by
  have hp : PassesOwn (model (cxOf (L2.CX P w) P w K mg base ["_law_script", "_law_store_here", "_law_turn", "_law_n", "_law_top", "_law_t", "_law_low", "_law_u", "_law_due"] "law" (defScope s_law) f cdv A outer s H E).prog (cxOf (L2.CX P w) P w K mg base ["_law_script", "_law_store_here", "_law_turn", "_law_n", "_law_top", "_law_t", "_law_low", "_law_u", "_law_due"] "law" (defScope s_law) f cdv A outer s H E).w) (cxOf (L2.CX P w) P w K mg base ["_law_script", "_law_store_here", "_law_turn", "_law_n", "_law_top", "_law_t", "_law_low", "_law_u", "_law_due"] "law" (defScope s_law) f cdv A outer s H E).A (cxOf (L2.CX P w) P w K mg base ["_law_script", "_law_store_here", "_law_turn", "_law_n", "_law_top", "_law_t", "_law_low", "_law_u", "_law_due"] "law" (defScope s_law) f cdv A outer s H E).env (cxOf (L2.CX P w) P w K mg base ["_law_script", "_law_store_here", "_law_turn", "_law_n", "_law_top", "_law_t", "_law_low", "_law_u", "_law_due"] "law" (defScope s_law) f cdv A outer s H E).xe := passes_of rfl
  exact (pss_cons (ps_set (i := 1) sc_law.nd rfl (by first | exact Or.inl rfl | exact Or.inr rfl) (z_call o tk D.h__law_store D.k__law_store (pa_cons (zv 0) pa_nil)))
  (pss_cons (c_forR1 (ps_for hp rfl (pi_range1 (by rfl) D.b_range (pa_cons pe_int pa_nil)) (pg_name (i := 2) sc_law.nd rfl (by first | exact Or.inl rfl | exact Or.inr rfl)) (pss_cons (ps_set (i := 3) sc_law.nd rfl (by first | exact Or.inl rfl | exact Or.inr rfl) (z_call o tk D.h__law_number D.k__law_number (pa_cons (zv 1) (pa_cons pe_int (pa_cons pe_int pa_nil)))))
  (pss_cons (ps_set (i := 4) sc_law.nd rfl (by first | exact Or.inl rfl | exact Or.inr rfl) (z_ifE (PW.pt (zw_and (z_tru o (z_call o tk D.h__law_whole D.k__law_whole (pa_cons (zv 3) pa_nil))) (pw_and1 (z_chainT (opr_v o) (opr_v o) pe_int (zv 3) pe_int)))) (zv 3) pe_int))
  (pss_cons (ps_set (i := 5) sc_law.nd rfl (by first | exact Or.inl rfl | exact Or.inr rfl) (z_call o tk D.h__law_number D.k__law_number (pa_cons (zv 1) (pa_cons pe_int (pa_cons (zv 4) pa_nil)))))
  (pss_cons (ps_set (i := 6) sc_law.nd rfl (by first | exact Or.inl rfl | exact Or.inr rfl) (z_ifE (PW.pt (zw_and (z_tru o (z_call o tk D.h__law_whole D.k__law_whole (pa_cons (zv 5) pa_nil))) (pw_and1 (z_chainT (opr_v o) (opr_v o) pe_int (zv 5) (zv 4))))) (zv 5) pe_int))
  (pss_cons (ps_set (i := 7) sc_law.nd rfl (by first | exact Or.inl rfl | exact Or.inr rfl) (z_call o tk D.h__law_number D.k__law_number (pa_cons (zv 1) (pa_cons (zv 6) (pa_cons (zv 4) pa_nil)))))
  (pss_cons (ps_set (i := 8) sc_law.nd rfl (by first | exact Or.inl rfl | exact Or.inr rfl) (z_lst pa_nil))
  (pss_cons (z_if (PW.pt (zw_or (pt_not (z_tru o (z_call o tk D.h__law_whole D.k__law_whole (pa_cons (zv 3) pa_nil)))) (pw_or1 (z_cmpT (opr_v o) (zv 3) pe_int (nomark _))))) (pss_one (ps_set (i := 8) sc_law.nd rfl (by first | exact Or.inl rfl | exact Or.inr rfl) (z_lst (pa_cons pe_str (pa_cons (pe_callB (cbr_v o) (by rfl) D.b_repr (by decide +kernel) (pa_cons (zv 3) pa_nil)) pa_nil))))) (pss_one (z_if (PW.pt (zw_or (pt_not (z_tru o (z_call o tk D.h__law_whole D.k__law_whole (pa_cons (zv 5) pa_nil)))) (zw_or (z_cmpT (opr_v o) (zv 5) pe_int (nomark _)) (pw_or1 (z_cmpT (opr_v o) (zv 5) (zv 3) (nomark _)))))) (pss_one (ps_set (i := 8) sc_law.nd rfl (by first | exact Or.inl rfl | exact Or.inr rfl) (z_lst (pa_cons pe_str (pa_cons (pe_callB (cbr_v o) (by rfl) D.b_repr (by decide +kernel) (pa_cons (zv 5) pa_nil)) pa_nil))))) (pss_one (z_if (PW.pt (zw_or (pt_not (z_tru o (z_call o tk D.h__law_whole D.k__law_whole (pa_cons (zv 7) pa_nil)))) (zw_or (z_cmpT (opr_v o) (zv 7) (zv 5) (nomark _)) (pw_or1 (z_cmpT (opr_v o) (zv 7) (zv 3) (nomark _)))))) (pss_one (ps_set (i := 8) sc_law.nd rfl (by first | exact Or.inl rfl | exact Or.inr rfl) (z_lst (pa_cons pe_str (pa_cons (pe_callB (cbr_v o) (by rfl) D.b_repr (by decide +kernel) (pa_cons (zv 7) pa_nil)) pa_nil))))) pss_nil)))))
  (pss_one (z_if (z_cmpT (opr_v o) (z_call o tk D.h__law_told D.k__law_told (pa_cons (zv 3) (pa_cons (zv 5) (pa_cons (zv 7) pa_nil)))) (zv 8) (nomark _)) (pss_one (ps_ret pe_bl)) pss_nil)))))))))))
  (pss_one (ps_ret pe_bl))))

end
end Pf

namespace Pf
open PySem PySem.Spec PyProof.Rows L2 Z ZE
local macro_rules | `(tactic| walk_at "ev") => `(tactic| first
  | refine e_add ?_ | refine e_sub ?_ | refine e_int ?_ | refine e_lt ?_ | refine e_le ?_ | refine e_gt ?_ | refine e_ge ?_ | refine e_neg ?_ | refine e_truB ?_ | refine e_eqI ?_ | refine e_neI ?_ | refine e_iadd ?_ | refine e_max ?_ | refine e_min ?_ | refine e_abs ?_)
local macro_rules | `(tactic| walk_at "splen") => `(tactic| (intro vs H Q E h; repeat (first | (obtain ⟨e, _⟩ := h; (subst e; rfl)) | (obtain ⟨_, h⟩ := h))))
local macro_rules | `(tactic| walk_at "mem") => `(tactic| first | assumption | exact List.mem_cons_self | exact Stk.mem (by assumption) | (refine List.mem_cons_of_mem _ ?_; walk_at "mem"))
local macro_rules | `(tactic| walk_at "sub") => `(tactic| first | exact List.nil_subset _ | assumption | exact List.Subset.refl _ | (refine List.cons_subset.mpr ⟨by walk_at "mem", ?_⟩; walk_at "sub"))
local macro_rules | `(tactic| walk_at "ne") => `(tactic| first | assumption | exact Ne.symm (by assumption) | (refine Stk.ne (by assumption) ?_; walk_at "st"))
local macro_rules | `(tactic| walk_at "nmem") => `(tactic| first | exact List.not_mem_nil | assumption | (refine nm_cons (by walk_at "ne") ?_; walk_at "nmem"))
local macro_rules | `(tactic| walk_at "st") => `(tactic| first | assumption | (refine Stk.lk (by assumption) (by walk_at "sub") (by walk_at "nmem") ?_; walk_at "st") | (refine Stk.new (by assumption) (by assumption) (by walk_at "sub") (by walk_at "nmem") (by walk_at "al") ?_; walk_at "st"))
local macro_rules | `(tactic| walk_at "al") => `(tactic| first | assumption | exact Mk1.al (by assumption) | exact Stk.al (by assumption) | exact Al.nil | (refine Al.lk (by assumption) ?_; walk_at "al"))
local macro_rules | `(tactic| walk_at "lk") => `(tactic| first | assumption | exact Lk.refl | (refine Lk.step (by assumption) (by walk_at "sub") ?_; walk_at "lk"))
local macro_rules | `(tactic| walk_at "kd") => `(tactic| first | assumption | exact .int _ | exact .str _ | exact .bl _ | exact .non | (refine Kd.lk (by assumption) (by walk_at "sub") ?_; walk_at "kd") | (refine Kd.new (by assumption) ?_; walk_at "kd"))
local macro_rules | `(tactic| walk_at "kdl") => `(tactic| first | exact .nil | (refine .cons (by walk_at "kd") ?_; walk_at "kdl"))
local macro_rules | `(tactic| walk_at "dv") => `(tactic| first
  | walk_at "ev" | refine kAll.mk fun _ _ => ?_
  | refine k_tup (by walk_at "al") (by walk_at "kdl") (by rfl) fun _ _ _ _ _ => ?_ | refine k_lst (by walk_at "al") (by walk_at "kdl") (by rfl) fun _ _ _ _ _ => ?_
  | refine k_ixT (by walk_at "kd") (by rfl) ?_ | refine k_ixL (by walk_at "kd") (by rfl) ?_ | refine k_unp (by walk_at "kd") (by rfl) ?_
  | refine k_lenT (by walk_at "kd") ?_ | refine k_lenL (by walk_at "kd") ?_)
local macro_rules | `(tactic| walk_at "dvs") => `(tactic| repeat walk_at "dv")
local macro_rules | `(tactic| walk_at "evs") => `(tactic| repeat walk_at "ev")
section
variable {P : Program} {w : World} {K : PySem.W.Frag} {mg : Str → Option Value} {base : Heap}
/-- a store of draws at s; av: objects that it is known to be apart from -/
structure StoreOk (av : Addr → Prop) (H : Hp) (s : Addr) : Prop where
  ex : ∃ (m : Int) (l : Addr) (ds : List Int) (c : Int), H s = some (.lst [.int m, .ref l, .int c]) ∧ H l = some (.lst (ds.map V.int)) ∧ l ≠ s ∧ 0 ≤ m ∧ m < 2147483647 ∧ (∀ d ∈ ds, 0 ≤ d) ∧ ds.length ≤ 60 ∧ ¬ av l ∧ ¬ av s ∧ ∀ a, av a → H a ≠ none
abbrev av0 : Addr → Prop := fun _ => False
theorem but_al {av : Addr → Prop} {s : Addr} {H H' : Hp} (b : But s H H') (n : ¬ av s) (al : ∀ a, av a → H a ≠ none) : ∀ a, av a → H' a ≠ none := fun a h e => by
  cases q : H a with
  | none => exact al a h q
  | some o =>
    have := b a o (fun z => n (by rw [← z]; exact h)) q
    rw [this] at e
    cases e
theorem store_same {av : Addr → Prop} {H H' : Hp} {s : Addr} (e : Same H H') (h : StoreOk av H s) : StoreOk av H' s := by
  obtain ⟨m, l, ds, c, h1, h2, h3, h4, h5, h6, h7, h8, h9, h10⟩ := h
  exact ⟨m, l, ds, c, e _ _ h1, e _ _ h2, h3, h4, h5, h6, h7, h8, h9, but_al (to_but e) h9 h10⟩
theorem store_ne {av : Addr → Prop} {H : Hp} {s p : Addr} (h : StoreOk av H s) (n : H p = none) : p ≠ s := by
  obtain ⟨m, l, ds, c, h1, h2, r⟩ := h
  exact ne_fresh h1 n
theorem store_lst {av : Addr → Prop} {H : Hp} {s : Addr} (h : StoreOk av H s) : ∃ xs, H s = some (.lst xs) := by
  obtain ⟨m, l, ds, c, h1, _⟩ := h
  exact ⟨_, h1⟩
/-- a fresh object is one more to be apart from -/
theorem store_more {av : Addr → Prop} {H H' : Hp} {s D : Addr} (h : StoreOk av H s) (n : H D = none) (e : Same H H') (a : H' D ≠ none) : StoreOk (fun x => av x ∨ x = D) H' s := by
  obtain ⟨m, l, ds, c, h1, h2, h3, h4, h5, h6, h7, h8, h9, h10⟩ := h
  exact ⟨m, l, ds, c, e _ _ h1, e _ _ h2, h3, h4, h5, h6, h7, fun z => z.elim h8 (ne_fresh' h2 n), fun z => z.elim h9 (ne_fresh' h1 n), fun x z => z.elim (but_al (to_but e) h9 h10 x) fun z => by rw [z]; exact a⟩
theorem store_less {av : Addr → Prop} {H : Hp} {s D : Addr} (h : StoreOk (fun x => av x ∨ x = D) H s) : StoreOk av H s := by
  obtain ⟨m, l, ds, c, h1, h2, h3, h4, h5, h6, h7, h8, h9, h10⟩ := h
  exact ⟨m, l, ds, c, h1, h2, h3, h4, h5, h6, h7, fun z => h8 (.inl z), fun z => h9 (.inl z), fun x z => h10 x (.inl z)⟩
/-- one of those is changed -/
theorem store_put {av : Addr → Prop} {H H' : Hp} {s D : Addr} (h : StoreOk av H s) (d : av D) (b : But D H H') (o : H' D ≠ none) : StoreOk av H' s := by
  obtain ⟨m, l, ds, c, h1, h2, h3, h4, h5, h6, h7, h8, h9, h10⟩ := h
  refine ⟨m, l, ds, c, b _ _ (fun z => h9 (by rw [z]; exact d)) h1, b _ _ (fun z => h8 (by rw [z]; exact d)) h2, h3, h4, h5, h6, h7, h8, h9, fun x z e => ?_⟩
  by_cases q : x = D
  · rw [q] at e; exact o e
  · cases q2 : H x with
    | none => exact h10 x z q2
    | some u => rw [b x u q q2] at e; cases e
theorem store_off {av : Addr → Prop} {H : Hp} {s D : Addr} (h : StoreOk av H s) (d : av D) : D ≠ s := by
  obtain ⟨m, l, ds, c, h1, h2, h3, h4, h5, h6, h7, h8, h9, h10⟩ := h
  exact fun z => h9 (by rw [← z]; exact d)
def spPick : Sp := fun vs H Q _ => ∃ av s m, vs = [.ref s, .int m] ∧ StoreOk av H s ∧ 0 < m ∧ m < 1073741824 ∧ ∀ r H', 0 ≤ r → r < m → But s H H' → StoreOk av H' s → Q (.int r) H'
theorem r__law_pick (D : Wd P K mg) (A : Around) (E : XK) (hr : Rm 0 A) (vs : List V) (H : Hp) (Q : VK) (h : spPick vs H Q E) :
    t__law_pick D ⟨P, w, K, mg, base, A⟩ (fun cls d _ H => E cls d H) { nx := fun _ H' => Q .non H', rt := Q } (start ["_law_store_here", "_law_many", "_law_rest", "_law_digit", "_law_old"] vs) H := by
  obtain ⟨av, s, m, rfl, ⟨x, l, ds, c, hs, hl, nls, h0, h1, hd, h60, avl, avs, al⟩, m0, m1, k⟩ := h
  refine e_ixL (.of hs) rfl ?_
  refine e_add ?_
  refine n_setL hs rfl fun H1 b1 hs1 => ?_
  have hl1 := b1 _ _ nls hl
  refine e_ixL (.of hs1) rfl ?_
  refine n_lst (by rfl) fun p H2 np s2 hp => ?_
  have hs2 := s2 _ _ hs1
  have hl2 := s2 _ _ hl1
  refine e_neLI (ns := ds) (ms := []) hr (.of hl2) (.of hp) ?_
  cases ds with
  | cons d ds =>
    have hd0 : 0 ≤ d := hd d (List.mem_cons_self ..)
    refine e_ixL (.of hs2) rfl ?_
    refine e_ixL (.of hl2) at0 ?_
    refine n_divmod ⟨m0, m1⟩ fun t H3 nt s3 ht => ?_
    refine n_unp (.of ht) rfl ?_
    have hs3 := s3 _ _ hs2
    have hl3 := s3 _ _ hl2
    have q0 : 0 ≤ d / m := Int.ediv_nonneg hd0 (by omega)
    refine e_gt ?_
    have fin : ∀ (a : Addr) (H4 : Hp) (as : List Int), Same H3 H4 → (∀ z ∈ as, 0 ≤ z) → as.length ≤ 1 → H4 a = some (.lst (as.map V.int)) →
        vIx (⟨P, w, K, mg, base, A⟩ : En) (.ref s) (.int 1) H4 (fun z H5 => vSl (⟨P, w, K, mg, base, A⟩ : En) z (some 1) none H5 fun y H6 => vOp ⟨P, w, K, mg, base, A⟩ (binaryOp .Add) (.ref a) y H6 fun z H7 => vSet ⟨P, w, K, mg, base, A⟩ (.ref s) (.int 1) z H7 fun H8 => Q (.int (d % m)) H8) := by
      intro a H4 as s4 has hal ha
      refine e_ixL (.of (s4 _ _ hs3)) rfl ?_
      refine n_slL (.of (s4 _ _ hl3)) fun b H5 nb s5 hb => ?_
      have e1 : cutV (List.map V.int (d :: ds)) (some 1) none = ds.map V.int := cut_drop 1 _
      rw [e1] at hb
      simp only [List.length_cons] at h60
      refine n_cat (s5 _ _ ha) hb (le_line (Nat.ble_eq_true_of_le (by simp only [List.length_map]; omega))) fun e H6 ne s6 he => ?_
      refine n_setL (s6 _ _ (s5 _ _ (s4 _ _ hs3))) rfl fun H7 b7 hs7 => ?_
      rw [← List.map_append] at he
      have nes : e ≠ s := ne_fresh (s5 _ _ (s4 _ _ hs3)) ne
      have bb : But s H H5 := b1.trans ((to_but s2).trans ((to_but s3).trans ((to_but s4).trans (to_but s5))))
      refine k _ _ (Int.emod_nonneg _ (by omega)) (Int.emod_lt_of_pos _ m0) ?_ ⟨_, e, as ++ ds, _, hs7, b7 _ _ nes he, nes, h0, h1, ?_, by simp only [List.length_append]; omega, fun z => but_al bb avs al e z ne, avs, but_al (bb.trans ((to_but s6).trans b7)) avs al⟩
      · exact b1.trans ((to_but s2).trans ((to_but s3).trans ((to_but s4).trans ((to_but s5).trans ((to_but s6).trans b7)))))
      · intro z hz
        rcases List.mem_append.mp hz with hz | hz
        · exact has z hz
        · exact hd z (List.mem_cons_of_mem _ hz)
    refine byb_d (fun c => ?_) (fun c => ?_)
    · refine n_lst (by rfl) fun a H4 na s4 ha => ?_
      exact fin a H4 [d / m] s4 (by simpa using q0) (Nat.le_refl _) ha
    · refine n_lst (by rfl) fun a H4 na s4 ha => ?_
      exact fin a H4 [] s4 (by simp) (Nat.zero_le _) ha
  | nil =>
    refine e_ixL (.of hs2) rfl ?_
    refine e_int ?_
    refine e_mul (.inl ⟨by omega, by omega⟩) ?_
    refine e_ixL (.of hs2) rfl ?_
    refine e_mul (.inl ⟨by decide, by decide⟩) ?_
    walk_at "evs"
    refine e_mod (by decide) ?_
    walk_at "evs"
    refine e_mod (by decide) ?_
    refine n_setL hs2 rfl fun H3 b3 hs3 => ?_
    refine e_ixL (.of hs3) rfl ?_
    refine e_fdiv ⟨by decide, by decide⟩ ?_
    walk_at "evs"
    refine e_mod m0 ?_
    exact k _ _ (Int.emod_nonneg _ (by omega)) (Int.emod_lt_of_pos _ m0) ((b1.trans (to_but s2)).trans b3) ⟨_, l, [], _, hs3, b3 _ _ nls hl2, nls, Int.emod_nonneg _ (by decide), Int.emod_lt_of_pos _ (by decide), by simp, Nat.zero_le _, avl, avs, but_al ((b1.trans (to_but s2)).trans b3) avs al⟩
def spStore (K : PySem.W.Frag) : Sp := fun vs H Q _ => ∃ (a : Addr) (ns : List Int), vs = [.ref a] ∧ SqL K H a (ns.map V.int) ∧ ns.length ≤ 63 ∧ ∀ s H', H s = none → Same H H' → StoreOk av0 H' s → Q (.ref s) H'
theorem r__law_store (D : Wd P K mg) (A : Around) (E : XK) (hr : Rm 0 A) (vs : List V) (H : Hp) (Q : VK) (h : spStore K vs H Q E) :
    t__law_store D ⟨P, w, K, mg, base, A⟩ (fun cls d _ H => E cls d H) { nx := fun _ H' => Q .non H', rt := Q } (start ["_law_script", "_law_mixed", "_law_cell"] vs) H := by
  obtain ⟨a, ns, rfl, hS, hl, k⟩ := h
  refine n_slL hS fun p H1 np s1 hp => ?_
  rw [show (some (60 : Int)) = some ((60 : Nat) : Int) from rfl, cut_take, ← List.map_take] at hp
  refine n_forL (fun i σ H' => ∃ (m : Int) (v : Option V), σ = [some (.ref a), some (.int m), v] ∧ Same H1 H' ∧ 0 ≤ m ∧ m < 2147483647) (.of hp) ⟨11, none, rfl, .refl _, by decide, by decide⟩ (fun i σ H' _ ⟨_, _, _, s, _⟩ => s.seq (.of hp)) ?_ ?_
  · rintro i x σ H2 hi ⟨m, v, rfl, s2, m0, m1⟩
    rw [List.getElem?_map] at hi
    obtain ⟨z, hz, rfl⟩ := Option.map_eq_some_iff.mp hi
    refine e_mul (.inl ⟨by omega, by omega⟩) ?_
    walk_at "evs"
    refine e_mod (by decide) ?_
    exact ⟨_, _, rfl, s2, Int.emod_nonneg _ (by decide), Int.emod_lt_of_pos _ (by decide)⟩
  · rintro σ H2 ⟨m, v, rfl, s2, m0, m1⟩
    refine n_slL (s2.seq (s1.seq hS)) fun q H3 nq s3 hq => ?_
    rw [show (some (60 : Int)) = some ((60 : Nat) : Int) from rfl, cut_take, ← List.map_take] at hq
    refine n_lcL (fun D i ys H' => ∃ ds : List Int, ys = ds.map V.int ∧ ∀ d ∈ ds, 0 ≤ d) (.of hq) (by simp only [List.length_map, List.length_take]; omega) (fun D H4 _ _ _ => ⟨[], rfl, by simp⟩) ?_ ?_
    · rintro D i x ys H4 Next hi nD s4 hD ⟨ds, rfl, hds⟩ hl hlt k2
      rw [List.getElem?_map] at hi
      obtain ⟨z, hz, rfl⟩ := Option.map_eq_some_iff.mp hi
      refine ⟨rfl, ?_⟩
      walk_at "evs"
      refine byb_d (fun c => ?_) (fun c => ?_)
      · walk_at "evs"
        refine byb_nd (fun c2 => ?_) (fun c2 => ?_)
        · exact k2 _ _ s4 hD ⟨ds, rfl, hds⟩ (Nat.le_succ_of_le hl)
        · walk_at "evs"
          refine n_put hD (lt_line hl (by simp only [List.length_map, List.length_take] at hlt; omega)) fun H5 b5 h5 => ?_
          refine k2 _ _ (same_but s4 b5 nD) h5 ⟨ds ++ [if z < 0 then -z else z], by simp, ?_⟩ (by simp only [List.length_append, List.length_singleton]; omega)
          intro d hd
          rcases List.mem_append.mp hd with hd | hd
          · exact hds d hd
          · simp only [List.mem_singleton] at hd
            subst hd
            split <;> omega
      · walk_at "evs"
        refine n_put hD (lt_line hl (by simp only [List.length_map, List.length_take] at hlt; omega)) fun H5 b5 h5 => ?_
        refine k2 _ _ (same_but s4 b5 nD) h5 ⟨ds ++ [if z < 0 then -z else z], by simp, ?_⟩ (by simp only [List.length_append, List.length_singleton]; omega)
        intro d hd
        rcases List.mem_append.mp hd with hd | hd
        · exact hds d hd
        · simp only [List.mem_singleton] at hd
          subst hd
          split <;> omega
    · rintro D ys H4 nD s4 hD ⟨ds, rfl, hds⟩ hll
      refine n_lst (by rfl) fun s H5 ns' s5 hs => ?_
      have hlen : ds.length ≤ 60 := by simp only [List.length_map, List.length_take] at hll; omega
      refine k s H5 ?_ (s1.trans (s2.trans (s3.trans (s4.trans s5)))) ⟨m, D, ds, 0, hs, s5 _ _ hD, ?_, m0, m1, hds, hlen, id, id, fun _ z => z.elim⟩
      · exact Same.free (s1.trans (s2.trans (s3.trans s4))) ns'
      · exact ne_fresh' hD ns'

theorem okb__law_pick (D : Wd P K mg) : FnB P w K mg base 1 D.a__law_pick D.fd__law_pick ["_law_store_here", "_law_many"] spPick :=
  fn_b D.F__law_pick sc__law_pick (t__law_pick D) (by walk_at "splen") (fun cdv A outer s H E o tk => d__law_pick D cdv A outer s H E _ o tk) (fun A E hr vs H Q h => r__law_pick D A E hr vs H Q h)
theorem ok__law_pick (D : Wd P K mg) : FnZ P w K mg base 1 D.a__law_pick spPick := (okb__law_pick D).z0 D.B__law_pick (by walk_at "splen")
theorem okb__law_store (D : Wd P K mg) : FnB P w K mg base 1 D.a__law_store D.fd__law_store ["_law_script"] (spStore K) :=
  fn_b D.F__law_store sc__law_store (t__law_store D) (by walk_at "splen") (fun cdv A outer s H E o tk => d__law_store D cdv A outer s H E _ o tk) (fun A E hr vs H Q h => r__law_store D A E hr vs H Q h)
theorem ok__law_store (D : Wd P K mg) : FnZ P w K mg base 1 D.a__law_store (spStore K) := (okb__law_store D).z0 D.B__law_store (by walk_at "splen")
/-- a draw -/
theorem n_pick (D : Wd P K mg) {A : Around} {k : Nat} (hr : Rm k A) {s : Addr} {m : Int} {H : Hp} {Q : VK} {W : XK} {av : Addr → Prop} (hs : StoreOk av H s) (h0 : 0 < m) (h1 : m < 1073741824) (q : ∀ r H', 0 ≤ r → r < m → But s H H' → StoreOk av H' s → Q (.int r) H') (hk : 1 ≤ k := by decide) :
    vCall ⟨P, w, K, mg, base, A⟩ (.ref D.a__law_pick) [.ref s, .int m] W H Q := call_z hr (ok__law_pick D) ⟨av, s, m, rfl, hs, h0, h1, q⟩ hk

/-- is_integer -/
def spIsInt (K : PySem.W.Frag) : Sp := fun vs H Q _ => ∃ x, vs = [x] ∧ ((∃ i, x = .int i ∧ Q (.bl true) H) ∨ (∃ b, x = .bl b ∧ Q (.bl false) H) ∨ ∃ t, TyX K H x t ∧ PySem.W.kitOne K t (.type "int") = some false ∧ Q (.bl false) H)
theorem r_is_integer (D : Wd P K mg) (A : Around) (E : XK) (hr : Rm 0 A) (vs : List V) (H : Hp) (Q : VK) (h : spIsInt K vs H Q E) :
    t_is_integer D ⟨P, w, K, mg, base, A⟩ (fun cls d _ H => E cls d H) { nx := fun _ H' => Q .non H', rt := Q } (start ["value"] vs) H := by
  obtain ⟨x, rfl, h⟩ := h
  rcases h with ⟨i, rfl, q⟩ | ⟨b, rfl, q⟩ | ⟨t, ht, hk, q⟩
  · refine e_isi (.ty "int") (.base (.int i)) (kit_ty (r := true) (by decide +kernel)) ?_
    walk_at "ev"
    refine e_isi (.ty "bool") (.base (.int i)) (kit_ty (r := false) (by decide +kernel)) ?_
    walk_at "ev"
    exact q
  · refine e_isi (.ty "int") (.base (.bl b)) (kit_ty (r := true) (by decide +kernel)) ?_
    walk_at "ev"
    refine e_isi (.ty "bool") (.base (.bl b)) (kit_ty (r := true) (by decide +kernel)) ?_
    walk_at "ev"
    exact q
  · refine e_isi (.ty "int") ht hk ?_
    walk_at "ev"
    exact q
theorem okb_is_integer (D : Wd P K mg) : FnB P w K mg base 1 D.a_is_integer D.fd_is_integer ["value"] (spIsInt K) :=
  fn_b D.F_is_integer sc_is_integer (t_is_integer D) (by walk_at "splen") (fun cdv A outer s H E o tk => d_is_integer D cdv A outer s H E _ o tk) (fun A E hr vs H Q h => r_is_integer D A E hr vs H Q h)
theorem ok_is_integer (D : Wd P K mg) : FnZ P w K mg base 1 D.a_is_integer (spIsInt K) := (okb_is_integer D).z0 D.B_is_integer (by walk_at "splen")

/-- no int -/
def NoInt (K : PySem.W.Frag) (H : Hp) (x : V) : Prop := (∃ b, x = .bl b) ∨ ∃ tb, TyX K H x tb ∧ PySem.W.kitOne K tb (.type "int") = some false
/-- what Row(x, y, z) is: a row, or the error that is due -/
def spRowE (K : PySem.W.Frag) (C X1 X2 : Addr) : Sp := fun vs H Q E => ∃ (o dx : Addr) (x y z : V), vs = [.ref o, x, y, z] ∧ H o = some (.ins C dx []) ∧
  ((∃ n t u : Int, x = .int n ∧ y = .int t ∧ z = .int u ∧ 0 ≤ t ∧ t ≤ u ∧ u ≤ n ∧ ∀ H' p, H p = none → But o H H' → H' o = some (.ins C dx [("place", .ref p)]) → H' p = some (.tup [.int n, .int t, .int u]) → Q .non H') ∨
   ((NoInt K H x ∨ ∃ n : Int, x = .int n ∧ n < 0) ∧ ∀ d H', H d = none → Same H H' → H' d = some (.xd [("value", x)]) → E (.ref X1) (some d) H') ∨
   (∃ n : Int, x = .int n ∧ 0 ≤ n ∧ ((NoInt K H y ∨ ∃ t : Int, y = .int t ∧ ¬ (0 ≤ t ∧ t ≤ n)) ∧ ∀ d H', H d = none → Same H H' → H' d = some (.xd [("value", y)]) → E (.ref X2) (some d) H')) ∨
   (∃ n t : Int, x = .int n ∧ y = .int t ∧ 0 ≤ t ∧ t ≤ n ∧ ((NoInt K H z ∨ ∃ u : Int, z = .int u ∧ ¬ (t ≤ u ∧ u ≤ n)) ∧ ∀ d H', H d = none → Same H H' → H' d = some (.xd [("value", z)]) → E (.ref X2) (some d) H')))
theorem n_int (D : Wd P K mg) {A : Around} {k : Nat} (hr : Rm k A) {i : Int} {H : Hp} {Q : VK} {W : XK} (q : Q (.bl true) H) (hk : 1 ≤ k := by decide) : vCall ⟨P, w, K, mg, base, A⟩ (.ref D.a_is_integer) [.int i] W H Q := call_z hr (ok_is_integer D) ⟨_, rfl, .inl ⟨_, rfl, q⟩⟩ hk
theorem n_noint (D : Wd P K mg) {A : Around} {k : Nat} (hr : Rm k A) {x : V} {H : Hp} {Q : VK} {W : XK} (hx : NoInt K H x) (q : Q (.bl false) H) (hk : 1 ≤ k := by decide) : vCall ⟨P, w, K, mg, base, A⟩ (.ref D.a_is_integer) [x] W H Q := by
  rcases hx with ⟨b, rfl⟩ | ⟨tb, ty, hk'⟩
  · exact call_z hr (ok_is_integer D) ⟨_, rfl, .inr (.inl ⟨_, rfl, q⟩)⟩ hk
  · exact call_z hr (ok_is_integer D) ⟨_, rfl, .inr (.inr ⟨tb, ty, hk', q⟩)⟩ hk
theorem r_Row_init (D : Wd P K mg) (A : Around) (E : XK) (hr : Rm 1 A) (vs : List V) (H : Hp) (Q : VK) (h : spRowE K D.a_Row D.a_InvalidLength D.a_InvalidPlace vs H Q E) :
    t_Row_init D ⟨P, w, K, mg, base, A⟩ (fun cls d _ H => E cls d H) { nx := fun _ H' => Q .non H', rt := Q } (start ["self", "length", "below", "upto"] vs) H := by
  obtain ⟨o, dx, x, y, z, rfl, ho, h⟩ := h
  rcases h with ⟨n, t, u, rfl, rfl, rfl, h0, h1, h2, k⟩ | ⟨hx, e⟩ | ⟨n, rfl, hn, hy, e⟩ | ⟨n, t, rfl, rfl, h0, h1, hz, e⟩
  · refine n_int D hr ?_
    walk_at "evs"
    refine byb_d (fun c => by omega) (fun c => ?_)
    refine n_int D hr ?_
    walk_at "evs"
    refine byb_d (fun c => ?_) (fun c => by omega)
    walk_at "evs"
    refine byb_nd (fun c => ?_) (fun c => by omega)
    refine n_int D hr ?_
    walk_at "evs"
    refine byb_d (fun c => ?_) (fun c => by omega)
    walk_at "evs"
    refine byb_nd (fun c => ?_) (fun c => by omega)
    refine n_tup (by rfl) fun p H1 np s1 hp => ?_
    refine ⟨o, _, dx, _, rfl, s1 _ _ ho, D.c_Row, D.n_Row_place, (by show 0 < 1000; decide), ?_⟩
    refine k _ p np ((to_but s1).trans but_upd) upd_same ?_
    rw [upd_ne (ne_fresh ho np)]
    exact hp
  · rcases hx with hx | ⟨n, rfl, hn⟩
    · refine n_noint D hr hx ?_
      walk_at "evs"
      exact ⟨rfl, e⟩
    · refine n_int D hr ?_
      walk_at "evs"
      refine byb_d (fun c => ⟨rfl, e⟩) (fun c => by omega)
  · refine n_int D hr ?_
    walk_at "evs"
    refine byb_d (fun c => by omega) (fun c => ?_)
    rcases hy with hy | ⟨t, rfl, ht⟩
    · refine n_noint D hr hy ?_
      walk_at "evs"
      exact ⟨rfl, e⟩
    · refine n_int D hr ?_
      walk_at "evs"
      refine byb_d (fun c1 => ?_) (fun c1 => ⟨rfl, e⟩)
      walk_at "evs"
      refine byb_nd (fun c2 => absurd ⟨c1, c2⟩ ht) (fun c2 => ⟨rfl, e⟩)
  · refine n_int D hr ?_
    walk_at "evs"
    refine byb_d (fun c => by omega) (fun c => ?_)
    refine n_int D hr ?_
    walk_at "evs"
    refine byb_d (fun c => ?_) (fun c => by omega)
    walk_at "evs"
    refine byb_nd (fun c => ?_) (fun c => by omega)
    rcases hz with hz | ⟨u, rfl, hu⟩
    · refine n_noint D hr hz ?_
      walk_at "evs"
      exact ⟨rfl, e⟩
    · refine n_int D hr ?_
      walk_at "evs"
      refine byb_d (fun c1 => ?_) (fun c1 => ⟨rfl, e⟩)
      walk_at "evs"
      refine byb_nd (fun c2 => absurd ⟨c1, c2⟩ hu) (fun c2 => ⟨rfl, e⟩)
theorem okb_Row_init (D : Wd P K mg) : FnB P w K mg base 2 D.a_Row_init D.fd_Row_init ["self", "length", "below", "upto"] (spRowE K D.a_Row D.a_InvalidLength D.a_InvalidPlace) :=
  fn_b D.F_Row_init sc_Row_init (t_Row_init D) (by walk_at "splen") (fun cdv A outer s H E o tk => d_Row_init D cdv A outer s H E _ o tk) (fun A E hr vs H Q h => r_Row_init D A E hr vs H Q h)
theorem ok_Row_init (D : Wd P K mg) : FnZ P w K mg base 2 D.a_Row_init (spRowE K D.a_Row D.a_InvalidLength D.a_InvalidPlace) := (okb_Row_init D).z0 D.B_Row_init (by walk_at "splen")
end
end Pf

namespace Pf
open PySem PySem.Spec PyProof.Rows L2 Z ZE
local macro_rules | `(tactic| walk_at "ev") => `(tactic| first
  | refine e_add ?_ | refine e_sub ?_ | refine e_int ?_ | refine e_lt ?_ | refine e_le ?_ | refine e_gt ?_ | refine e_ge ?_ | refine e_neg ?_ | refine e_truB ?_ | refine e_eqI ?_ | refine e_neI ?_ | refine e_iadd ?_ | refine e_max ?_ | refine e_min ?_ | refine e_abs ?_)
local macro_rules | `(tactic| walk_at "splen") => `(tactic| (intro vs H Q E h; repeat (first | (obtain ⟨e, _⟩ := h; (subst e; rfl)) | (obtain ⟨_, h⟩ := h))))
local macro_rules | `(tactic| walk_at "mem") => `(tactic| first | assumption | exact List.mem_cons_self | exact Stk.mem (by assumption) | (refine List.mem_cons_of_mem _ ?_; walk_at "mem"))
local macro_rules | `(tactic| walk_at "sub") => `(tactic| first | exact List.nil_subset _ | assumption | exact List.Subset.refl _ | (refine List.cons_subset.mpr ⟨by walk_at "mem", ?_⟩; walk_at "sub"))
local macro_rules | `(tactic| walk_at "ne") => `(tactic| first | assumption | exact Ne.symm (by assumption) | (refine Stk.ne (by assumption) ?_; walk_at "st"))
local macro_rules | `(tactic| walk_at "nmem") => `(tactic| first | exact List.not_mem_nil | assumption | (refine nm_cons (by walk_at "ne") ?_; walk_at "nmem"))
local macro_rules | `(tactic| walk_at "st") => `(tactic| first | assumption | (refine Stk.lk (by assumption) (by walk_at "sub") (by walk_at "nmem") ?_; walk_at "st") | (refine Stk.new (by assumption) (by assumption) (by walk_at "sub") (by walk_at "nmem") (by walk_at "al") ?_; walk_at "st"))
local macro_rules | `(tactic| walk_at "al") => `(tactic| first | assumption | exact Mk1.al (by assumption) | exact Stk.al (by assumption) | exact Al.nil | (refine Al.lk (by assumption) ?_; walk_at "al"))
local macro_rules | `(tactic| walk_at "lk") => `(tactic| first | assumption | exact Lk.refl | (refine Lk.step (by assumption) (by walk_at "sub") ?_; walk_at "lk"))
local macro_rules | `(tactic| walk_at "kd") => `(tactic| first | assumption | exact .int _ | exact .str _ | exact .bl _ | exact .non | (refine Kd.lk (by assumption) (by walk_at "sub") ?_; walk_at "kd") | (refine Kd.new (by assumption) ?_; walk_at "kd"))
local macro_rules | `(tactic| walk_at "kdl") => `(tactic| first | exact .nil | (refine .cons (by walk_at "kd") ?_; walk_at "kdl"))
local macro_rules | `(tactic| walk_at "dv") => `(tactic| first
  | walk_at "ev" | refine kAll.mk fun _ _ => ?_
  | refine k_tup (by walk_at "al") (by walk_at "kdl") (by rfl) fun _ _ _ _ _ => ?_ | refine k_lst (by walk_at "al") (by walk_at "kdl") (by rfl) fun _ _ _ _ _ => ?_
  | refine k_ixT (by walk_at "kd") (by rfl) ?_ | refine k_ixL (by walk_at "kd") (by rfl) ?_ | refine k_unp (by walk_at "kd") (by rfl) ?_
  | refine k_lenT (by walk_at "kd") ?_ | refine k_lenL (by walk_at "kd") ?_)
local macro_rules | `(tactic| walk_at "dvs") => `(tactic| repeat walk_at "dv")
local macro_rules | `(tactic| walk_at "evs") => `(tactic| repeat walk_at "ev")
section
variable {P : Program} {w : World} {K : PySem.W.Frag} {mg : Str → Option Value} {base : Heap}
/-- _law_told(x, y, z): the words are those of what is due -/
def spTold (K : PySem.W.Frag) : Sp := fun vs H Q _ => ∃ (x y z : V), vs = [x, y, z] ∧
  ((∃ n t u : Int, x = .int n ∧ y = .int t ∧ z = .int u ∧ 0 ≤ t ∧ t ≤ u ∧ u ≤ n ∧ ∀ p H', H p = none → Same H H' → H' p = some (.lst []) → Q (.ref p) H') ∨
   ((NoInt K H x ∨ ∃ n : Int, x = .int n ∧ n < 0) ∧ ∃ w, Shw K H x w ∧ ∀ p H', H p = none → Same H H' → H' p = some (.lst [.str (Str.ofString "length"), .str w]) → Q (.ref p) H') ∨
   (∃ n : Int, x = .int n ∧ 0 ≤ n ∧ ((NoInt K H y ∨ ∃ t : Int, y = .int t ∧ ¬ (0 ≤ t ∧ t ≤ n)) ∧ ∃ w, Shw K H y w ∧ ∀ p H', H p = none → Same H H' → H' p = some (.lst [.str (Str.ofString "place"), .str w]) → Q (.ref p) H')) ∨
   (∃ n t : Int, x = .int n ∧ y = .int t ∧ 0 ≤ t ∧ t ≤ n ∧ ((NoInt K H z ∨ ∃ u : Int, z = .int u ∧ ¬ (t ≤ u ∧ u ≤ n)) ∧ ∃ w, Shw K H z w ∧ ∀ p H', H p = none → Same H H' → H' p = some (.lst [.str (Str.ofString "place"), .str w]) → Q (.ref p) H')))
theorem noint_same {K : PySem.W.Frag} {H H' : Hp} (s : Same H H') {x : V} (h : NoInt K H x) : NoInt K H' x := h.imp id fun ⟨tb, h1, h2⟩ => ⟨tb, tyx_same s h1, h2⟩
theorem r__law_told (D : Wd P K mg) (A : Around) (E : XK) (hr : Rm 3 A) (vs : List V) (H : Hp) (Q : VK) (h : spTold K vs H Q E) :
    t__law_told D ⟨P, w, K, mg, base, A⟩ (fun cls d _ H => E cls d H) { nx := fun _ H' => Q .non H', rt := Q } (start ["_law_n", "_law_t", "_law_u", "e"] vs) H := by
  obtain ⟨x, y, z, rfl, h⟩ := h
  have mk : ∀ o dx : Addr, H o = none → H dx = none → dx ≠ o → Same H (upd (upd H dx (.own o)) o (.ins D.a_Row dx [])) := fun o dx no nd ne => (same_upd nd).trans (same_upd (by rw [upd_ne ne.symm]; exact no))
  rcases h with ⟨n, t, u, rfl, rfl, rfl, h0, h1, h2, k⟩ | ⟨hx, v, sh, k⟩ | ⟨n, rfl, hn, hy, v, sh, k⟩ | ⟨n, t, rfl, rfl, h0, h1, hz, v, sh, k⟩
  · refine make_z hr D.M_Row (ok_Row_init D) fun o dx no nd ne => ⟨o, dx, _, _, _, rfl, upd_same, .inl ⟨n, t, u, rfl, rfl, rfl, h0, h1, h2, fun H' p np b hx hp => ⟨rfl, ?_⟩⟩⟩
    refine n_lst (by rfl) fun l H1 nl s1 hl => ?_
    have S := same_but (mk o dx no nd ne) b no
    exact k l H1 (S.free nl) (S.trans s1) hl
  · refine make_z hr D.M_Row (ok_Row_init D) fun o dx no nd ne => ⟨o, dx, _, _, _, rfl, upd_same, .inr (.inl ⟨hx.imp (noint_same (mk o dx no nd ne)) id, fun d H1 nd1 s1 hd => ?_⟩)⟩
    have S := (mk o dx no nd ne).trans s1
    refine n_hit D.m_InvalidLength_InvalidLength fun b nb => ?_
    refine n_byE D.r_InvalidLength_value hd rfl ?_
    refine e_shw hr.gs hr.units' (sh.same S) ?_
    refine n_lst (by rfl) fun l H2 nl s2 hl => ?_
    exact k l H2 (S.free nl) (S.trans s2) hl
  · refine make_z hr D.M_Row (ok_Row_init D) fun o dx no nd ne => ⟨o, dx, _, _, _, rfl, upd_same, .inr (.inr (.inl ⟨n, rfl, hn, hy.imp (noint_same (mk o dx no nd ne)) id, fun d H1 nd1 s1 hd => ?_⟩))⟩
    have S := (mk o dx no nd ne).trans s1
    refine n_miss D.m_InvalidPlace_InvalidLength ?_
    refine n_hit D.m_InvalidPlace_InvalidPlace fun b nb => ?_
    refine n_byE D.r_InvalidPlace_value hd rfl ?_
    refine e_shw hr.gs hr.units' (sh.same S) ?_
    refine n_lst (by rfl) fun l H2 nl s2 hl => ?_
    exact k l H2 (S.free nl) (S.trans s2) hl
  · refine make_z hr D.M_Row (ok_Row_init D) fun o dx no nd ne => ⟨o, dx, _, _, _, rfl, upd_same, .inr (.inr (.inr ⟨n, t, rfl, rfl, h0, h1, hz.imp (noint_same (mk o dx no nd ne)) id, fun d H1 nd1 s1 hd => ?_⟩))⟩
    have S := (mk o dx no nd ne).trans s1
    refine n_miss D.m_InvalidPlace_InvalidLength ?_
    refine n_hit D.m_InvalidPlace_InvalidPlace fun b nb => ?_
    refine n_byE D.r_InvalidPlace_value hd rfl ?_
    refine e_shw hr.gs hr.units' (sh.same S) ?_
    refine n_lst (by rfl) fun l H2 nl s2 hl => ?_
    exact k l H2 (S.free nl) (S.trans s2) hl
theorem okb__law_told (D : Wd P K mg) : FnB P w K mg base 4 D.a__law_told D.fd__law_told ["_law_n", "_law_t", "_law_u"] (spTold K) :=
  fn_b D.F__law_told sc__law_told (t__law_told D) (by walk_at "splen") (fun cdv A outer s H E o tk => d__law_told D cdv A outer s H E _ o tk) (fun A E hr vs H Q h => r__law_told D A E hr vs H Q h)
theorem ok__law_told (D : Wd P K mg) : FnZ P w K mg base 4 D.a__law_told (spTold K) := (okb__law_told D).z0 D.B__law_told (by walk_at "splen")
end
end Pf

namespace Pf
open PySem PySem.Spec PyProof.Rows L2 Z ZE
local macro_rules | `(tactic| walk_at "ev") => `(tactic| first
  | refine e_add ?_ | refine e_sub ?_ | refine e_int ?_ | refine e_lt ?_ | refine e_le ?_ | refine e_gt ?_ | refine e_ge ?_ | refine e_neg ?_ | refine e_truB ?_ | refine e_eqI ?_ | refine e_neI ?_ | refine e_iadd ?_ | refine e_max ?_ | refine e_min ?_ | refine e_abs ?_)
local macro_rules | `(tactic| walk_at "splen") => `(tactic| (intro vs H Q E h; repeat (first | (obtain ⟨e, _⟩ := h; (subst e; rfl)) | (obtain ⟨_, h⟩ := h))))
local macro_rules | `(tactic| walk_at "mem") => `(tactic| first | assumption | exact List.mem_cons_self | exact Stk.mem (by assumption) | (refine List.mem_cons_of_mem _ ?_; walk_at "mem"))
local macro_rules | `(tactic| walk_at "sub") => `(tactic| first | exact List.nil_subset _ | assumption | exact List.Subset.refl _ | (refine List.cons_subset.mpr ⟨by walk_at "mem", ?_⟩; walk_at "sub"))
local macro_rules | `(tactic| walk_at "ne") => `(tactic| first | assumption | exact Ne.symm (by assumption) | (refine Stk.ne (by assumption) ?_; walk_at "st"))
local macro_rules | `(tactic| walk_at "nmem") => `(tactic| first | exact List.not_mem_nil | assumption | (refine nm_cons (by walk_at "ne") ?_; walk_at "nmem"))
local macro_rules | `(tactic| walk_at "st") => `(tactic| first | assumption | (refine Stk.lk (by assumption) (by walk_at "sub") (by walk_at "nmem") ?_; walk_at "st") | (refine Stk.new (by assumption) (by assumption) (by walk_at "sub") (by walk_at "nmem") (by walk_at "al") ?_; walk_at "st"))
local macro_rules | `(tactic| walk_at "al") => `(tactic| first | assumption | exact Mk1.al (by assumption) | exact Stk.al (by assumption) | exact Al.nil | (refine Al.lk (by assumption) ?_; walk_at "al"))
local macro_rules | `(tactic| walk_at "lk") => `(tactic| first | assumption | exact Lk.refl | (refine Lk.step (by assumption) (by walk_at "sub") ?_; walk_at "lk"))
local macro_rules | `(tactic| walk_at "kd") => `(tactic| first | assumption | exact .int _ | exact .str _ | exact .bl _ | exact .non | (refine Kd.lk (by assumption) (by walk_at "sub") ?_; walk_at "kd") | (refine Kd.new (by assumption) ?_; walk_at "kd"))
local macro_rules | `(tactic| walk_at "kdl") => `(tactic| first | exact .nil | (refine .cons (by walk_at "kd") ?_; walk_at "kdl"))
local macro_rules | `(tactic| walk_at "dv") => `(tactic| first
  | walk_at "ev" | refine kAll.mk fun _ _ => ?_
  | refine k_tup (by walk_at "al") (by walk_at "kdl") (by rfl) fun _ _ _ _ _ => ?_ | refine k_lst (by walk_at "al") (by walk_at "kdl") (by rfl) fun _ _ _ _ _ => ?_
  | refine k_ixT (by walk_at "kd") (by rfl) ?_ | refine k_ixL (by walk_at "kd") (by rfl) ?_ | refine k_unp (by walk_at "kd") (by rfl) ?_
  | refine k_lenT (by walk_at "kd") ?_ | refine k_lenL (by walk_at "kd") ?_)
local macro_rules | `(tactic| walk_at "dvs") => `(tactic| repeat walk_at "dv")
local macro_rules | `(tactic| walk_at "evs") => `(tactic| repeat walk_at "ev")
section
variable {P : Program} {w : World} {K : PySem.W.Frag} {mg : Str → Option Value} {base : Heap}
/-- a drawn value: an int of some size or something else, its text; it stays so while only the store changes -/
structure Drawn (K : PySem.W.Frag) (s : Addr) (H : Hp) (x : V) (z : Str) : Prop where
  keep : ∀ H', But s H H' → Shw K H' x z ∧ ((∃ i : Int, x = .int i ∧ i.natAbs < 10 ^ 50) ∨ NoInt K H' x)
  ok : PyData.strOk z = true
theorem Drawn.but {K : PySem.W.Frag} {s : Addr} {H H' : Hp} {x : V} {z : Str} (b : But s H H') (d : Drawn K s H x z) : Drawn K s H' x z := ⟨fun H2 b2 => d.keep H2 (b.trans b2), d.ok⟩
theorem Drawn.int {K : PySem.W.Frag} {s : Addr} {H : Hp} {i : Int} (h : i.natAbs < 10 ^ 50) : Drawn K s H (.int i) (Str.ofString (toString i)) := ⟨fun H' _ => ⟨.int i (by
  by_cases z : i.natAbs = 0
  · rw [z]; decide
  · exact (Nat.log2_lt z).mpr (Nat.lt_of_lt_of_le h (by decide))), .inl ⟨i, rfl, h⟩⟩, strOk_of _⟩
theorem Drawn.no {K : PySem.W.Frag} {s : Addr} {H : Hp} {x : V} {z : Str} (h : ∀ H', But s H H' → Shw K H' x z ∧ NoInt K H' x) (ok : PyData.strOk z = true) : Drawn K s H x z := ⟨fun H' b => ⟨(h H' b).1, .inr (h H' b).2⟩, ok⟩
def spOdd (K : PySem.W.Frag) : Sp := fun vs H Q _ => ∃ s, vs = [.ref s] ∧ StoreOk av0 H s ∧ ∀ x z H', But s H H' → StoreOk av0 H' s → Drawn K s H' x z → Q x H'
theorem r__law_odd (D : Wd P K mg) (A : Around) (E : XK) (hr : Rm 1 A) (vs : List V) (H : Hp) (Q : VK) (h : spOdd K vs H Q E) :
    t__law_odd D ⟨P, w, K, mg, base, A⟩ (fun cls d _ H => E cls d H) { nx := fun _ H' => Q .non H', rt := Q } (start ["_law_store_here"] vs) H := by
  obtain ⟨s, rfl, hs, k⟩ := h
  refine n_tup (by rfl) fun p1 H1 n1 s1 h1 => ?_
  refine n_lst (by rfl) fun p2 H2 n2 s2 h2 => ?_
  refine n_lst (by rfl) fun p3 H3 n3 s3 h3 => ?_
  refine n_dic fun p4 H4 n4 s4 h4 => ?_
  refine n_lst (by rfl) fun l H5 n5 s5 h5 => ?_
  have S5 : Same H H5 := s1.trans (s2.trans (s3.trans (s4.trans s5)))
  have hs5 := store_same S5 hs
  obtain ⟨sx, hsx⟩ := store_lst hs5
  refine n_pick D hr hs5 (by omega) (by omega) fun r H6 r0 r1 b6 hs6 => ?_
  have h1' := s5 _ _ (s4 _ _ (s3 _ _ (s2 _ _ h1)))
  have h2' := s5 _ _ (s4 _ _ (s3 _ _ h2))
  have h3' := s5 _ _ (s4 _ _ h3)
  have h4' := s5 _ _ h4
  have e1 : p1 ≠ s := store_ne hs n1
  have e2 : p2 ≠ s := store_ne (store_same s1 hs) n2
  have e3 : p3 ≠ s := store_ne (store_same (s1.trans s2) hs) n3
  have e4 : p4 ≠ s := store_ne (store_same (s1.trans (s2.trans s3)) hs) n4
  have e5 : l ≠ s := store_ne (store_same (s1.trans (s2.trans (s3.trans s4))) hs) n5
  have odd : ∃ x z, atI [V.non, V.bl true, V.bl false, V.str (Str.ofString "3"), V.str (Str.ofString ""), V.ref p1, V.ref p2, V.ref p3, V.ref p4] r = some x ∧ Drawn K s H6 x z := by
    have : r = 0 ∨ r = 1 ∨ r = 2 ∨ r = 3 ∨ r = 4 ∨ r = 5 ∨ r = 6 ∨ r = 7 ∨ r = 8 := by omega
    rcases this with rfl | rfl | rfl | rfl | rfl | rfl | rfl | rfl | rfl
    · exact ⟨_, _, rfl, .no (fun H' b => ⟨.non, .inr ⟨_, .base .non, kit_ty (r := false) (by decide +kernel)⟩⟩) (strOk_of _)⟩
    · exact ⟨_, _, rfl, .no (fun H' b => ⟨.bl true, .inl ⟨_, rfl⟩⟩) (strOk_of _)⟩
    · exact ⟨_, _, rfl, .no (fun H' b => ⟨.bl false, .inl ⟨_, rfl⟩⟩) (strOk_of _)⟩
    · exact ⟨_, _, rfl, .no (fun H' b => ⟨.str _ (by decide +kernel), .inr ⟨_, .base (.str _), kit_ty (r := false) (by decide +kernel)⟩⟩) (by decide +kernel)⟩
    · exact ⟨_, _, rfl, .no (fun H' b => ⟨.str _ (by decide +kernel), .inr ⟨_, .base (.str _), kit_ty (r := false) (by decide +kernel)⟩⟩) (by decide +kernel)⟩
    · exact ⟨_, _, rfl, .no (fun H' b => have h := (b6.trans b) _ _ e1 h1'; ⟨.data (d := .tuple [.int 3]) (.tup (.of h) (.cons (.int 3) .nil)) (by decide +kernel) (by decide +kernel) (by decide +kernel) (by decide +kernel), .inr ⟨_, .base (.tup h), kit_ty (r := false) (by decide +kernel)⟩⟩) (by decide +kernel)⟩
    · exact ⟨_, _, rfl, .no (fun H' b => have h := (b6.trans b) _ _ e2 h2'; ⟨.data (d := .list []) (.lst (.of h) .nil) (by decide +kernel) (by decide +kernel) (by decide +kernel) (by decide +kernel), .inr ⟨_, .base (.lst h), kit_ty (r := false) (by decide +kernel)⟩⟩) (by decide +kernel)⟩
    · exact ⟨_, _, rfl, .no (fun H' b => have h := (b6.trans b) _ _ e3 h3'; ⟨.data (d := .list [.int 0]) (.lst (.of h) (.cons (.int 0) .nil)) (by decide +kernel) (by decide +kernel) (by decide +kernel) (by decide +kernel), .inr ⟨_, .base (.lst h), kit_ty (r := false) (by decide +kernel)⟩⟩) (by decide +kernel)⟩
    · exact ⟨_, _, rfl, .no (fun H' b => have h := (b6.trans b) _ _ e4 h4'; ⟨.emp h, .inr ⟨_, .base (.dK h), kit_ty (r := false) (by decide +kernel)⟩⟩) (by decide +kernel)⟩
  obtain ⟨x, z, hat, dr⟩ := odd
  refine e_ixL (.of (b6 _ _ e5 h5)) hat ?_
  exact k x z H6 ((to_but S5).trans b6) hs6 dr
theorem okb__law_odd (D : Wd P K mg) : FnB P w K mg base 2 D.a__law_odd D.fd__law_odd ["_law_store_here"] (spOdd K) :=
  fn_b D.F__law_odd sc__law_odd (t__law_odd D) (by walk_at "splen") (fun cdv A outer s H E o tk => d__law_odd D cdv A outer s H E _ o tk) (fun A E hr vs H Q h => r__law_odd D A E hr vs H Q h)
theorem ok__law_odd (D : Wd P K mg) : FnZ P w K mg base 2 D.a__law_odd (spOdd K) := (okb__law_odd D).z0 D.B__law_odd (by walk_at "splen")
end
end Pf

namespace Pf
open PySem PySem.Spec PyProof.Rows L2 Z ZE
local macro_rules | `(tactic| walk_at "ev") => `(tactic| first
  | refine e_add ?_ | refine e_sub ?_ | refine e_int ?_ | refine e_lt ?_ | refine e_le ?_ | refine e_gt ?_ | refine e_ge ?_ | refine e_neg ?_ | refine e_truB ?_ | refine e_eqI ?_ | refine e_neI ?_ | refine e_iadd ?_ | refine e_max ?_ | refine e_min ?_ | refine e_abs ?_)
local macro_rules | `(tactic| walk_at "splen") => `(tactic| (intro vs H Q E h; repeat (first | (obtain ⟨e, _⟩ := h; (subst e; rfl)) | (obtain ⟨_, h⟩ := h))))
local macro_rules | `(tactic| walk_at "mem") => `(tactic| first | assumption | exact List.mem_cons_self | exact Stk.mem (by assumption) | (refine List.mem_cons_of_mem _ ?_; walk_at "mem"))
local macro_rules | `(tactic| walk_at "sub") => `(tactic| first | exact List.nil_subset _ | assumption | exact List.Subset.refl _ | (refine List.cons_subset.mpr ⟨by walk_at "mem", ?_⟩; walk_at "sub"))
local macro_rules | `(tactic| walk_at "ne") => `(tactic| first | assumption | exact Ne.symm (by assumption) | (refine Stk.ne (by assumption) ?_; walk_at "st"))
local macro_rules | `(tactic| walk_at "nmem") => `(tactic| first | exact List.not_mem_nil | assumption | (refine nm_cons (by walk_at "ne") ?_; walk_at "nmem"))
local macro_rules | `(tactic| walk_at "st") => `(tactic| first | assumption | (refine Stk.lk (by assumption) (by walk_at "sub") (by walk_at "nmem") ?_; walk_at "st") | (refine Stk.new (by assumption) (by assumption) (by walk_at "sub") (by walk_at "nmem") (by walk_at "al") ?_; walk_at "st"))
local macro_rules | `(tactic| walk_at "al") => `(tactic| first | assumption | exact Mk1.al (by assumption) | exact Stk.al (by assumption) | exact Al.nil | (refine Al.lk (by assumption) ?_; walk_at "al"))
local macro_rules | `(tactic| walk_at "lk") => `(tactic| first | assumption | exact Lk.refl | (refine Lk.step (by assumption) (by walk_at "sub") ?_; walk_at "lk"))
local macro_rules | `(tactic| walk_at "kd") => `(tactic| first | assumption | exact .int _ | exact .str _ | exact .bl _ | exact .non | (refine Kd.lk (by assumption) (by walk_at "sub") ?_; walk_at "kd") | (refine Kd.new (by assumption) ?_; walk_at "kd"))
local macro_rules | `(tactic| walk_at "kdl") => `(tactic| first | exact .nil | (refine .cons (by walk_at "kd") ?_; walk_at "kdl"))
local macro_rules | `(tactic| walk_at "dv") => `(tactic| first
  | walk_at "ev" | refine kAll.mk fun _ _ => ?_
  | refine k_tup (by walk_at "al") (by walk_at "kdl") (by rfl) fun _ _ _ _ _ => ?_ | refine k_lst (by walk_at "al") (by walk_at "kdl") (by rfl) fun _ _ _ _ _ => ?_
  | refine k_ixT (by walk_at "kd") (by rfl) ?_ | refine k_ixL (by walk_at "kd") (by rfl) ?_ | refine k_unp (by walk_at "kd") (by rfl) ?_
  | refine k_lenT (by walk_at "kd") ?_ | refine k_lenL (by walk_at "kd") ?_)
local macro_rules | `(tactic| walk_at "dvs") => `(tactic| repeat walk_at "dv")
local macro_rules | `(tactic| walk_at "evs") => `(tactic| repeat walk_at "ev")
section
variable {P : Program} {w : World} {K : PySem.W.Frag} {mg : Str → Option Value} {base : Heap}
def spNumber (K : PySem.W.Frag) : Sp := fun vs H Q _ => ∃ (s : Addr) (lo hi : Int), vs = [.ref s, .int lo, .int hi] ∧ StoreOk av0 H s ∧ 0 ≤ lo ∧ lo ≤ hi ∧ hi ≤ 100 ∧ ∀ x z H', But s H H' → StoreOk av0 H' s → Drawn K s H' x z → Q x H'
theorem n_odd (D : Wd P K mg) {A : Around} {k : Nat} (hr : Rm k A) {s : Addr} {H : Hp} {Q : VK} {W : XK} (hs : StoreOk av0 H s) (q : ∀ x z H', But s H H' → StoreOk av0 H' s → Drawn K s H' x z → Q x H') (hk : 2 ≤ k := by decide) : vCall ⟨P, w, K, mg, base, A⟩ (.ref D.a__law_odd) [.ref s] W H Q := call_z hr (ok__law_odd D) ⟨s, rfl, hs, q⟩ hk
theorem r__law_number (D : Wd P K mg) (A : Around) (E : XK) (hr : Rm 2 A) (vs : List V) (H : Hp) (Q : VK) (h : spNumber K vs H Q E) :
    t__law_number D ⟨P, w, K, mg, base, A⟩ (fun cls d _ H => E cls d H) { nx := fun _ H' => Q .non H', rt := Q } (start ["_law_store_here", "_law_low", "_law_high", "_law_way"] vs) H := by
  obtain ⟨s, lo, hi, rfl, hs, h0, h1, h2, k⟩ := h
  refine n_pick D hr hs (by omega) (by omega) fun w0 H1 w1 w2 b1 hs1 => ?_
  walk_at "evs"
  refine byb_d (fun c => ?_) (fun c => ?_)
  · walk_at "evs"
    refine n_pick D hr hs1 (by omega) (by omega) fun r H2 r0 r1 b2 hs2 => ?_
    walk_at "evs"
    exact k _ _ H2 (b1.trans b2) hs2 (.int (by omega))
  · walk_at "evs"
    refine byb_d (fun c2 => ?_) (fun c2 => ?_)
    · exact n_odd D hr hs1 fun x z H2 b2 hs2 d => k x z H2 (b1.trans b2) hs2 d
    · walk_at "evs"
      refine e_pow (i := 10) (j := 35) ⟨by decide, by decide, by decide⟩ ?_
      walk_at "evs"
      refine n_odd D hr hs1 fun x z H2 b2 hs2 d => ?_
      refine n_lst (by rfl) fun l H3 nl s3 hl => ?_
      have hs3 := store_same s3 hs2
      refine n_pick D hr hs3 (by omega) (by omega) fun r H4 r0 r1 b4 hs4 => ?_
      have hl4 := b4 _ _ (store_ne hs2 nl) hl
      have e : (10 : Int) ^ (Int.toNat 35) = 100000000000000000000000000000000000 := by decide
      have at_ : ∃ y v, atI [V.int (lo - 1), V.int (hi + 1), V.int (hi + 10 ^ Int.toNat 35), x] r = some y ∧ Drawn K s H4 y v := by
        have : r = 0 ∨ r = 1 ∨ r = 2 ∨ r = 3 := by omega
        rcases this with rfl | rfl | rfl | rfl
        · exact ⟨_, _, rfl, .int (by omega)⟩
        · exact ⟨_, _, rfl, .int (by omega)⟩
        · exact ⟨_, _, rfl, .int (by rw [e]; omega)⟩
        · exact ⟨_, _, rfl, (d.but (to_but s3)).but b4⟩
      obtain ⟨y, v, hat, dr⟩ := at_
      refine e_ixL (.of hl4) hat ?_
      exact k y v H4 (b1.trans (b2.trans ((to_but s3).trans b4))) hs4 dr
theorem okb__law_number (D : Wd P K mg) : FnB P w K mg base 3 D.a__law_number D.fd__law_number ["_law_store_here", "_law_low", "_law_high"] (spNumber K) :=
  fn_b D.F__law_number sc__law_number (t__law_number D) (by walk_at "splen") (fun cdv A outer s H E o tk => d__law_number D cdv A outer s H E _ o tk) (fun A E hr vs H Q h => r__law_number D A E hr vs H Q h)
theorem ok__law_number (D : Wd P K mg) : FnZ P w K mg base 3 D.a__law_number (spNumber K) := (okb__law_number D).z0 D.B__law_number (by walk_at "splen")
end
end Pf

namespace Pf
open PySem PySem.Spec PyProof.Rows L2 Z ZE
local macro_rules | `(tactic| walk_at "ev") => `(tactic| first
  | refine e_add ?_ | refine e_sub ?_ | refine e_int ?_ | refine e_lt ?_ | refine e_le ?_ | refine e_gt ?_ | refine e_ge ?_ | refine e_neg ?_ | refine e_truB ?_ | refine e_eqI ?_ | refine e_neI ?_ | refine e_iadd ?_ | refine e_max ?_ | refine e_min ?_ | refine e_abs ?_)
local macro_rules | `(tactic| walk_at "splen") => `(tactic| (intro vs H Q E h; repeat (first | (obtain ⟨e, _⟩ := h; (subst e; rfl)) | (obtain ⟨_, h⟩ := h))))
local macro_rules | `(tactic| walk_at "mem") => `(tactic| first | assumption | exact List.mem_cons_self | exact Stk.mem (by assumption) | (refine List.mem_cons_of_mem _ ?_; walk_at "mem"))
local macro_rules | `(tactic| walk_at "sub") => `(tactic| first | exact List.nil_subset _ | assumption | exact List.Subset.refl _ | (refine List.cons_subset.mpr ⟨by walk_at "mem", ?_⟩; walk_at "sub"))
local macro_rules | `(tactic| walk_at "ne") => `(tactic| first | assumption | exact Ne.symm (by assumption) | (refine Stk.ne (by assumption) ?_; walk_at "st"))
local macro_rules | `(tactic| walk_at "nmem") => `(tactic| first | exact List.not_mem_nil | assumption | (refine nm_cons (by walk_at "ne") ?_; walk_at "nmem"))
local macro_rules | `(tactic| walk_at "st") => `(tactic| first | assumption | (refine Stk.lk (by assumption) (by walk_at "sub") (by walk_at "nmem") ?_; walk_at "st") | (refine Stk.new (by assumption) (by assumption) (by walk_at "sub") (by walk_at "nmem") (by walk_at "al") ?_; walk_at "st"))
local macro_rules | `(tactic| walk_at "al") => `(tactic| first | assumption | exact Mk1.al (by assumption) | exact Stk.al (by assumption) | exact Al.nil | (refine Al.lk (by assumption) ?_; walk_at "al"))
local macro_rules | `(tactic| walk_at "lk") => `(tactic| first | assumption | exact Lk.refl | (refine Lk.step (by assumption) (by walk_at "sub") ?_; walk_at "lk"))
local macro_rules | `(tactic| walk_at "kd") => `(tactic| first | assumption | exact .int _ | exact .str _ | exact .bl _ | exact .non | (refine Kd.lk (by assumption) (by walk_at "sub") ?_; walk_at "kd") | (refine Kd.new (by assumption) ?_; walk_at "kd"))
local macro_rules | `(tactic| walk_at "kdl") => `(tactic| first | exact .nil | (refine .cons (by walk_at "kd") ?_; walk_at "kdl"))
local macro_rules | `(tactic| walk_at "dv") => `(tactic| first
  | walk_at "ev" | refine kAll.mk fun _ _ => ?_
  | refine k_tup (by walk_at "al") (by walk_at "kdl") (by rfl) fun _ _ _ _ _ => ?_ | refine k_lst (by walk_at "al") (by walk_at "kdl") (by rfl) fun _ _ _ _ _ => ?_
  | refine k_ixT (by walk_at "kd") (by rfl) ?_ | refine k_ixL (by walk_at "kd") (by rfl) ?_ | refine k_unp (by walk_at "kd") (by rfl) ?_
  | refine k_lenT (by walk_at "kd") ?_ | refine k_lenL (by walk_at "kd") ?_)
local macro_rules | `(tactic| walk_at "dvs") => `(tactic| repeat walk_at "dv")
local macro_rules | `(tactic| walk_at "evs") => `(tactic| repeat walk_at "ev")
section
variable {P : Program} {w : World} {K : PySem.W.Frag} {mg : Str → Option Value} {base : Heap}
theorem r__law_whole (D : Wd P K mg) (A : Around) (E : XK) (hr : Rm 0 A) (vs : List V) (H : Hp) (Q : VK) (h : spIsInt K vs H Q E) :
    t__law_whole D ⟨P, w, K, mg, base, A⟩ (fun cls d _ H => E cls d H) { nx := fun _ H' => Q .non H', rt := Q } (start ["_law_sought"] vs) H := by
  obtain ⟨x, rfl, h⟩ := h
  rcases h with ⟨i, rfl, q⟩ | ⟨b, rfl, q⟩ | ⟨t, ht, hk, q⟩
  · refine e_isi (.ty "int") (.base (.int i)) (kit_ty (r := true) (by decide +kernel)) ?_
    walk_at "ev"
    refine e_isi (.ty "bool") (.base (.int i)) (kit_ty (r := false) (by decide +kernel)) ?_
    walk_at "ev"
    exact q
  · refine e_isi (.ty "int") (.base (.bl b)) (kit_ty (r := true) (by decide +kernel)) ?_
    walk_at "ev"
    refine e_isi (.ty "bool") (.base (.bl b)) (kit_ty (r := true) (by decide +kernel)) ?_
    walk_at "ev"
    exact q
  · refine e_isi (.ty "int") ht hk ?_
    walk_at "ev"
    exact q
theorem okb__law_whole (D : Wd P K mg) : FnB P w K mg base 1 D.a__law_whole D.fd__law_whole ["_law_sought"] (spIsInt K) :=
  fn_b D.F__law_whole sc__law_whole (t__law_whole D) (by walk_at "splen") (fun cdv A outer s H E o tk => d__law_whole D cdv A outer s H E _ o tk) (fun A E hr vs H Q h => r__law_whole D A E hr vs H Q h)
theorem ok__law_whole (D : Wd P K mg) : FnZ P w K mg base 1 D.a__law_whole (spIsInt K) := (okb__law_whole D).z0 D.B__law_whole (by walk_at "splen")
theorem n_whI (D : Wd P K mg) {A : Around} {k : Nat} (hr : Rm k A) {i : Int} {H : Hp} {Q : VK} {W : XK} (q : Q (.bl true) H) (hk : 1 ≤ k := by decide) : vCall ⟨P, w, K, mg, base, A⟩ (.ref D.a__law_whole) [.int i] W H Q := call_z hr (ok__law_whole D) ⟨_, rfl, .inl ⟨_, rfl, q⟩⟩ hk
theorem n_whN (D : Wd P K mg) {A : Around} {k : Nat} (hr : Rm k A) {x : V} {H : Hp} {Q : VK} {W : XK} (hx : NoInt K H x) (q : Q (.bl false) H) (hk : 1 ≤ k := by decide) : vCall ⟨P, w, K, mg, base, A⟩ (.ref D.a__law_whole) [x] W H Q := by
  rcases hx with ⟨b, rfl⟩ | ⟨tb, ty, hk'⟩
  · exact call_z hr (ok__law_whole D) ⟨_, rfl, .inr (.inl ⟨_, rfl, q⟩)⟩ hk
  · exact call_z hr (ok__law_whole D) ⟨_, rfl, .inr (.inr ⟨tb, ty, hk', q⟩)⟩ hk
/-- the words that are due -/
inductive Due (K : PySem.W.Frag) (H : Hp) (x y z : V) : List Str → Prop
  | ok {n t u : Int} (hx : x = .int n) (hy : y = .int t) (hz : z = .int u) (h0 : 0 ≤ t) (h1 : t ≤ u) (h2 : u ≤ n) : Due K H x y z []
  | len {v : Str} (h : NoInt K H x ∨ ∃ n : Int, x = .int n ∧ n < 0) (sh : Shw K H x v) : Due K H x y z [Str.ofString "length", v]
  | low {v : Str} {n : Int} (hx : x = .int n) (hn : 0 ≤ n) (h : NoInt K H y ∨ ∃ t : Int, y = .int t ∧ ¬ (0 ≤ t ∧ t ≤ n)) (sh : Shw K H y v) : Due K H x y z [Str.ofString "place", v]
  | top {v : Str} {n t : Int} (hx : x = .int n) (hy : y = .int t) (h0 : 0 ≤ t) (h1 : t ≤ n) (h : NoInt K H z ∨ ∃ u : Int, z = .int u ∧ ¬ (t ≤ u ∧ u ≤ n)) (sh : Shw K H z v) : Due K H x y z [Str.ofString "place", v]
theorem n_told (D : Wd P K mg) {A : Around} {k : Nat} (hr : Rm k A) {x y z : V} {ws : List Str} {H : Hp} {Q : VK} {W : XK} (d : Due K H x y z ws) (q : ∀ p H', H p = none → Same H H' → H' p = some (.lst (ws.map V.str)) → Q (.ref p) H') (hk : 4 ≤ k := by decide) :
    vCall ⟨P, w, K, mg, base, A⟩ (.ref D.a__law_told) [x, y, z] W H Q := by
  refine call_z hr (ok__law_told D) ⟨x, y, z, rfl, ?_⟩ hk
  cases d with
  | ok hx hy hz h0 h1 h2 => exact .inl ⟨_, _, _, hx, hy, hz, h0, h1, h2, q⟩
  | len h sh => exact .inr (.inl ⟨h, _, sh, q⟩)
  | low hx hn h sh => exact .inr (.inr (.inl ⟨_, hx, hn, h, _, sh, q⟩))
  | top hx hy h0 h1 h sh => exact .inr (.inr (.inr ⟨_, _, hx, hy, h0, h1, h, _, sh, q⟩))
theorem r_k0 (D : Wd P K mg) (A : Around) (W : WX) (hr : Rm 4 A) (G : Ends) (v0 v1 v2 v4 v6 : Option V) (x y z : V) (p : Addr) (ws : List Str) (H : Hp) (d : Due K H x y z ws) (ok : ∀ w ∈ ws, PyData.strOk w = true) (hp : H p = some (.lst (ws.map V.str)))
    (k : ∀ H', Same H H' → G.nx [v0, v1, v2, some x, v4, some y, v6, some z, some (.ref p)] H') : t_law_k0 D ⟨P, w, K, mg, base, A⟩ W G [v0, v1, v2, some x, v4, some y, v6, some z, some (.ref p)] H := by
  refine n_told D hr d fun q H1 nq s1 hq => ?_
  refine e_neLS hr (xs := ws) (ys := ws) (.of hq) (.of (s1 _ _ hp)) ok ok ?_
  refine byb_nd (fun _ => ?_) (fun c => absurd rfl c)
  exact k H1 s1
end
end Pf

namespace Pf
open PySem PySem.Spec PyProof.Rows L2 Z ZE
local macro_rules | `(tactic| walk_at "ev") => `(tactic| first
  | refine e_add ?_ | refine e_sub ?_ | refine e_int ?_ | refine e_lt ?_ | refine e_le ?_ | refine e_gt ?_ | refine e_ge ?_ | refine e_neg ?_ | refine e_truB ?_ | refine e_eqI ?_ | refine e_neI ?_ | refine e_iadd ?_ | refine e_max ?_ | refine e_min ?_ | refine e_abs ?_)
local macro_rules | `(tactic| walk_at "splen") => `(tactic| (intro vs H Q E h; repeat (first | (obtain ⟨e, _⟩ := h; (subst e; rfl)) | (obtain ⟨_, h⟩ := h))))
local macro_rules | `(tactic| walk_at "mem") => `(tactic| first | assumption | exact List.mem_cons_self | exact Stk.mem (by assumption) | (refine List.mem_cons_of_mem _ ?_; walk_at "mem"))
local macro_rules | `(tactic| walk_at "sub") => `(tactic| first | exact List.nil_subset _ | assumption | exact List.Subset.refl _ | (refine List.cons_subset.mpr ⟨by walk_at "mem", ?_⟩; walk_at "sub"))
local macro_rules | `(tactic| walk_at "ne") => `(tactic| first | assumption | exact Ne.symm (by assumption) | (refine Stk.ne (by assumption) ?_; walk_at "st"))
local macro_rules | `(tactic| walk_at "nmem") => `(tactic| first | exact List.not_mem_nil | assumption | (refine nm_cons (by walk_at "ne") ?_; walk_at "nmem"))
local macro_rules | `(tactic| walk_at "st") => `(tactic| first | assumption | (refine Stk.lk (by assumption) (by walk_at "sub") (by walk_at "nmem") ?_; walk_at "st") | (refine Stk.new (by assumption) (by assumption) (by walk_at "sub") (by walk_at "nmem") (by walk_at "al") ?_; walk_at "st"))
local macro_rules | `(tactic| walk_at "al") => `(tactic| first | assumption | exact Mk1.al (by assumption) | exact Stk.al (by assumption) | exact Al.nil | (refine Al.lk (by assumption) ?_; walk_at "al"))
local macro_rules | `(tactic| walk_at "lk") => `(tactic| first | assumption | exact Lk.refl | (refine Lk.step (by assumption) (by walk_at "sub") ?_; walk_at "lk"))
local macro_rules | `(tactic| walk_at "kd") => `(tactic| first | assumption | exact .int _ | exact .str _ | exact .bl _ | exact .non | (refine Kd.lk (by assumption) (by walk_at "sub") ?_; walk_at "kd") | (refine Kd.new (by assumption) ?_; walk_at "kd"))
local macro_rules | `(tactic| walk_at "kdl") => `(tactic| first | exact .nil | (refine .cons (by walk_at "kd") ?_; walk_at "kdl"))
local macro_rules | `(tactic| walk_at "dv") => `(tactic| first
  | walk_at "ev" | refine kAll.mk fun _ _ => ?_
  | refine k_tup (by walk_at "al") (by walk_at "kdl") (by rfl) fun _ _ _ _ _ => ?_ | refine k_lst (by walk_at "al") (by walk_at "kdl") (by rfl) fun _ _ _ _ _ => ?_
  | refine k_ixT (by walk_at "kd") (by rfl) ?_ | refine k_ixL (by walk_at "kd") (by rfl) ?_ | refine k_unp (by walk_at "kd") (by rfl) ?_
  | refine k_lenT (by walk_at "kd") ?_ | refine k_lenL (by walk_at "kd") ?_)
local macro_rules | `(tactic| walk_at "dvs") => `(tactic| repeat walk_at "dv")
local macro_rules | `(tactic| walk_at "evs") => `(tactic| repeat walk_at "ev")
section
variable {P : Program} {w : World} {K : PySem.W.Frag} {mg : Str → Option Value} {base : Heap}
theorem n_number (D : Wd P K mg) {A : Around} {k : Nat} (hr : Rm k A) {s : Addr} {lo hi : Int} {H : Hp} {Q : VK} {W : XK} (hs : StoreOk av0 H s) (h0 : 0 ≤ lo) (h1 : lo ≤ hi) (h2 : hi ≤ 100) (q : ∀ x z H', But s H H' → StoreOk av0 H' s → Drawn K s H' x z → Q x H') (hk : 3 ≤ k := by decide) :
    vCall ⟨P, w, K, mg, base, A⟩ (.ref D.a__law_number) [.ref s, .int lo, .int hi] W H Q := call_z hr (ok__law_number D) ⟨s, lo, hi, rfl, hs, h0, h1, h2, q⟩ hk
theorem Drawn.here {K : PySem.W.Frag} {s : Addr} {H : Hp} {x : V} {z : Str} (d : Drawn K s H x z) : Shw K H x z ∧ ((∃ i : Int, x = .int i ∧ i.natAbs < 10 ^ 50) ∨ NoInt K H x) := d.keep H (But.refl s H)
theorem r_k1 (D : Wd P K mg) (A : Around) (W : WX) (hr : Rm 4 A) (G : Ends) (v0 v2 v7 v8 : Option V) (s : Addr) (x y : V) (zx zy : Str) (low top : Int) (H : Hp) (hs : StoreOk av0 H s) (h0 : 0 ≤ low) (h1 : low ≤ top) (h2 : top ≤ 100) (dx : Drawn K s H x zx) (dy : Drawn K s H y zy)
    (k : ∀ v7 v8 H', But s H H' → StoreOk av0 H' s → G.nx [v0, some (.ref s), v2, some x, some (.int top), some y, some (.int low), v7, v8] H') :
    t_law_k1 D ⟨P, w, K, mg, base, A⟩ W G [v0, some (.ref s), v2, some x, some (.int top), some y, some (.int low), v7, v8] H := by
  refine n_number D hr hs h0 h1 h2 fun z zz H1 b1 hs1 dz => ?_
  refine n_lst (by rfl) fun p H2 np s2 hp => ?_
  have hs2 := store_same s2 hs1
  have b2 := b1.trans (to_but s2)
  obtain ⟨shx, cx⟩ := (dx.but b2).here
  obtain ⟨shy, cy⟩ := (dy.but b2).here
  obtain ⟨shz, cz⟩ := (dz.but (to_but s2)).here
  have fin : ∀ (q : Addr) (ws : List Str) (H3 : Hp), Same H2 H3 → H3 q = some (.lst (ws.map V.str)) → Due K H3 x y z ws → (∀ w ∈ ws, PyData.strOk w = true) →
      t_law_k0 D ⟨P, w, K, mg, base, A⟩ W G [v0, some (.ref s), v2, some x, some (.int top), some y, some (.int low), some z, some (.ref q)] H3 := fun q ws H3 s3 hq d ok =>
    r_k0 D A W hr G _ _ _ _ _ x y z q ws H3 d ok hq fun H4 s4 => k _ _ H4 (b2.trans (to_but (s3.trans s4))) (store_same (s3.trans s4) hs2)
  have two : ∀ (a : String) (v : Str), PyData.strOk v = true → ∀ w ∈ [Str.ofString a, v], PyData.strOk w = true := fun a v h => two_ok (strOk_of _) h
  have doX : (NoInt K H2 x ∨ ∃ n : Int, x = .int n ∧ n < 0) → vCB ⟨P, w, K, mg, base, A⟩ (.builtin "repr") [x] H2 fun v H3 => vLst [.str (Str.ofString "length"), v] H3 fun l H4 => t_law_k0 D ⟨P, w, K, mg, base, A⟩ W G [v0, some (.ref s), v2, some x, some (.int top), some y, some (.int low), some z, some l] H4 := fun h => by
    refine e_shw hr.gs hr.units' shx ?_
    refine n_lst (by rfl) fun q H3 nq s3 hq => ?_
    exact fin q [_, _] H3 s3 hq (.len (h.imp (noint_same s3) id) (shx.same s3)) (two _ _ dx.ok)
  have doY : ∀ n : Int, x = .int n → 0 ≤ n → (NoInt K H2 y ∨ ∃ t : Int, y = .int t ∧ ¬ (0 ≤ t ∧ t ≤ n)) → vCB ⟨P, w, K, mg, base, A⟩ (.builtin "repr") [y] H2 fun v H3 => vLst [.str (Str.ofString "place"), v] H3 fun l H4 => t_law_k0 D ⟨P, w, K, mg, base, A⟩ W G [v0, some (.ref s), v2, some x, some (.int top), some y, some (.int low), some z, some l] H4 := fun n hx hn h => by
    refine e_shw hr.gs hr.units' shy ?_
    refine n_lst (by rfl) fun q H3 nq s3 hq => ?_
    exact fin q [_, _] H3 s3 hq (.low hx hn (h.imp (noint_same s3) id) (shy.same s3)) (two _ _ dy.ok)
  have doZ : ∀ n t : Int, x = .int n → y = .int t → 0 ≤ t → t ≤ n → (NoInt K H2 z ∨ ∃ u : Int, z = .int u ∧ ¬ (t ≤ u ∧ u ≤ n)) → vCB ⟨P, w, K, mg, base, A⟩ (.builtin "repr") [z] H2 fun v H3 => vLst [.str (Str.ofString "place"), v] H3 fun l H4 => t_law_k0 D ⟨P, w, K, mg, base, A⟩ W G [v0, some (.ref s), v2, some x, some (.int top), some y, some (.int low), some z, some l] H4 := fun n t hx hy a b h => by
    refine e_shw hr.gs hr.units' shz ?_
    refine n_lst (by rfl) fun q H3 nq s3 hq => ?_
    exact fin q [_, _] H3 s3 hq (.top hx hy a b (h.imp (noint_same s3) id) (shz.same s3)) (two _ _ dz.ok)
  rcases cx with ⟨n, rfl, _⟩ | cx
  · refine n_whI D hr ?_
    walk_at "evs"
    refine byb_d (fun c => doX (.inr ⟨n, rfl, c⟩)) (fun c => ?_)
    have hn : 0 ≤ n := by omega
    rcases cy with ⟨t, rfl, _⟩ | cy
    · refine n_whI D hr ?_
      walk_at "evs"
      refine byb_d (fun c1 => doY n rfl hn (.inr ⟨t, rfl, by omega⟩)) (fun c1 => ?_)
      walk_at "evs"
      refine byb_d (fun c2 => doY n rfl hn (.inr ⟨t, rfl, by omega⟩)) (fun c2 => ?_)
      rcases cz with ⟨u, rfl, _⟩ | cz
      · refine n_whI D hr ?_
        walk_at "evs"
        refine byb_d (fun c3 => doZ n t rfl rfl (by omega) (by omega) (.inr ⟨u, rfl, by omega⟩)) (fun c3 => ?_)
        walk_at "evs"
        refine byb_d (fun c4 => doZ n t rfl rfl (by omega) (by omega) (.inr ⟨u, rfl, by omega⟩)) (fun c4 => ?_)
        exact fin p [] H2 (Same.refl _) hp (.ok rfl rfl rfl (by omega) (by omega) (by omega)) (by intro w hw; cases hw)
      · refine n_whN D hr cz ?_
        walk_at "evs"
        exact doZ n t rfl rfl (by omega) (by omega) (.inl cz)
    · refine n_whN D hr cy ?_
      walk_at "evs"
      exact doY n rfl hn (.inl cy)
  · refine n_whN D hr cx ?_
    walk_at "evs"
    exact doX (.inl cx)
end
end Pf

namespace Pf
open PySem PySem.Spec PyProof.Rows L2 Z ZE
local macro_rules | `(tactic| walk_at "ev") => `(tactic| first
  | refine e_add ?_ | refine e_sub ?_ | refine e_int ?_ | refine e_lt ?_ | refine e_le ?_ | refine e_gt ?_ | refine e_ge ?_ | refine e_neg ?_ | refine e_truB ?_ | refine e_eqI ?_ | refine e_neI ?_ | refine e_iadd ?_ | refine e_max ?_ | refine e_min ?_ | refine e_abs ?_)
local macro_rules | `(tactic| walk_at "splen") => `(tactic| (intro vs H Q E h; repeat (first | (obtain ⟨e, _⟩ := h; (subst e; rfl)) | (obtain ⟨_, h⟩ := h))))
local macro_rules | `(tactic| walk_at "mem") => `(tactic| first | assumption | exact List.mem_cons_self | exact Stk.mem (by assumption) | (refine List.mem_cons_of_mem _ ?_; walk_at "mem"))
local macro_rules | `(tactic| walk_at "sub") => `(tactic| first | exact List.nil_subset _ | assumption | exact List.Subset.refl _ | (refine List.cons_subset.mpr ⟨by walk_at "mem", ?_⟩; walk_at "sub"))
local macro_rules | `(tactic| walk_at "ne") => `(tactic| first | assumption | exact Ne.symm (by assumption) | (refine Stk.ne (by assumption) ?_; walk_at "st"))
local macro_rules | `(tactic| walk_at "nmem") => `(tactic| first | exact List.not_mem_nil | assumption | (refine nm_cons (by walk_at "ne") ?_; walk_at "nmem"))
local macro_rules | `(tactic| walk_at "st") => `(tactic| first | assumption | (refine Stk.lk (by assumption) (by walk_at "sub") (by walk_at "nmem") ?_; walk_at "st") | (refine Stk.new (by assumption) (by assumption) (by walk_at "sub") (by walk_at "nmem") (by walk_at "al") ?_; walk_at "st"))
local macro_rules | `(tactic| walk_at "al") => `(tactic| first | assumption | exact Mk1.al (by assumption) | exact Stk.al (by assumption) | exact Al.nil | (refine Al.lk (by assumption) ?_; walk_at "al"))
local macro_rules | `(tactic| walk_at "lk") => `(tactic| first | assumption | exact Lk.refl | (refine Lk.step (by assumption) (by walk_at "sub") ?_; walk_at "lk"))
local macro_rules | `(tactic| walk_at "kd") => `(tactic| first | assumption | exact .int _ | exact .str _ | exact .bl _ | exact .non | (refine Kd.lk (by assumption) (by walk_at "sub") ?_; walk_at "kd") | (refine Kd.new (by assumption) ?_; walk_at "kd"))
local macro_rules | `(tactic| walk_at "kdl") => `(tactic| first | exact .nil | (refine .cons (by walk_at "kd") ?_; walk_at "kdl"))
local macro_rules | `(tactic| walk_at "dv") => `(tactic| first
  | walk_at "ev" | refine kAll.mk fun _ _ => ?_
  | refine k_tup (by walk_at "al") (by walk_at "kdl") (by rfl) fun _ _ _ _ _ => ?_ | refine k_lst (by walk_at "al") (by walk_at "kdl") (by rfl) fun _ _ _ _ _ => ?_
  | refine k_ixT (by walk_at "kd") (by rfl) ?_ | refine k_ixL (by walk_at "kd") (by rfl) ?_ | refine k_unp (by walk_at "kd") (by rfl) ?_
  | refine k_lenT (by walk_at "kd") ?_ | refine k_lenL (by walk_at "kd") ?_)
local macro_rules | `(tactic| walk_at "dvs") => `(tactic| repeat walk_at "dv")
local macro_rules | `(tactic| walk_at "evs") => `(tactic| repeat walk_at "ev")
section
variable {P : Program} {w : World} {K : PySem.W.Frag} {mg : Str → Option Value} {base : Heap}
theorem r_k2 (D : Wd P K mg) (A : Around) (W : WX) (hr : Rm 4 A) (G : Ends) (v0 v2 v5 v6 v7 v8 : Option V) (s : Addr) (x : V) (zx : Str) (top : Int) (H : Hp) (hs : StoreOk av0 H s) (h1 : 0 ≤ top) (h2 : top ≤ 100) (dx : Drawn K s H x zx)
    (k : ∀ v5 v6 v7 v8 H', But s H H' → StoreOk av0 H' s → G.nx [v0, some (.ref s), v2, some x, some (.int top), v5, v6, v7, v8] H') :
    t_law_k2 D ⟨P, w, K, mg, base, A⟩ W G [v0, some (.ref s), v2, some x, some (.int top), v5, v6, v7, v8] H := by
  refine n_number D hr hs (by omega) h1 h2 fun y zy H1 b1 hs1 dy => ?_
  obtain ⟨_, cy⟩ := dy.here
  have go : ∀ low : Int, 0 ≤ low → low ≤ top → t_law_k1 D ⟨P, w, K, mg, base, A⟩ W G [v0, some (.ref s), v2, some x, some (.int top), some y, some (.int low), v7, v8] H1 := fun low a b =>
    r_k1 D A W hr G _ _ _ _ s x y zx zy low top H1 hs1 a b h2 (dx.but b1) dy fun v7 v8 H' bb hs' => k _ _ _ _ H' (b1.trans bb) hs'
  rcases cy with ⟨t, rfl, _⟩ | cy
  · refine n_whI D hr ?_
    walk_at "evs"
    refine byb_d (fun c => ?_) (fun c => go 0 (by omega) h1)
    walk_at "evs"
    refine byb_d (fun c2 => go t c c2) (fun c2 => go 0 (by omega) h1)
  · refine n_whN D hr cy ?_
    walk_at "evs"
    exact go 0 (by omega) h1
theorem r_k3 (D : Wd P K mg) (A : Around) (W : WX) (hr : Rm 4 A) (G : Ends) (v0 v2 v3 v4 v5 v6 v7 v8 : Option V) (s : Addr) (H : Hp) (hs : StoreOk av0 H s)
    (k : ∀ v3 v4 v5 v6 v7 v8 H', StoreOk av0 H' s → G.nx [v0, some (.ref s), v2, v3, v4, v5, v6, v7, v8] H') :
    t_law_k3 D ⟨P, w, K, mg, base, A⟩ W G [v0, some (.ref s), v2, v3, v4, v5, v6, v7, v8] H := by
  refine n_number D hr hs (by omega) (by omega) (by omega) fun x zx H1 b1 hs1 dx => ?_
  obtain ⟨_, cx⟩ := dx.here
  have go : ∀ top : Int, 0 ≤ top → top ≤ 100 → t_law_k2 D ⟨P, w, K, mg, base, A⟩ W G [v0, some (.ref s), v2, some x, some (.int top), v5, v6, v7, v8] H1 := fun top a b =>
    r_k2 D A W hr G _ _ _ _ _ _ s x zx top H1 hs1 a b dx fun v5 v6 v7 v8 H' _ hs' => k _ _ _ _ _ _ H' hs'
  rcases cx with ⟨n, rfl, _⟩ | cx
  · refine n_whI D hr ?_
    walk_at "evs"
    refine byb_d (fun c => ?_) (fun c => go 4 (by omega) (by omega))
    walk_at "evs"
    refine byb_d (fun c2 => go n c (by omega)) (fun c2 => go 4 (by omega) (by omega))
  · refine n_whN D hr cx ?_
    walk_at "evs"
    exact go 4 (by omega) (by omega)
def spLaw (K : PySem.W.Frag) : Sp := fun vs H Q _ => ∃ (a : Addr) (ns : List Int), vs = [.ref a] ∧ SqL K H a (ns.map V.int) ∧ ns.length ≤ 63 ∧ ∀ H', Q (.bl true) H'
theorem r_law (D : Wd P K mg) (A : Around) (E : XK) (hr : Rm 4 A) (vs : List V) (H : Hp) (Q : VK) (h : spLaw K vs H Q E) :
    t_law D ⟨P, w, K, mg, base, A⟩ (fun cls d _ H => E cls d H) { nx := fun _ H' => Q .non H', rt := Q } (start ["_law_script", "_law_store_here", "_law_turn", "_law_n", "_law_top", "_law_t", "_law_low", "_law_u", "_law_due"] vs) H := by
  obtain ⟨a, ns, rfl, ha, hl, k⟩ := h
  refine call_z hr (ok__law_store D) ⟨a, ns, rfl, ha, hl, fun s H1 nx s1 hs => ?_⟩
  refine n_forR1 (fun i σ H' => ∃ v2 v3 v4 v5 v6 v7 v8, σ = [some (.ref a), some (.ref s), v2, v3, v4, v5, v6, v7, v8] ∧ StoreOk av0 H' s) (by omega) (by omega) ⟨_, _, _, _, _, _, _, rfl, hs⟩ ?_ ?_
  · rintro i σ H' hi ⟨v2, v3, v4, v5, v6, v7, v8, rfl, hs'⟩
    exact r_k3 D A _ hr _ _ _ _ _ _ _ _ _ s H' hs' fun v3 v4 v5 v6 v7 v8 H'' hs'' => ⟨_, _, _, _, _, _, _, rfl, hs''⟩
  · rintro σ H' ⟨v2, v3, v4, v5, v6, v7, v8, rfl, _⟩
    exact k H'
theorem okb_law (D : Wd P K mg) : FnB P w K mg base 5 D.a_law D.fd_law ["_law_script"] (spLaw K) :=
  fn_b D.F_law sc_law (t_law D) (by walk_at "splen") (fun cdv A outer s H E o tk => d_law D cdv A outer s H E _ o tk) (fun A E hr vs H Q h => r_law D A E hr vs H Q h)
theorem ok_law (D : Wd P K mg) : FnZ P w K mg base 5 D.a_law (spLaw K) := (okb_law D).z0 D.B_law (by walk_at "splen")
end
end Pf

namespace Pf
open PySem PySem.Spec PyProof.Rows L2 Z ZE
def Pg : Program := (PySem.W.OpenLaw.row PySem.Challenge.rw_searchloops_k03_rows_refused).prog
def fys : List DefY := [⟨fun K => He.ma K (He.ga K "InvalidLength") "__init__", "InvalidLength.__init__", s_InvalidLength_init⟩, ⟨fun K => He.ma K (He.ga K "InvalidPlace") "__init__", "InvalidPlace.__init__", s_InvalidPlace_init⟩]
def fns : List He5.DefA := [⟨fun K => He.ga K "is_integer", "is_integer", "is_integer", defArgs s_is_integer, defBody s_is_integer, defScope s_is_integer, [], []⟩, ⟨fun K => He.ma K (He.ga K "Row") "__init__", "__init__", "Row.__init__", defArgs s_Row_init, defBody s_Row_init, defScope s_Row_init, [], []⟩, ⟨fun K => He.ga K "_law_store", "_law_store", "_law_store", defArgs s__law_store, defBody s__law_store, defScope s__law_store, [], []⟩, ⟨fun K => He.ga K "_law_pick", "_law_pick", "_law_pick", defArgs s__law_pick, defBody s__law_pick, defScope s__law_pick, [], []⟩, ⟨fun K => He.ga K "_law_odd", "_law_odd", "_law_odd", defArgs s__law_odd, defBody s__law_odd, defScope s__law_odd, [], []⟩, ⟨fun K => He.ga K "_law_number", "_law_number", "_law_number", defArgs s__law_number, defBody s__law_number, defScope s__law_number, [], []⟩, ⟨fun K => He.ga K "_law_told", "_law_told", "_law_told", defArgs s__law_told, defBody s__law_told, defScope s__law_told, [], []⟩, ⟨fun K => He.ga K "_law_whole", "_law_whole", "_law_whole", defArgs s__law_whole, defBody s__law_whole, defScope s__law_whole, [], []⟩, ⟨fun K => He.ga K "law", "law", "law", defArgs s_law, defBody s_law, defScope s_law, [], []⟩]
def exs (K : PySem.W.Frag) : List Bool := [(He.Fa.glo "is_integer").ok K, (He.Fa.glo "_law_store").ok K, (He.Fa.glo "_law_pick").ok K, (He.Fa.glo "_law_odd").ok K, (He.Fa.glo "_law_number").ok K, (He.Fa.glo "_law_told").ok K, (He.Fa.glo "_law_whole").ok K, (He.Fa.glo "law").ok K, (He.Fa.glo "Row").ok K, (He.Fa.keep "Row").ok K, (He.Fa.cls "Row").ok K, (He.Fa.mkr "Row").ok K, (He.Fa.noat "Row" "place").ok K, (He.Fa.glo "InvalidLength").ok K, extB Pg K (He.ga K "InvalidLength") (He.ma K (He.ga K "InvalidLength") "__init__") "InvalidLength.__init__" ["value"] famVE, (He.Fa.glo "InvalidPlace").ok K, extB Pg K (He.ga K "InvalidPlace") (He.ma K (He.ga K "InvalidPlace") "__init__") "InvalidPlace.__init__" ["value"] famVE, (He.Fa.exm "InvalidLength" "InvalidLength" true).ok K, (He.Fa.exm "InvalidPlace" "InvalidLength" false).ok K, (He.Fa.exm "InvalidPlace" "InvalidPlace" true).ok K, readB K (He.ga K "InvalidPlace") "value", readB K (He.ga K "InvalidLength") "value", (He.Fa.free "abs").ok K, (He.Fa.free "bool").ok K, (He.Fa.free "divmod").ok K, (He.Fa.free "int").ok K, (He.Fa.free "isinstance").ok K, (He.Fa.free "range").ok K, (He.Fa.free "repr").ok K, (He.Fa.free "super").ok K]
def loose : List Str := (["_wall", "__name__", "SearchError", "InvalidLength", "InvalidPlace", "InvalidEntries", "InvalidKey", "is_integer", "check_entries", "Row", "_law_store", "_law_pick", "_law_odd", "_law_number", "_law_told", "_law_whole"] : List Str)
theorem wd_mk {K : PySem.W.Frag} {h : Heap} {mg : Str → Option Value} {fa : Addr} (X : K.In h) (G : h.Ns mainGlobals mg) (hfa : mg "law" = some (.ref fa)) (c : SaysE fns exs fys K) : ∃ D : Wd Pg K mg, D.a_law = fa := by
  obtain ⟨fd_is_integer, F_is_integer⟩ := c.d 0 rfl
  have F_is_integer : FunD K "is_integer" "is_integer" (defArgs s_is_integer) (defBody s_is_integer) (defScope s_is_integer) [] [] (He.ga K "is_integer") fd_is_integer := F_is_integer
  have B_is_integer : Binds K fd_is_integer ["value"] [] := FunD.bindsN F_is_integer fun _ _ _ _ _ _ us hl => match us, hl with | [_], _ => rfl
  obtain ⟨fd_Row_init, F_Row_init⟩ := c.d 1 rfl
  have F_Row_init : FunD K "__init__" "Row.__init__" (defArgs s_Row_init) (defBody s_Row_init) (defScope s_Row_init) [] [] (He.ma K (He.ga K "Row") "__init__") fd_Row_init := F_Row_init
  have B_Row_init : Binds K fd_Row_init ["self", "length", "below", "upto"] [] := FunD.bindsN F_Row_init fun _ _ _ _ _ _ us hl => match us, hl with | [_, _, _, _], _ => rfl
  obtain ⟨fd__law_store, F__law_store⟩ := c.d 2 rfl
  have F__law_store : FunD K "_law_store" "_law_store" (defArgs s__law_store) (defBody s__law_store) (defScope s__law_store) [] [] (He.ga K "_law_store") fd__law_store := F__law_store
  have B__law_store : Binds K fd__law_store ["_law_script"] [] := FunD.bindsN F__law_store fun _ _ _ _ _ _ us hl => match us, hl with | [_], _ => rfl
  obtain ⟨fd__law_pick, F__law_pick⟩ := c.d 3 rfl
  have F__law_pick : FunD K "_law_pick" "_law_pick" (defArgs s__law_pick) (defBody s__law_pick) (defScope s__law_pick) [] [] (He.ga K "_law_pick") fd__law_pick := F__law_pick
  have B__law_pick : Binds K fd__law_pick ["_law_store_here", "_law_many"] [] := FunD.bindsN F__law_pick fun _ _ _ _ _ _ us hl => match us, hl with | [_, _], _ => rfl
  obtain ⟨fd__law_odd, F__law_odd⟩ := c.d 4 rfl
  have F__law_odd : FunD K "_law_odd" "_law_odd" (defArgs s__law_odd) (defBody s__law_odd) (defScope s__law_odd) [] [] (He.ga K "_law_odd") fd__law_odd := F__law_odd
  have B__law_odd : Binds K fd__law_odd ["_law_store_here"] [] := FunD.bindsN F__law_odd fun _ _ _ _ _ _ us hl => match us, hl with | [_], _ => rfl
  obtain ⟨fd__law_number, F__law_number⟩ := c.d 5 rfl
  have F__law_number : FunD K "_law_number" "_law_number" (defArgs s__law_number) (defBody s__law_number) (defScope s__law_number) [] [] (He.ga K "_law_number") fd__law_number := F__law_number
  have B__law_number : Binds K fd__law_number ["_law_store_here", "_law_low", "_law_high"] [] := FunD.bindsN F__law_number fun _ _ _ _ _ _ us hl => match us, hl with | [_, _, _], _ => rfl
  obtain ⟨fd__law_told, F__law_told⟩ := c.d 6 rfl
  have F__law_told : FunD K "_law_told" "_law_told" (defArgs s__law_told) (defBody s__law_told) (defScope s__law_told) [] [] (He.ga K "_law_told") fd__law_told := F__law_told
  have B__law_told : Binds K fd__law_told ["_law_n", "_law_t", "_law_u"] [] := FunD.bindsN F__law_told fun _ _ _ _ _ _ us hl => match us, hl with | [_, _, _], _ => rfl
  obtain ⟨fd__law_whole, F__law_whole⟩ := c.d 7 rfl
  have F__law_whole : FunD K "_law_whole" "_law_whole" (defArgs s__law_whole) (defBody s__law_whole) (defScope s__law_whole) [] [] (He.ga K "_law_whole") fd__law_whole := F__law_whole
  have B__law_whole : Binds K fd__law_whole ["_law_sought"] [] := FunD.bindsN F__law_whole fun _ _ _ _ _ _ us hl => match us, hl with | [_], _ => rfl
  obtain ⟨fd_law, F_law⟩ := c.d 8 rfl
  have F_law : FunD K "law" "law" (defArgs s_law) (defBody s_law) (defScope s_law) [] [] (He.ga K "law") fd_law := F_law
  have B_law : Binds K fd_law ["_law_script"] [] := FunD.bindsN F_law fun _ _ _ _ _ _ us hl => match us, hl with | [_], _ => rfl
  have e := hfa.symm.trans (He.glo_ok X G (x := "law") (c.b 7 rfl))
  cases e
  exact ⟨{ a_is_integer := He.ga K "is_integer", fd_is_integer := fd_is_integer, F_is_integer := F_is_integer, B_is_integer := B_is_integer, k_is_integer := F_is_integer.kp, a_Row_init := He.ma K (He.ga K "Row") "__init__", fd_Row_init := fd_Row_init, F_Row_init := F_Row_init, B_Row_init := B_Row_init, a__law_store := He.ga K "_law_store", fd__law_store := fd__law_store, F__law_store := F__law_store, B__law_store := B__law_store, k__law_store := F__law_store.kp, a__law_pick := He.ga K "_law_pick", fd__law_pick := fd__law_pick, F__law_pick := F__law_pick, B__law_pick := B__law_pick, k__law_pick := F__law_pick.kp, a__law_odd := He.ga K "_law_odd", fd__law_odd := fd__law_odd, F__law_odd := F__law_odd, B__law_odd := B__law_odd, k__law_odd := F__law_odd.kp, a__law_number := He.ga K "_law_number", fd__law_number := fd__law_number, F__law_number := F__law_number, B__law_number := B__law_number, k__law_number := F__law_number.kp, a__law_told := He.ga K "_law_told", fd__law_told := fd__law_told, F__law_told := F__law_told, B__law_told := B__law_told, k__law_told := F__law_told.kp, a__law_whole := He.ga K "_law_whole", fd__law_whole := fd__law_whole, F__law_whole := F__law_whole, B__law_whole := B__law_whole, k__law_whole := F__law_whole.kp, a_law := He.ga K "law", fd_law := fd_law, F_law := F_law, B_law := B_law, k_law := F_law.kp, h_is_integer := He.glo_ok X G (x := "is_integer") (c.b 0 rfl), h__law_store := He.glo_ok X G (x := "_law_store") (c.b 1 rfl), h__law_pick := He.glo_ok X G (x := "_law_pick") (c.b 2 rfl), h__law_odd := He.glo_ok X G (x := "_law_odd") (c.b 3 rfl), h__law_number := He.glo_ok X G (x := "_law_number") (c.b 4 rfl), h__law_told := He.glo_ok X G (x := "_law_told") (c.b 5 rfl), h__law_whole := He.glo_ok X G (x := "_law_whole") (c.b 6 rfl), h_law := He.glo_ok X G (x := "law") (c.b 7 rfl), a_Row := He.ga K "Row", h_Row := He.glo_ok X G (x := "Row") (c.b 8 rfl), k_Row := He.keep_ok (x := "Row") (c.b 9 rfl), c_Row := He.cls_ok (x := "Row") (c.b 10 rfl), M_Row := He.mkr_ok (x := "Row") (c.b 11 rfl), n_Row_place := He.noat_ok (x := "Row") (f := "place") (c.b 12 rfl), a_InvalidLength := He.ga K "InvalidLength", ai_InvalidLength := He.ma K (He.ga K "InvalidLength") "__init__", h_InvalidLength := He.glo_ok X G (x := "InvalidLength") (c.b 13 rfl), T_InvalidLength := ext_ok famVE_ok (c.b 14 rfl) (c.y 0 rfl), a_InvalidPlace := He.ga K "InvalidPlace", ai_InvalidPlace := He.ma K (He.ga K "InvalidPlace") "__init__", h_InvalidPlace := He.glo_ok X G (x := "InvalidPlace") (c.b 15 rfl), T_InvalidPlace := ext_ok famVE_ok (c.b 16 rfl) (c.y 1 rfl), m_InvalidLength_InvalidLength := He.exm_ok (x := "InvalidLength") (y := "InvalidLength") (c.b 17 rfl), m_InvalidPlace_InvalidLength := He.exm_ok (x := "InvalidPlace") (y := "InvalidLength") (c.b 18 rfl), m_InvalidPlace_InvalidPlace := He.exm_ok (x := "InvalidPlace") (y := "InvalidPlace") (c.b 19 rfl), r_InvalidPlace_value := read_ok (c.b 20 rfl), r_InvalidLength_value := read_ok (c.b 21 rfl), b_abs := He.free_ok X G (x := "abs") (c.b 22 rfl), b_bool := He.free_ok X G (x := "bool") (c.b 23 rfl), b_divmod := He.free_ok X G (x := "divmod") (c.b 24 rfl), b_int := He.free_ok X G (x := "int") (c.b 25 rfl), b_isinstance := He.free_ok X G (x := "isinstance") (c.b 26 rfl), b_range := He.free_ok X G (x := "range") (c.b 27 rfl), b_repr := He.free_ok X G (x := "repr") (c.b 28 rfl), b_super := He.free_ok X G (x := "super") (c.b 29 rfl) }, rfl⟩
abbrev R : PySem.W.OpenRow := PySem.W.OpenLaw.row PySem.Challenge.rw_searchloops_k03_rows_refused
abbrev hk : PySem.W.Hook := hookE 6 fns exs fys
def ob (s : PySem.W.SharedT) : AlE := obsEG 6 fns exs fys (HandSHeadRun.getT s)
theorem ob_eq (s : PySem.W.SharedT) : ob s = hk.obs s.abs := obsE_tree s
set_option maxHeartbeats 0 in
theorem run0 (w : World) : HandSHeadRun.RunEq R (PySem.W.view R.prog [19]) hk ob 4000 loose (w.withFollow "special-get-raises" false) := by
  intro os
  kernel_rfl
theorem run1 (w : World) : HandSHeadRun.RunEq R (PySem.W.view R.prog [19]) hk ob 4000 loose (w.withFollow "special-get-raises" true) := by
  intro os
  kernel_rfl
theorem run (w : World) : HandSHeadRun.RunEq R (PySem.W.view R.prog [19]) hk ob 4000 loose w := PySem.W.byRow2 "special-get-raises" run0 run1 w
theorem fin {w : World} {K : PySem.W.Frag} {h : Heap} {mg : Str → Option Value} {fa : Addr} (X : K.In h) (ex : ∃ D : Wd Pg K mg, D.a_law = fa) : ∃ (K : PySem.W.Frag) (sp : Sp), K.In h ∧
    (∀ (H : Hp) (a : Addr) (ns : List Int), ns.length ≤ 63 → Only H → SqL K H a (ns.map V.int) → sp [.ref a] H (fun v _ => v = .bl true) E0) ∧ ∀ base : Heap, K.In base → base.Ns mainGlobals mg → FnZ Pg w K mg base 5 fa sp := by
  obtain ⟨D, rfl⟩ := ex
  exact ⟨K, spLaw K, X, fun H a ns hl _ hS => ⟨a, ns, rfl, hS, hl, fun _ => rfl⟩, fun base _ _ => ok_law D⟩
end Pf
open PySem PySem.W PySem.Calls PyProof.Rows in
set_option maxRecDepth 100000 in
set_option maxHeartbeats 0 in
theorem PySem.Challenge.cw_searchloops_k03_rows_refused_holds : PySem.Challenge.rw_searchloops_k03_rows_refused.Holds := by
  w_on; o_law
  refine HandSHeadRun.head_any (r := OpenLaw.row PySem.Challenge.rw_searchloops_k03_rows_refused) (q := view (PySem.W.OpenLaw.row PySem.Challenge.rw_searchloops_k03_rows_refused).prog [19]) (H := Pf.hk) (ob := Pf.ob) (M := 4000) (loose := Pf.loose) (d := HandSHeadRun.topDef (PySem.W.OpenLaw.row PySem.Challenge.rw_searchloops_k03_rows_refused).prog 19) (kwd := []) Pf.ob_eq
    (by kernel_rfl) (fun s => by kernel_rfl) Pf.run (by kernel_rfl) (by kernel_rfl) (by kernel_rfl) (by rfl) (by first | assumption | decide +kernel) (by decide +kernel) ⟨rfl, rfl, rfl, rfl, rfl, by decide +kernel⟩ ?hw ?hc
  case hw => w_witness2
  case hc =>
    refine Z.walk_z (l := PySem.Challenge.rw_searchloops_k03_rows_refused) (n := 63) (k := 5) rfl (by decide) (by kernel_rfl) ⟨⟨rfl, by decide, by decide⟩, rfl⟩ ?F
    intro w mg fa h Y G hmg0
    obtain ⟨K, KX, c⟩ := Y
    have hmg : mg ("law" : PySem.Str) = some (.ref fa) := by
      have e : (HandSHeadRun.topDef (PySem.W.OpenLaw.row PySem.Challenge.rw_searchloops_k03_rows_refused).prog 19).name = ("law" : PySem.Str) := by kernel_rfl
      rw [← e]
      exact hmg0
    exact Pf.fin KX (Pf.wd_mk KX G hmg c)
#print axioms PySem.Challenge.cw_searchloops_k03_rows_refused_holds
