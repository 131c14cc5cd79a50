import PyProof.Rows.All
import Wide.All
import OpenK.AllK
import Wide.FinOn
import HandS.ForMost
import HandS.ForExc
import HandS.More
import HandS.IsInst
import HandS.Flow
import HandS.Property
import HandS.Defaults
import HandS.TupLe
import HandS.SlotsOwn
import HandS.ClsMeth
import HandS.Ends
import PyProof.ReprRoads
import HandS.StrMore
import HandS.Head0
import HandS.Head1
import HandS.Head2
import HandS.HeadHook1
import HandS.HeadHook2
import HandS.HeadNt
import HandS.FStr
import HandS.Text
import HandS.Small
import HandS.RaiseMore
import KE.KFmtOwn
import KE.KCallOwn
import PyProof.CallFns
import PyProof.CallStr
import PySem.Challenge.RW_searchloops_k02_rows_made
set_option Elab.async false
set_option linter.all false
set_option maxRecDepth 100000
set_option maxHeartbeats 4000000
namespace Z
open PySem PySem.Spec PyProof.Rows L2

/-! what is wanted of an exception, by the context -/
def xw (X : Cx) (σ : L2.St) : XK := fun cls d H => ∀ u s', XE X (fun c d' σ' H' => c = cls ∧ d' = d ∧ σ' = σ ∧ H' = H) u s' → X.xe u s'
theorem takes_w {X : Cx} : Takes X (fun cls d σ H => xw X σ cls d H) := by
  rintro u s' ⟨a, B, sI, pins, σ, H, cls, d, e, I, nb, up, sky, na, os, ag, w⟩
  exact w u s' ⟨a, B, sI, pins, σ, H, cls, d, e, I, nb, up, sky, na, os, ag, rfl, rfl, rfl, rfl⟩
theorem xw_of {X : Cx} {W : WX} (tk : Takes X W) {σ : L2.St} {cls : Value} {d : Option Addr} {H : Hp} (w : W cls d σ H) : xw X σ cls d H := by
  rintro u s' ⟨a, B, sI, pins, σ', H', cls', d', e, I, nb, up, sky, na, os, ag, rfl, rfl, rfl, rfl⟩
  exact tk u s' ⟨a, B, sI, pins, _, _, _, _, e, I, nb, up, sky, na, os, ag, w⟩

/-- where a body runs: what its context and those of its comprehensions and tries have in common -/
structure En where
  P : Program
  w : World
  K : PySem.W.Frag
  mg : Str → Option Value
  base : Heap
  A : Around
structure Of (e : En) (X : Cx) : Prop where
  P : X.prog = e.P
  w : X.w = e.w
  K : X.K = e.K
  mg : X.mg = e.mg
  base : X.base = e.base
  A : X.A = e.A
  calm : X.calm = true

/-! operations by values, whatever they are -/
structure vOp (e : En) (f : Value → Value → Sem Value) (x y : V) (H : Hp) (Q : VK) : Prop where
  run : ∀ (X : Cx), Of e X → ∀ (pins : List (Addr × Obj)) (s : Shared) (σ : L2.St) (v u : Value), Inv X pins σ H s → RelV x v → RelV y u → wpAny (model X.prog X.w) X.A (f v u) (EP X pins σ Q) X.xe s
theorem opr_v {e : En} {X : Cx} {f : Value → Value → Sem Value} (o : Of e X) : OpR X f (vOp e f) := fun pins s σ _ _ _ v u _ I rx ry h => h.run X o pins s σ v u I rx ry
theorem vOp_of {e : En} {f : Value → Value → Sem Value} {r : R2} (h : ∀ X, Of e X → OpR X f r) {x y : V} {H : Hp} {Q : VK} (q : r x y H Q) : vOp e f x y H Q := ⟨fun X o pins s σ v u I rx ry => h X o pins s σ H x y v u Q I rx ry q⟩
theorem vOp_ofK {e : En} {f : Value → Value → Sem Value} {r : PySem.W.Frag → R2} (h : ∀ X, Of e X → OpR X f (r X.K)) {x y : V} {H : Hp} {Q : VK} (q : r e.K x y H Q) : vOp e f x y H Q := ⟨fun X o pins s σ v u I rx ry =>
  h X o pins s σ H x y v u Q I rx ry (by rw [o.K]; exact q)⟩
structure vUn (e : En) (f : Value → Sem Value) (x : V) (H : Hp) (Q : VK) : Prop where
  run : ∀ (X : Cx), Of e X → ∀ (pins : List (Addr × Obj)) (s : Shared) (σ : L2.St) (v : Value), Inv X pins σ H s → RelV x v → wpAny (model X.prog X.w) X.A (f v) (EP X pins σ Q) X.xe s
theorem unr_v {e : En} {X : Cx} {f : Value → Sem Value} (o : Of e X) : UnR X f (vUn e f) := fun pins s σ _ _ v _ I rx h => h.run X o pins s σ v I rx
theorem vUn_of {e : En} {f : Value → Sem Value} {r : V → Hp → VK → Prop} (h : ∀ X, Of e X → UnR X f r) {x : V} {H : Hp} {Q : VK} (q : r x H Q) : vUn e f x H Q := ⟨fun X o pins s σ v I rx => h X o pins s σ H x v Q I rx q⟩
structure vIx (e : En) (x y : V) (H : Hp) (Q : VK) : Prop where
  run : ∀ (X : Cx), Of e X → ∀ (value slice : Expr) (pins : List (Addr × Obj)) (s : Shared) (σ : L2.St) (v u : Value), Inv X pins σ H s → RelV x v → RelV y u →
    subscripted slice false v u = operate [v, u] (getItem v u) → wpAny (model X.prog X.w) X.A (subscriptTail value slice v u) (EP X pins σ Q) X.xe s
theorem ixr_v {e : En} {X : Cx} (o : Of e X) : IxR X (vIx e) := fun value slice pins s σ _ _ _ v u _ I rx ry h z => h.run X o value slice pins s σ v u I rx ry z
theorem vIx_ofK {e : En} {r : PySem.W.Frag → R2} (h : ∀ X, Of e X → IxR X (r X.K)) {x y : V} {H : Hp} {Q : VK} (q : r e.K x y H Q) : vIx e x y H Q := ⟨fun X o value slice pins s σ v u I rx ry z =>
  h X o value slice pins s σ H x y v u Q I rx ry (by rw [o.K]; exact q) z⟩
structure vCB (e : En) (f : Value) (xs : List V) (H : Hp) (Q : VK) : Prop where
  run : ∀ (X : Cx), Of e X → ∀ (pins : List (Addr × Obj)) (s : Shared) (σ : L2.St) (us : List Value), Inv X pins σ H s → Vals xs us → wpAny (model X.prog X.w) X.A (call f us) (EP X pins σ Q) X.xe s
theorem cbr_v {e : En} {X : Cx} {f : Value} (o : Of e X) : CallR X f (vCB e f) := fun pins s σ _ _ us _ I r h => h.run X o pins s σ us I r
theorem vCB_of {e : En} {f : Value} {r : List V → Hp → VK → Prop} (h : ∀ X, Of e X → CallR X f r) {xs : List V} {H : Hp} {Q : VK} (q : r xs H Q) : vCB e f xs H Q := ⟨fun X o pins s σ us I rx => h X o pins s σ H xs us Q I rx q⟩
theorem vCB_ofK {e : En} {f : Value} {r : PySem.W.Frag → List V → Hp → VK → Prop} (h : ∀ X, Of e X → CallR X f (r X.K)) {xs : List V} {H : Hp} {Q : VK} (q : r e.K xs H Q) : vCB e f xs H Q := ⟨fun X o pins s σ us I rx =>
  h X o pins s σ H xs us Q I rx (by rw [o.K]; exact q)⟩
/-- a call of a value; W: what is wanted of an exception -/
structure vCall (e : En) (f : Value) (xs : List V) (W : XK) (H : Hp) (Q : VK) : Prop where
  run : ∀ (X : Cx), Of e X → ∀ (pins : List (Addr × Obj)) (s : Shared) (σ : L2.St) (us : List Value), (∀ cls d H', W cls d H' → xw X σ cls d H') → Inv X pins σ H s → Vals xs us → wpAny (model X.prog X.w) X.A (call f us) (EP X pins σ Q) X.xe s
theorem vCall_of {e : En} {f : Value} {r : List V → Hp → VK → Prop} (h : ∀ X, Of e X → CallR X f r) {xs : List V} {W : XK} {H : Hp} {Q : VK} (q : r xs H Q) : vCall e f xs W H Q := ⟨fun X o pins s σ us _ I rx => h X o pins s σ H xs us Q I rx q⟩
structure vTru (e : En) (x : V) (H : Hp) (Q : Bool → Hp → Prop) : Prop where
  run : ∀ (X : Cx), Of e X → ∀ (pins : List (Addr × Obj)) (s : Shared) (σ : L2.St) (v : Value), Inv X pins σ H s → RelV x v → wpAny (model X.prog X.w) X.A (truthy v) (TP X pins σ Q) X.xe s
theorem trr_v {e : En} {X : Cx} (o : Of e X) : TruR X (vTru e) := fun pins s σ _ _ v _ I r h => h.run X o pins s σ v I r
theorem vTru_ofK {e : En} {r : PySem.W.Frag → V → Hp → (Bool → Hp → Prop) → Prop} (h : ∀ X, Of e X → TruR X (r X.K)) {x : V} {H : Hp} {Q : Bool → Hp → Prop} (q : r e.K x H Q) : vTru e x H Q := ⟨fun X o pins s σ v I rx =>
  h X o pins s σ H x v Q I rx (by rw [o.K]; exact q)⟩
structure vSet (e : En) (o i v : V) (H : Hp) (Q : Hp → Prop) : Prop where
  run : ∀ (X : Cx), Of e X → ∀ (pins : List (Addr × Obj)) (s : Shared) (σ : L2.St) (ov iv u : Value), Inv X pins σ H s → RelV o ov → RelV i iv → RelV v u → wpAny (model X.prog X.w) X.A (setItem ov iv u) (fun _ s' => ∃ H', Inv X pins σ H' s' ∧ Q H') X.xe s
theorem set_v {e : En} {X : Cx} (o : Of e X) : PSet X (vSet e) := fun pins s σ _ _ _ _ ov iv u _ I a b c h => h.run X o pins s σ ov iv u I a b c
theorem vSet_of {e : En} {r : TSet} (h : ∀ X, Of e X → PSet X r) {o i v : V} {H : Hp} {Q : Hp → Prop} (q : r o i v H Q) : vSet e o i v H Q := ⟨fun X ox pins s σ ov iv u I a b c => h X ox pins s σ H o i v ov iv u Q I a b c q⟩
structure vSl (e : En) (x : V) (lo hi : Option Int) (H : Hp) (Q : VK) : Prop where
  run : ∃ r : PySem.W.Frag → V → Option Int → Option Int → Hp → VK → Prop, (∀ X, Of e X → SlR X (r X.K)) ∧ r e.K x lo hi H Q
theorem slr_v {e : En} {X : Cx} (o : Of e X) : SlR X (vSl e) := by
  intro pins s σ H x lo hi v vl vu sl Q I rx hs pl pu ⟨⟨r, hr, q⟩⟩
  rw [← o.K] at q
  exact hr X o pins s σ H x lo hi v vl vu sl Q I rx hs pl pu q
/-- an attribute's value -/
structure vAttr (e : En) (f : Str) (x : V) (W : XK) (H : Hp) (Q : VK) : Prop where
  run : ∀ (X : Cx), Of e X → ∀ (pins : List (Addr × Obj)) (s : Shared) (σ : L2.St) (b : Bool) (v : Value), (∀ cls d H', W cls d H' → xw X σ cls d H') → Inv X pins σ H s → RelV x v → wpAny (model X.prog X.w) X.A (getAttr v f b) (EP X pins σ Q) X.xe s

/-! a name: computes -/
def tV (i : Nat) : TE := fun σ H Q => match σ[i]? with | some (some v) => Q v H | _ => False
theorem pe_imp {X : Cx} {e : Expr} {t t' : TE} (h : PE X e t) (i : ∀ σ H Q, t' σ H Q → t σ H Q) : PE X e t' := ⟨fun pins s σ H Q I q => h.run pins s σ H Q I (i σ H Q q)⟩
theorem tV_var {i : Nat} {σ : L2.St} {H : Hp} {Q : VK} (h : tV i σ H Q) : tVar i σ H Q := by
  unfold tV at h
  split at h
  · exact ⟨_, by assumption, h⟩
  · exact h.elim
/-- a call; an attribute; a method's call -/
def tCallU (e : En) (W : WX) (u : Value) (t : TA) : TE := fun σ H Q => t σ H fun vs H1 => vCall e u vs (fun c d H' => W c d σ H') H1 Q
def tAttr (e : En) (W : WX) (f : Str) (te : TE) : TE := fun σ H Q => te σ H fun x H1 => vAttr e f x (fun c d H' => W c d σ H') H1 Q
def tMethU (e : En) (W : WX) (m : Str) (ta : TE) (t : TA) : TE := fun σ H Q => ta σ H fun x H1 => ∃ a C dx fs g, x = .ref a ∧ H1 a = some (.ins C dx fs) ∧ Cls e.K C ∧ Meth e.K C m g ∧ fs.lookup m = none ∧
  t σ H1 fun vs H2 => vCall e (.ref g) (.ref a :: vs) (fun c d H' => W c d σ H') H2 Q
/-- a value's truth as a test -/
def tTruU (e : En) (te : TE) : TT := fun σ H Q => te σ H fun x H1 => vTru e x H1 Q
section
variable {n : En} {X : Cx} {W : WX} {a b c e : Expr} {es : List Expr} {ta tb tc te : TE} {t : TA} {pos p apos : Pos} {x : Str}
theorem zv (i : Nat) (hN : X.N[i]? = some x := by rfl) (hv : Vis X.env.scope x := by first | exact Or.inl rfl | exact Or.inr (Or.inl rfl) | exact Or.inr (Or.inr rfl)) (hd : (x == ("__debug__" : Str)) = false := by decide)
    (hcd : (x == ("__classdict__" : Str)) = false := by decide) : PE X (.Name x pos) (tV i) := pe_imp (pv i hN hv hd hcd) fun _ _ _ h => tV_var h
/-- a call of a value that the module's top holds -/
theorem z_call (o : Of n X) (tk : Takes X W) {u : Value} (hm : X.mg x = some u) (hk : PySem.W.keepIn X.K u = true) (ha : PA X (e :: es) t) (hg : Gl X x := by rfl) (hdb : (x == ("__debug__" : Str)) = false := by decide)
    (he : starEach (e :: es) X.env = (false, eval e X.env) :: starEach es X.env := by rfl) (hpl : (backTo pos (starEach es X.env)).any (·.1) = false := by rfl) :
    PE X (.Call (.Name x p) (e :: es) [] pos) (tCallU n W u t) := by
  refine ⟨fun pins s σ H Q I h => ?_⟩
  refine wpAny_Call_Name_kw (ld_glob I hg hm ?_ hdb)
  exact PySem.W.callWith_K (h₀ := X.base) I.ok.mod.kin hk (thn (ha.run pos pins s σ H _ I h) fun us s1 ⟨vs, H1, I1, r, q⟩ => ⟨I1.kIn, q.run X o pins s1 σ us (fun _ _ _ w => xw_of tk w) I1 r⟩) he hpl
theorem z_call0 (o : Of n X) (tk : Takes X W) {u : Value} (hm : X.mg x = some u) (hk : PySem.W.keepIn X.K u = true) (hg : Gl X x := by rfl) (hdb : (x == ("__debug__" : Str)) = false := by decide) :
    PE X (.Call (.Name x p) [] [] pos) (tCallU n W u tNil) := by
  refine ⟨fun pins s σ H Q I h => ?_⟩
  refine wpAny_Call_Name_kw (ld_glob I hg hm ?_ hdb)
  exact PySem.W.callWith_K0 I.kIn hk (h.run X o pins s σ [] (fun _ _ _ w => xw_of tk w) I .nil)
theorem z_attr (o : Of n X) (tk : Takes X W) {f : Str} (he : PE X e te) (hb : attributeBase e f X.env (eval e X.env) = eval e X.env := by rfl) : PE X (.Attribute e f pos) (tAttr n W f te) := by
  refine ⟨fun pins s σ H Q I h => ?_⟩
  exact attr_of hb (thn (he.run pins s σ H _ I h) fun u s1 ⟨x, H1, I1, rx, q⟩ => q.run X o pins s1 σ _ u (fun _ _ _ w => xw_of tk w) I1 rx)
/-- o.m(e, ..), o an instance of an own class -/
theorem z_meth (oo : Of n X) (tk : Takes X W) {pl : Sem Bool} {m : Str} {o : Expr} (he : PE X o ta) (ha : PA X (e :: es) t)
    (hst : starEach (e :: es) X.env = (false, eval e X.env) :: starEach es X.env := by rfl) (hpl : (backTo pos (starEach es X.env)).any (·.1) = false := by rfl)
    (ht : eval (.Call (.Attribute o m apos) (e :: es) [] pos) X.env = (do
      let ov ← eval o X.env
      standAt apos.atName
      let (f, first) ← holding [ov] (getMethod ov m pl)
      callWith pos f first (backTo pos (starEach (e :: es) X.env)) (backToKw pos (keywordEach [] X.env))) := by rfl) :
    PE X (.Call (.Attribute o m apos) (e :: es) [] pos) (tMethU n W m ta t) := by
  refine ⟨fun pins s σ H Q I h => ?_⟩
  refine PySem.W.methodCall_KW (pl := pl) (thn (he.run pins s σ H _ I h) fun u s1 ⟨x, H1, I1, rx, a, C, dx, fs, g, ex, ea, c, hm, l, q⟩ => ?_) ht
  subst ex
  obtain rfl : u = Value.ref a := rx
  rw [← oo.K] at c hm
  refine getmeth_ok I1 ea c hm l ?_
  exact PySem.W.callWith_K (first := [.ref a]) (h₀ := X.base) I.ok.mod.kin hm.kp (thn (ha.run pos pins s1 σ H1 _ I1 q) fun us s2 ⟨vs, H2, I2, r, q2⟩ => ⟨I2.kIn, q2.run X oo pins s2 σ (.ref a :: us) (fun _ _ _ w => xw_of tk w) I2 (.cons rfl r)⟩) hst hpl
theorem z_meth0 (oo : Of n X) (tk : Takes X W) {pl : Sem Bool} {m : Str} {o : Expr} (he : PE X o ta)
    (ht : eval (.Call (.Attribute o m apos) [] [] pos) X.env = (do
      let ov ← eval o X.env
      standAt apos.atName
      let (f, first) ← holding [ov] (getMethod ov m pl)
      callWith pos f first (backTo pos (starEach [] X.env)) (backToKw pos (keywordEach [] X.env))) := by rfl) :
    PE X (.Call (.Attribute o m apos) [] [] pos) (tMethU n W m ta tNil) := by
  refine ⟨fun pins s σ H Q I h => ?_⟩
  refine PySem.W.methodCall_KW (pl := pl) (thn (he.run pins s σ H _ I h) fun u s1 ⟨x, H1, I1, rx, a, C, dx, fs, g, ex, ea, c, hm, l, q⟩ => ?_) ht
  subst ex
  obtain rfl : u = Value.ref a := rx
  rw [← oo.K] at c hm
  refine getmeth_ok I1 ea c hm l ?_
  exact PySem.W.callWith_K0 (first := [.ref a]) I1.kIn hm.kp (q.run X oo pins s1 σ [.ref a] (fun _ _ _ w => xw_of tk w) I1 (.cons rfl .nil))
theorem z_tru (o : Of n X) (he : PE X e te) (hs : ∀ whole, isTrue e X.env whole = (do let v ← whole; standAt e.pos; holding [v] (truthy v)) := by intro _; rfl) : PT X e (tTruU n te) := by
  refine ⟨fun pins s σ H Q I hw => ?_⟩
  refine isTrue_plain (thn (he.run pins s σ H _ I hw) fun v s1 ⟨x, H1, I1, r1, q1⟩ => ?_) (hs _)
  exact q1.run X o pins s1 σ v I1 r1
end

/-! the world of a body -/
section
variable {P : Program} {w : World} {K : PySem.W.Frag} {mg : Str → Option Value} {base : Heap} {A : Around} {k j : Nat} {E W : XK} {f C : Addr} {sp : Sp} {vs : List V} {H : Hp} {Q : VK}
/-- room for calls, and no list or tuple is being shown -/
structure Rm (k : Nat) (A : Around) : Prop extends Room k A where
  gs : A.guards = some []
theorem Rm.le {j k : Nat} {A : Around} (r : Rm k A) (h : j ≤ k) : Rm j A := ⟨r.toRoom.mono h, r.gs⟩
theorem Rm.down {k : Nat} {A : Around} (r : Rm (k + 1) A) (env : Env) : Rm k (A.deeper env) := ⟨r.toRoom.deeper env, r.gs⟩
theorem Rm.step {k : Nat} {A : Around} (r : Rm (k + 1) A) : Rm k A.in1 := ⟨r.toRoom.in1, r.gs⟩
theorem Rm.made {k : Nat} {A : Around} (r : Rm (k + 1) A) (C : Addr) (us : List Value) : Rm k (A.under (.builtin "type.__call__" ⟨.ref C :: us, []⟩)) :=
  ⟨r.toRoom.make C us [], show pushGuards (Code.guards (.builtin "type.__call__" ⟨.ref C :: us, []⟩)) A.guards = some [] by
    have e : Code.guards (.builtin "type.__call__" ⟨.ref C :: us, []⟩) = [] := if_neg (by rw [show Code.isGuard (.builtin "type.__call__" ⟨.ref C :: us, []⟩) = false from (by decide +kernel : guardIds.contains "type.__call__" = false)]; decide)
    rw [e]; exact r.gs⟩
/-- what a def promises -/
def FnZ (P : Program) (w : World) (K : PySem.W.Frag) (mg : Str → Option Value) (base : Heap) (k : Nat) (f : Addr) (sp : Sp) : Prop :=
  ∀ (A : Around) (out : List Env) (s : Shared) (H : Hp) (us : List Value) (vs : List V) (Q : VK) (E : XK), Rm k A → Env0 P w K mg base A out s H → Vals vs us → sp vs H Q E → codeAny (model P w) A (.call (.ref f) ⟨us, []⟩) (CR (L2.CX P w) out P w H s Q E) s
theorem FnZ.imp {sp' : Sp} (F : FnZ P w K mg base k f sp) (h : ∀ vs H Q E, sp' vs H Q E → sp vs H Q E) : FnZ P w K mg base k f sp' := fun A out s H us vs Q E hr e r q => F A out s H us vs Q E hr e r (h _ _ _ _ q)
theorem call_z (hr : Rm k A) (F : FnZ P w K mg base j f sp) (h : sp vs H Q W) (hj : j ≤ k := by decide) : vCall ⟨P, w, K, mg, base, A⟩ (.ref f) vs W H Q := by
  refine ⟨?_⟩
  rintro X ⟨rfl, rfl, rfl, rfl, rfl, hA, hc⟩ pins s σ us hW I r
  have hA : X.A = A := hA
  subst hA
  refine wpAny_call (codeAny_mono (F X.A X.stack s H us vs Q W (hr.le hj) I.env0 r h) fun r s' hq => ?_)
  cases r with
  | error e =>
    obtain ⟨a, B, H', cls, d, e1, fl, hok, ub, na, os, ag, hE⟩ := hq
    exact takes_w e s' (XE.of_call (W := fun cls d σ H => xw X σ cls d H) (E := xw X σ) I (fun cls d H' h => h) ⟨a, B, H', cls, d, e1, fl, hok, ub, na, os, ag, hW _ _ _ hE⟩)
  | ok fl =>
    cases fl with
    | ret u => exact I.after hq
    | next => exact False.elim hq
    | brk => exact False.elim hq
    | cont => exact False.elim hq
theorem run_z {X : Cx} {pins : List (Addr × Obj)} {σ : L2.St} {s : Shared} {us : List Value} (F : FnZ X.prog X.w X.K X.mg X.base j f sp) (hr : Rm j X.A) (I : Inv X pins σ H s) (r : Vals vs us) (h : sp vs H Q E0) :
    codeAny (model X.prog X.w) X.A (.call (.ref f) ⟨us, []⟩) (fun r s' => match r with | .ok (.ret v) => EP X pins σ Q v s' | .ok _ => False | .error e => X.xe e s') s :=
  codeAny_mono (F X.A X.stack s H us vs Q E0 hr I.env0 r h) fun r s' z => match r, z with
    | .ok (.ret _), z => I.after z
    | .error _, ⟨_, _, _, _, _, _, _, _, _, _, _, _, z⟩ => z.elim
theorem make_z {fI : Addr} (hr : Rm k A) (M : Mk K C fI) (F : FnZ P w K mg base j fI sp)
    (h : ∀ x dx, H x = none → H dx = none → dx ≠ x → sp (.ref x :: vs) (upd (upd H dx (.own x)) x (.ins C dx [])) (fun v H2 => v = .non ∧ Q (.ref x) H2) W) (hj : j + 1 ≤ k := by decide) : vCall ⟨P, w, K, mg, base, A⟩ (.ref C) vs W H Q := by
  refine ⟨?_⟩
  rintro X ⟨rfl, rfl, rfl, rfl, rfl, hA, hc⟩ pins s σ us hW I r
  have hA : X.A = A := hA
  subst hA
  have hq := h (s.heap.objs.size + 1) s.heap.objs.size (I.hok.fresh (Nat.le_succ _)) (I.hok.fresh (Nat.le_refl _)) (Nat.ne_of_lt (Nat.lt_succ_self _))
  have I2 := Inv.made (C := C) I
  have r2 : Vals (V.ref (s.heap.objs.size + 1) :: vs) (Value.ref (s.heap.objs.size + 1) :: us) := .cons rfl r
  refine wpAny_call (make_map (f := fI) I.kIn M.makes M.init (beq_iff_eq.mp M.fn) (codeAny_mono (F _ X.stack _ _ (Value.ref (s.heap.objs.size + 1) :: us) _ _ W ((hr.le hj).made C us)
    (I2.env0.make C us []) r2 hq) fun r s' hq' => ?_))
  cases r with
  | error e =>
    obtain ⟨a, B, H', cls, d, e1, fl, hok, ub, na, os, ag, hE⟩ := hq'
    exact takes_w e s' (XE.of_call (W := fun cls d σ H => xw X σ cls d H) (E := xw X σ) I2 (fun cls d H' h => h) ⟨a, B, H', cls, d, e1, fl, hok, ub, na, os, ag, hW _ _ _ hE⟩)
  | ok fl =>
    cases fl with
    | ret u =>
      obtain ⟨v, H', I3, rv, ev, q3⟩ := I2.after hq'
      subst ev
      exact ⟨rv, ⟨V.ref (s.heap.objs.size + 1), H', I3, rfl, q3⟩⟩
    | next => exact False.elim hq'
    | brk => exact False.elim hq'
    | cont => exact False.elim hq'
theorem attr_fld {n : En} {a dx : Addr} {fs : List (Str × V)} {g : Str} {v : V} (e : H a = some (.ins C dx fs)) (c : Cls n.K C) (na : NoAttr n.K C g) (l : fs.lookup g = some v) (q : Q v H) : vAttr n g (.ref a) W H Q := by
  refine ⟨?_⟩
  intro X o pins s σ b u _ I r
  obtain rfl : u = Value.ref a := r
  rw [← o.K] at c na
  exact getattr_ok I e c na l fun u' s2 I2 ru => ⟨v, H, I2, ru, q⟩
theorem attr_prop {a dx p g : Addr} {fs : List (Str × V)} {m : Str} (hr : Rm k A) (e : H a = some (.ins C dx fs)) (c : Cls K C) (hp : PropOf K C m p g) (F : FnZ P w K mg base j g sp)
    (h : sp [.ref a] H Q E0) (hj : j + 1 ≤ k := by decide) : vAttr ⟨P, w, K, mg, base, A⟩ m (.ref a) W H Q := by
  refine ⟨?_⟩
  rintro X ⟨rfl, rfl, rfl, rfl, rfl, hA, hc⟩ pins s σ b u _ I r
  have hA : X.A = A := hA
  subst hA
  obtain rfl : u = Value.ref a := r
  obtain ⟨mA, O, _, _, _, _⟩ := ins_get I.hok e
  obtain ⟨od, J, _⟩ := O.look
  obtain ⟨rest, hrec⟩ := hp.rec_
  have I1 := I.tok (s.toks + 1)
  have hcl : (PySem.W.clsIn X.K C).isSome = true := by
    obtain ⟨cd, hc, _⟩ := PySem.W.any_some c.hd
    rw [hc]
    rfl
  refine PySem.W.get_bind I.kIn J (PySem.W.plainGet_of (c.get m)).1 (PySem.W.findObj_data hcl hp.at_ hp.get hp.tak) (PySem.W.plainGet_of (c.get m)).2 (wpAny_call (PySem.W.prop_get (s := { s with toks := s.toks + 1 }) I.kIn hrec ?_))
  refine codeAny_mono (F X.A.in1 X.stack { s with toks := s.toks + 1 } H [.ref a] [.ref a] Q E0 (hr.le hj).step I1.env0.in1 (.cons rfl .nil) h) fun r s' hq => ?_
  cases r with
  | error er =>
    obtain ⟨_, _, _, _, _, _, _, _, _, _, _, _, z⟩ := hq
    exact z.elim
  | ok fl =>
    cases fl with
    | ret u =>
      obtain ⟨v, H', I3, rv, q3⟩ := I1.after hq
      show wpAny _ _ (handedOut u) _ _ _
      rw [PySem.W.handedOut_of (handed_of rv)]
      exact wpAny_pure ⟨v, H', I3, rv, q3⟩
    | next => exact False.elim hq
    | brk => exact False.elim hq
    | cont => exact False.elim hq
/-- what a def promises, by how its arguments bind -/
def FnB (P : Program) (w : World) (K : PySem.W.Frag) (mg : Str → Option Value) (base : Heap) (k : Nat) (f : Addr) (fd : FuncData) (ps : List Str) (sp : Sp) : Prop :=
  ∀ (A : Around) (out : List Env) (s : Shared) (H : Hp) (args : Args) (us : List Value) (vs : List V) (Q : VK) (E : XK), Rm k A → Env0 P w K mg base A out s H → BindsTo s fd args (ps.zip us) → Vals vs us → sp vs H Q E →
    codeAny (model P w) A (.call (.ref f) args) (CR (L2.CX P w) out P w H s Q E) s
theorem FnB.z {fd : FuncData} {ps : List Str} {sp' : Sp} {dvs : List V} {ds : List Value} (F : FnB P w K mg base k f fd ps sp') (hb : Binds K fd ps ds) (hd : Vals dvs ds) (len : ∀ vs H Q E, sp vs H Q E → (vs ++ dvs).length = ps.length) (h : ∀ vs H Q E, sp vs H Q E → sp' (vs ++ dvs) H Q E) : FnZ P w K mg base k f sp := by
  intro A out s H us vs Q E hr e0 r q
  have rr : Vals (vs ++ dvs) (us ++ ds) := r.append hd
  have kx := e0.mod.kin.keeps fun b o e => (e0.bs b o e).1
  exact F A out s H ⟨us, []⟩ (us ++ ds) (vs ++ dvs) Q E hr e0 (hb s us kx (by rw [← rr.length]; exact len _ _ _ _ q)) rr (h _ _ _ _ q)
/-- the rule of a def -/
theorem fn_b {x qual : Str} {st : Stmt} {fd : FuncData} {N ps : List Str} {fdv : List V} {kws : List (Str × V)} (F : FunD K x qual (defArgs st) (defBody st) (defScope st) fdv kws f fd) (S : FnScope N ps (defScope st)) (t : En → WX → TS)
    (len : ∀ vs H Q E, sp vs H Q E → vs.length = ps.length)
    (hder : ∀ (cdv : Value) (A : Around) (outer : List Env) (s : Shared) (H : Hp) (E : XK), Of ⟨P, w, K, mg, base, A.deeper (envOfC qual (defScope st) s.heap.objs.size f cdv)⟩ (cxOf (L2.CX P w) P w K mg base N qual (defScope st) f cdv A outer s H E) →
      Takes (cxOf (L2.CX P w) P w K mg base N qual (defScope st) f cdv A outer s H E) (fun cls d _ H => E cls d H) →
      PSs (cxOf (L2.CX P w) P w K mg base N qual (defScope st) f cdv A outer s H E) (defBody st) (t ⟨P, w, K, mg, base, A.deeper (envOfC qual (defScope st) s.heap.objs.size f cdv)⟩ (fun cls d _ H => E cls d H)))
    (hread : ∀ (A : Around) (E : XK), Rm k A → ∀ vs H Q, sp vs H Q E → t ⟨P, w, K, mg, base, A⟩ (fun cls d _ H => E cls d H) { nx := fun _ H' => Q .non H', rt := Q } (start N vs) H) : FnB P w K mg base (k + 1) f fd ps sp := by
  obtain ⟨oc, od, dV, kV, doc, pm, an, cdv, ct, osl, rfl, lk, hcd, _, _⟩ := F.ex
  intro A out s H args us vs Q E hr e0 hb rr h
  have hl := len _ _ _ _ h
  have up : ∀ b o, base.get? b = some o → s.heap.get? b = some o := fun b o e => (e0.bs b o e).1
  have kx := e0.mod.kin.keeps up
  refine codeAny_call_function hr.depth (kx _ _ lk) rfl S.co S.gen rfl (PySem.W.codeRec_of kx hcd) (hb _ _ _ _ ?_)
  refine wpAny_newFunctionEnv_cells S.kind (fun y hy => ?_) fun env he s1 x => ?_
  · rcases S.par y.1 (List.of_mem_zip hy).1 with q | q
    · exact .inl q
    · exact .inr ⟨q, PySem.W.cellsFrom_some _ _ _ (.inl q)⟩
  cases he
  refine ⟨(e0.mod.nolimit.keeps up).keeps x.toInCall.keep, codeAny_func ?_⟩
  have J := inv_start (CX := L2.CX P w) (E := E) S hr.hd e0 hl rr x
  have D := hder cdv A out s H E ⟨rfl, rfl, rfl, rfl, rfl, rfl, rfl⟩ (takes_of rfl rfl rfl rfl)
  refine wpAny_mono (D.run [] s1 _ H _ J (hread _ E (hr.down _) vs H Q h)) (fun fl s2 z => ?_) fun _ _ z => z
  cases fl with
  | ret u => obtain ⟨v, σ, H2, I, rv, q⟩ := z; exact ⟨v, H2, I.os, I.bare, I.base, I.hok, rv, q⟩
  | next => obtain ⟨σ, H2, I, q⟩ := z; exact ⟨.non, H2, I.os, I.bare, I.base, I.hok, rfl, q⟩
  | brk => obtain ⟨_, _, _, q⟩ := z; exact q.elim
  | cont => obtain ⟨_, _, _, q⟩ := z; exact q.elim
/-- .. called by place -/
theorem fn_z {x qual : Str} {st : Stmt} {fd : FuncData} {N ps : List Str} {dvs fdv : List V} {kws : List (Str × V)} {ds : List Value} (F : FunD K x qual (defArgs st) (defBody st) (defScope st) fdv kws f fd) (S : FnScope N ps (defScope st)) (hb : Binds K fd ps ds) (hd : Vals dvs ds) (t : En → WX → TS)
    (len : ∀ vs H Q E, sp vs H Q E → (vs ++ dvs).length = ps.length)
    (hder : ∀ (cdv : Value) (A : Around) (outer : List Env) (s : Shared) (H : Hp) (E : XK), Of ⟨P, w, K, mg, base, A.deeper (envOfC qual (defScope st) s.heap.objs.size f cdv)⟩ (cxOf (L2.CX P w) P w K mg base N qual (defScope st) f cdv A outer s H E) →
      Takes (cxOf (L2.CX P w) P w K mg base N qual (defScope st) f cdv A outer s H E) (fun cls d _ H => E cls d H) →
      PSs (cxOf (L2.CX P w) P w K mg base N qual (defScope st) f cdv A outer s H E) (defBody st) (t ⟨P, w, K, mg, base, A.deeper (envOfC qual (defScope st) s.heap.objs.size f cdv)⟩ (fun cls d _ H => E cls d H)))
    (hread : ∀ (A : Around) (E : XK), Rm k A → ∀ vs H Q, sp vs H Q E → t ⟨P, w, K, mg, base, A⟩ (fun cls d _ H => E cls d H) { nx := fun _ H' => Q .non H', rt := Q } (start N (vs ++ dvs)) H) : FnZ P w K mg base (k + 1) f sp :=
  (fn_b (sp := fun vs H Q E => ∃ vs', vs = vs' ++ dvs ∧ sp vs' H Q E) F S t (fun vs H Q E h => by
    obtain ⟨v', rfl, h⟩ := h
    exact len _ _ _ _ h) hder fun A E hr vs H Q h => by
    obtain ⟨v', rfl, h⟩ := h
    exact hread A E hr v' H Q h).z hb hd len fun vs H Q E h => ⟨vs, rfl, h⟩
end

/-! more operations -/
theorem pip_v {e : En} {X : Cx} {op : Operator} (o : Of e X) : PIp X op (vOp e (inplaceOp op)) := fun pins s σ _ _ _ v u _ I rx ry h => h.run X o pins s σ v u I rx ry
structure vMt (e : En) (id : String) (x : V) (xs : List V) (H : Hp) (Q : VK) : Prop where
  run : ∀ (X : Cx), Of e X → ∀ (pins : List (Addr × Obj)) (s : Shared) (σ : L2.St) (v : Value) (us : List Value), Inv X pins σ H s → RelV x v → Vals xs us → wpAny (model X.prog X.w) X.A (call (.builtin id) (v :: us)) (EP X pins σ Q) X.xe s
theorem mtr_v {e : En} {X : Cx} {id : String} (o : Of e X) : MtR X id (vMt e id) := fun pins s σ _ _ _ v us _ I rx rs h => h.run X o pins s σ v us I rx rs
theorem vMt_of {e : En} {id : String} {r : V → List V → Hp → VK → Prop} (h : ∀ X, Of e X → MtR X id r) {x : V} {xs : List V} {H : Hp} {Q : VK} (q : r x xs H Q) : vMt e id x xs H Q := ⟨fun X o pins s σ v us I rx rs => h X o pins s σ H x xs v us Q I rx rs q⟩
theorem vMt_ofK {e : En} {id : String} {r : PySem.W.Frag → V → List V → Hp → VK → Prop} (h : ∀ X, Of e X → MtR X id (r X.K)) {x : V} {xs : List V} {H : Hp} {Q : VK} (q : r e.K x xs H Q) : vMt e id x xs H Q := ⟨fun X o pins s σ v us I rx rs =>
  h X o pins s σ H x xs v us Q I rx rs (by rw [o.K]; exact q)⟩
theorem of_blk {e : En} {X : Cx} (o : Of e X) {s : Shared} {H : Hp} {sc : Scope} {ce : Env} {fp : List Addr} : Of e (X.blk s H sc ce fp) := ⟨o.P, o.w, o.K, o.mg, o.base, o.A, o.calm⟩
theorem of_tr {e : En} {X : Cx} (o : Of e X) {pn : List (Addr × Obj)} {xe : Value → Shared → Prop} : Of e (X.tr pn xe) := ⟨o.P, o.w, o.K, o.mg, o.base, o.A, o.calm⟩
/-- and, or, not of values by truth -/
def byb (b : Bool) (A B : Prop) : Prop := match b with | true => A | false => B
theorem byb_t {A B : Prop} (h : A) : byb true A B := h
theorem byb_f {A B : Prop} (h : B) : byb false A B := h
theorem byb_d {c A B : Prop} [Decidable c] (h1 : c → A) (h2 : ¬ c → B) : byb (decide c) A B := by
  by_cases h : c
  · rw [decide_eq_true h]; exact h1 h
  · rw [decide_eq_false h]; exact h2 h
theorem byb_nd {c A B : Prop} [Decidable c] (h1 : c → B) (h2 : ¬ c → A) : byb (!decide c) A B := by
  by_cases h : c
  · rw [decide_eq_true h]; exact h1 h
  · rw [decide_eq_false h]; exact h2 h
theorem byb_b {b : Bool} {A B : Prop} (h1 : b = true → A) (h2 : b = false → B) : byb b A B := by
  cases b with
  | true => exact h1 rfl
  | false => exact h2 rfl
def tAndU (n : En) (ta tb : TE) : TE := fun σ H Q => ta σ H fun x H1 => vTru n x H1 fun b H2 => byb b (tb σ H2 Q) (Q x H2)
def tOrU (n : En) (ta tb : TE) : TE := fun σ H Q => ta σ H fun x H1 => vTru n x H1 fun b H2 => byb b (Q x H2) (tb σ H2 Q)
def tNotU (n : En) (ta : TE) : TE := fun σ H Q => ta σ H fun x H1 => vTru n x H1 fun b H2 => Q (.bl (!b)) H2
section
variable {n : En} {X : Cx} {W : WX} {a b : Expr} {rest : List Expr} {ta tb : TE} {pos : Pos}
theorem z_and (o : Of n X) (ha : PE X a ta) (hb : PE X (.BoolOp .And (b :: rest) pos) tb) : PE X (.BoolOp .And (a :: b :: rest) pos) (tAndU n ta tb) := by
  refine ⟨fun pins s σ H Q I h => ?_⟩
  refine BoolOp_and (thn (ha.run pins s σ H _ I h) fun v s1 ⟨x, H1, I1, r1, q1⟩ => ?_)
  refine thn (q1.run X o pins s1 σ v I1 r1) fun c s2 ⟨H2, I2, q2⟩ => ?_
  cases c with
  | true => exact hb.run pins s2 σ H2 Q I2 q2
  | false => exact ⟨x, H2, I2, r1, q2⟩
theorem z_or (o : Of n X) (ha : PE X a ta) (hb : PE X (.BoolOp .Or (b :: rest) pos) tb) : PE X (.BoolOp .Or (a :: b :: rest) pos) (tOrU n ta tb) := by
  refine ⟨fun pins s σ H Q I h => ?_⟩
  refine BoolOp_or (thn (ha.run pins s σ H _ I h) fun v s1 ⟨x, H1, I1, r1, q1⟩ => ?_)
  refine thn (q1.run X o pins s1 σ v I1 r1) fun c s2 ⟨H2, I2, q2⟩ => ?_
  cases c with
  | true => exact ⟨x, H2, I2, r1, q2⟩
  | false => exact hb.run pins s2 σ H2 Q I2 q2
theorem z_not (o : Of n X) (ha : PE X a ta) : PE X (.UnaryOp .Not a pos) (tNotU n ta) := by
  refine ⟨fun pins s σ H Q I h => ?_⟩
  refine UnaryOp_ (thn (ha.run pins s σ H _ I h) fun v s1 ⟨x, H1, I1, r1, q1⟩ => ?_)
  exact not_of (thn (q1.run X o pins s1 σ v I1 r1) fun c s2 ⟨H2, I2, q2⟩ => ⟨.bl (!c), H2, I2, rfl, q2⟩)
end

/-! ### events: the steps of a reading -/
section
variable {n : En} {H : Hp} {Q : VK} {W : XK} {x y z : V} {i j : Int} {a b p : Addr} {xs ys : List V}
theorem e_add (q : Q (.int (i + j)) H) : vOp n (binaryOp .Add) (.int i) (.int j) H Q := vOp_of (fun _ _ => op_add) ⟨i, j, rfl, rfl, q⟩
theorem e_sub (q : Q (.int (i - j)) H) : vOp n (binaryOp .Sub) (.int i) (.int j) H Q := vOp_of (fun _ _ => op_sub) ⟨i, j, rfl, rfl, q⟩
theorem e_mul (h : CMul i j) (q : Q (.int (i * j)) H) : vOp n (binaryOp .Mult) (.int i) (.int j) H Q := vOp_of (fun _ _ => op_mul) ⟨i, j, rfl, rfl, h, q⟩
theorem e_fdiv (h : CDiv i j) (q : Q (.int (i / j)) H) : vOp n (binaryOp .FloorDiv) (.int i) (.int j) H Q := vOp_of (fun _ _ => op_fdiv) ⟨i, j, rfl, rfl, h, q⟩
theorem e_mod (h : 0 < j) (q : Q (.int (i % j)) H) : vOp n (binaryOp .Mod) (.int i) (.int j) H Q := vOp_of (fun _ _ => op_mod) ⟨i, j, rfl, rfl, h, q⟩
theorem e_pow (h : CPow i j) (q : Q (.int (i ^ j.toNat)) H) : vOp n (binaryOp .Pow) (.int i) (.int j) H Q := vOp_of (fun _ _ => op_pow) ⟨i, j, rfl, rfl, h, q⟩
theorem e_iadd (q : Q (.int (i + j)) H) : vOp n (inplaceOp .Add) (.int i) (.int j) H Q := vOp_of (fun _ _ => iop_add) ⟨i, j, rfl, rfl, q⟩
theorem e_neg (q : Q (.int (-i)) H) : vUn n (unaryOp .USub) (.int i) H Q := vUn_of (fun _ _ => un_neg) ⟨i, rfl, q⟩
theorem e_lt (q : Q (.bl (decide (i < j))) H) : vOp n (compareOp .Lt) (.int i) (.int j) H Q := vOp_of (fun _ _ => op_lt) ⟨i, j, rfl, rfl, q⟩
theorem e_le (q : Q (.bl (decide (i ≤ j))) H) : vOp n (compareOp .LtE) (.int i) (.int j) H Q := vOp_of (fun _ _ => op_le) ⟨i, j, rfl, rfl, q⟩
theorem e_gt (q : Q (.bl (decide (j < i))) H) : vOp n (compareOp .Gt) (.int i) (.int j) H Q := vOp_of (fun _ _ => op_gt) ⟨i, j, rfl, rfl, q⟩
theorem e_ge (q : Q (.bl (decide (j ≤ i))) H) : vOp n (compareOp .GtE) (.int i) (.int j) H Q := vOp_of (fun _ _ => op_ge) ⟨i, j, rfl, rfl, q⟩
theorem e_eqI (q : Q (.bl (decide (i = j))) H) : vOp n (compareOp .Eq) (.int i) (.int j) H Q := vOp_of (fun _ _ => op_eq) ⟨rfl, by
  have e : decide (V.int i = V.int j) = decide (i = j) := by simp
  rw [e]; exact q⟩
theorem e_neI (q : Q (.bl (!decide (i = j))) H) : vOp n (compareOp .NotEq) (.int i) (.int j) H Q := vOp_of (fun _ _ => op_ne) ⟨rfl, by
  have e : decide (V.int i = V.int j) = decide (i = j) := by simp
  rw [e]; exact q⟩
theorem e_eq (h : scal x y = true) (q : Q (.bl (decide (x = y))) H) : vOp n (compareOp .Eq) x y H Q := vOp_of (fun _ _ => op_eq) ⟨h, q⟩
theorem e_ne (h : scal x y = true) (q : Q (.bl (!decide (x = y))) H) : vOp n (compareOp .NotEq) x y H Q := vOp_of (fun _ _ => op_ne) ⟨h, q⟩
theorem e_isN (q : Q (.bl (decide (x = .non))) H) : vOp n (compareOp .Is) x .non H Q := vOp_of (fun _ _ => op_isN) ⟨rfl, q⟩
theorem e_notN (q : Q (.bl (!decide (x = .non))) H) : vOp n (compareOp .IsNot) x .non H Q := vOp_of (fun _ _ => op_notN) ⟨rfl, q⟩
theorem e_ixL {v : V} (h : SqL n.K H a xs) (hi : atI xs i = some v) (q : Q v H) : vIx n (.ref a) (.int i) H Q := vIx_ofK (r := rIxL) (fun _ _ => ix_list) ⟨a, xs, i, v, rfl, rfl, h, hi, q⟩
theorem e_ixT {v : V} (h : SqT n.K H a xs) (hi : atI xs i = some v) (q : Q v H) : vIx n (.ref a) (.int i) H Q := vIx_ofK (r := rIxT) (fun _ _ => ix_tup) ⟨a, xs, i, v, rfl, rfl, h, hi, q⟩
theorem e_slL {lo hi : Option Int} (h : SqL n.K H a xs) (q : ∀ p, H p = none → Q (.ref p) (upd H p (.lst (cutV xs lo hi)))) : vSl n (.ref a) lo hi H Q := ⟨rSlL, fun _ _ => sl_list, a, xs, rfl, h, q⟩
theorem e_setL {k : Int} {m : Nat} {v : V} {R : Hp → Prop} (h : H a = some (.lst xs)) (hi : ixN xs.length k = some m) (q : R (upd H a (.lst (xs.set m v)))) : vSet n (.ref a) (.int k) v H R := vSet_of (fun _ _ => set_list) ⟨a, xs, k, m, rfl, rfl, h, hi, q⟩
theorem e_int (q : Q (.int i) H) : vCB n (.type "int") [.int i] H Q := vCB_of (fun _ _ => call_int1) (.inl ⟨i, rfl, q⟩)
theorem e_abs (q : Q (.int (if i < 0 then -i else i)) H) : vCB n (.builtin "abs") [.int i] H Q := vCB_of (fun _ _ => call_abs) ⟨i, rfl, q⟩
theorem e_max (q : Q (.int (if j > i then j else i)) H) : vCB n (.builtin "max") [.int i, .int j] H Q := vCB_of (r := fun xs H Q => ∃ i j, xs = [.int i, .int j] ∧ Q (.int (if j > i then j else i)) H) (fun _ o => call_max2 o.calm) ⟨i, j, rfl, q⟩
theorem e_min (q : Q (.int (if j < i then j else i)) H) : vCB n (.builtin "min") [.int i, .int j] H Q := vCB_of (r := fun xs H Q => ∃ i j, xs = [.int i, .int j] ∧ Q (.int (if j < i then j else i)) H) (fun _ o => call_min2 o.calm) ⟨i, j, rfl, q⟩
theorem e_divmod (h : CDiv i j) (q : ∀ p, H p = none → Q (.ref p) (upd H p (.tup [.int (i / j), .int (i % j)]))) : vCB n (.builtin "divmod") [.int i, .int j] H Q := vCB_of (fun _ _ => call_divmod) ⟨i, j, rfl, h, q⟩
theorem e_lenL (h : SqL n.K H a xs) (q : Q (.int xs.length) H) : vCB n (.builtin "len") [.ref a] H Q := vCB_ofK (r := fun K xs H Q => ∃ p ys, xs = [.ref p] ∧ (SqL K H p ys ∨ SqT K H p ys) ∧ Q (.int ys.length) H) (fun _ _ => call_len_seq) ⟨a, xs, rfl, .inl h, q⟩
theorem e_lenT (h : SqT n.K H a xs) (q : Q (.int xs.length) H) : vCB n (.builtin "len") [.ref a] H Q := vCB_ofK (r := fun K xs H Q => ∃ p ys, xs = [.ref p] ∧ (SqL K H p ys ∨ SqT K H p ys) ∧ Q (.int ys.length) H) (fun _ _ => call_len_seq) ⟨a, xs, rfl, .inr h, q⟩
theorem e_cat (h1 : H a = some (.lst xs)) (h2 : H b = some (.lst ys)) (hl : xs.length + ys.length ≤ sizeLine) (q : ∀ p, H p = none → Q (.ref p) (upd H p (.lst (xs ++ ys)))) : vOp n (binaryOp .Add) (.ref a) (.ref b) H Q :=
  vOp_of (fun _ _ => op_cat) ⟨a, b, xs, ys, rfl, rfl, h1, h2, hl, q⟩
theorem e_isi {t u : Value} {c : V} {r : Bool} (hc : ClsV c u) (ht : TyX n.K H x t) (hk : PySem.W.kitOne n.K t u = some r) (q : Q (.bl r) H) : vCB n (.builtin "isinstance") [x, c] H Q :=
  vCB_ofK (r := rIsi) (fun _ _ => call_isi) ⟨x, c, t, u, r, rfl, hc, ht, hk, q⟩
theorem e_tru {r : Bool} {R : Bool → Hp → Prop} (h : TruV n.K x H r) (q : R r H) : vTru n x H R := vTru_ofK (r := fun K x H Q => ∃ k, TruV K x H k ∧ Q k H) (fun _ _ => tru_ok) ⟨r, h, q⟩
theorem e_truB {r : Bool} {R : Bool → Hp → Prop} (q : R r H) : vTru n (.bl r) H R := e_tru (show TruV n.K (.bl r) H r from rfl) q
end
end Z

namespace Z
open PySem PySem.Spec PyProof.Rows L2

/-! ### heaps -/
def But (a : Addr) (H H' : Hp) : Prop := ∀ b o, b ≠ a → H b = some o → H' b = some o
theorem same_get {H H' : Hp} {a : Addr} {o : HO} (s : Same H H') (h : H a = some o) : H' a = some o := s a o h
theorem but_get {H H' : Hp} {a b : Addr} {o : HO} (s : But b H H') (n : a ≠ b) (h : H a = some o) : H' a = some o := s a o n h
theorem to_but {H H' : Hp} {a : Addr} (s : Same H H') : But a H H' := fun b o _ h => s b o h
theorem at0 {α : Type} {x : α} {xs : List α} : atI (x :: xs) 0 = some x := by simp [atI, ixN]
theorem But.trans {a : Addr} {H H1 H2 : Hp} (x : But a H H1) (y : But a H1 H2) : But a H H2 := fun b o n h => y b o n (x b o n h)
theorem But.refl (a : Addr) (H : Hp) : But a H H := fun _ _ _ h => h
theorem same_upd {H : Hp} {p : Addr} {o : HO} (n : H p = none) : Same H (upd H p o) := fun b u h => by rw [upd_ne (ne_of_none h n)]; exact h
theorem but_upd {H : Hp} {p : Addr} {o : HO} : But p H (upd H p o) := fun b u n h => by rw [upd_ne n]; exact h
theorem ne_fresh {H : Hp} {s p : Addr} {o : HO} (h : H s = some o) (n : H p = none) : p ≠ s := fun e => by rw [e, h] at n; cases n
theorem ne_fresh' {H : Hp} {s p : Addr} {o : HO} (h : H s = some o) (n : H p = none) : s ≠ p := fun e => (ne_fresh h n) e.symm
theorem Same.none {H H' : Hp} {p : Addr} (s : Same H H') (n : H' p = none) : H p = none := s.free n
/-- a change of what the elder heap did not know -/
theorem same_mut {H H' : Hp} {p : Addr} {o : HO} (s : Same H H') (n : H p = none) : Same H (upd H' p o) := fun b u h => by rw [upd_ne (ne_of_none h n)]; exact s b u h
theorem same_but {H H1 H2 : Hp} {p : Addr} (s : Same H H1) (b : But p H1 H2) (n : H p = none) : Same H H2 := fun c o h => b c o (ne_of_none h n) (s c o h)
/-- a new object, its heap a letter -/
theorem a_new {H : Hp} {o : HO} {Q : VK} (k : ∀ p H', H p = none → Same H H' → H' p = some o → Q (.ref p) H') : ∀ p, H p = none → Q (.ref p) (upd H p o) := fun p n => k p _ n (same_upd n) upd_same
/-- an object changed, its heap a letter -/
theorem a_set {H : Hp} {a : Addr} {o : HO} {R : Hp → Prop} (k : ∀ H', But a H H' → H' a = some o → R H') : R (upd H a o) := k _ but_upd upd_same
theorem sql_same {K : PySem.W.Frag} {H H' : Hp} {a : Addr} {xs : List V} (s : Same H H') (h : SqL K H a xs) : SqL K H' a xs := s.seq h
theorem sqt_same {K : PySem.W.Frag} {H H' : Hp} {a : Addr} {xs : List V} (e : Same H H') (h : SqT K H a xs) : SqT K H' a xs := by
  rcases h with (h | ⟨o, h⟩) | h
  · exact .inl (.inl (e _ _ h))
  · exact .inl (.inr ⟨o, e _ _ h⟩)
  · exact .inr h
/-- a tuple stays where a list or an instance changes -/
theorem tup_but {H H' : Hp} {a s : Addr} {xs : List V} {o : HO} (b : But s H H') (hs : H s = some o) (d : o ≠ .tup xs) (h : H a = some (.tup xs)) : H' a = some (.tup xs) := b a _ (fun e => by rw [e, hs] at h; exact d (Option.some.inj h)) h

/-! ### events with letters for heaps -/
section
variable {n : En} {H : Hp} {Q : VK} {W : XK} {x y z : V} {i j : Int} {a b p : Addr} {xs ys : List V}
theorem n_slL {lo hi : Option Int} (h : SqL n.K H a xs) (q : ∀ p H', H p = none → Same H H' → H' p = some (.lst (cutV xs lo hi)) → Q (.ref p) H') : vSl n (.ref a) lo hi H Q := e_slL h (a_new q)
theorem n_setL {k : Int} {m : Nat} {v : V} {R : Hp → Prop} (h : H a = some (.lst xs)) (hi : ixN xs.length k = some m) (q : ∀ H', But a H H' → H' a = some (.lst (xs.set m v)) → R H') : vSet n (.ref a) (.int k) v H R := e_setL h hi (a_set q)
theorem n_divmod (h : CDiv i j) (q : ∀ p H', H p = none → Same H H' → H' p = some (.tup [.int (i / j), .int (i % j)]) → Q (.ref p) H') : vCB n (.builtin "divmod") [.int i, .int j] H Q := e_divmod h (a_new q)
theorem n_cat (h1 : H a = some (.lst xs)) (h2 : H b = some (.lst ys)) (hl : xs.length + ys.length ≤ sizeLine) (q : ∀ p H', H p = none → Same H H' → H' p = some (.lst (xs ++ ys)) → Q (.ref p) H') : vOp n (binaryOp .Add) (.ref a) (.ref b) H Q := e_cat h1 h2 hl (a_new q)
end
/-- a written list, a written tuple -/
structure vLst (xs : List V) (H : Hp) (Q : VK) : Prop where
  run : xs.length ≤ sizeLine ∧ ∀ p, H p = none → Q (.ref p) (upd H p (.lst xs))
structure vTup (xs : List V) (H : Hp) (Q : VK) : Prop where
  run : xs.length ≤ sizeLine ∧ ∀ p, H p = none → Q (.ref p) (upd H p (.tup xs))
def uLst (t : TA) : TE := fun σ H Q => t σ H fun xs H1 => vLst xs H1 Q
def uTup (t : TA) : TE := fun σ H Q => t σ H fun xs H1 => vTup xs H1 Q
theorem z_lst {X : Cx} {es : List Expr} {t : TA} {pos : Pos} (h : PA X es t) : PE X (.List es pos) (uLst t) := ⟨fun pins s σ H Q I q => wpAny_List_spliced (thn (h.run pos pins s σ H _ I q) fun us s1 ⟨xs, H1, I1, r, ⟨z, k⟩⟩ =>
  ⟨by rw [← r.length]; exact z, .ref s1.heap.objs.size, _, I1.laid (t' := s1.toks) (fun b u e => Heap.get?_push_of_some _ e) (Nat.le_refl _) (by exact ⟨z, us, 0, r, Heap.get?_push_size _ rfl⟩), rfl, k _ (I1.hok.fresh (Nat.le_refl _))⟩)⟩
theorem z_tup {X : Cx} {es : List Expr} {t : TA} {x1} {pos : Pos} (h : PA X es t) : PE X (.Tuple es x1 pos) (uTup t) := ⟨fun pins s σ H Q I q => wpAny_Tuple_spliced (thn (h.run pos pins s σ H _ I q) fun us s1 ⟨xs, H1, I1, r, ⟨z, k⟩⟩ =>
  ⟨by rw [← r.length]; exact z, .ref s1.heap.objs.size, _, I1.laid (t' := s1.toks) (fun b u e => Heap.get?_push_of_some _ e) (Nat.le_refl _) (by exact ⟨z, us, r, ⟨_, Heap.get?_push_size _ rfl, rfl, _, rfl⟩⟩), rfl, k _ (I1.hok.fresh (Nat.le_refl _))⟩)⟩
theorem le_line {n : Nat} (h : Nat.ble n 1000 = true) : n ≤ sizeLine := Nat.le_trans (Nat.le_of_ble_eq_true h) (by decide)
theorem n_lst {xs : List V} {H : Hp} {Q : VK} (h : Nat.ble xs.length 1000 = true) (q : ∀ p H', H p = none → Same H H' → H' p = some (.lst xs) → Q (.ref p) H') : vLst xs H Q := ⟨⟨le_line h, a_new q⟩⟩
theorem n_tup {xs : List V} {H : Hp} {Q : VK} (h : Nat.ble xs.length 1000 = true) (q : ∀ p H', H p = none → Same H H' → H' p = some (.tup xs) → Q (.ref p) H') : vTup xs H Q := ⟨⟨le_line h, a_new q⟩⟩
/-! ### the readings that compute -/
def uTest (t : TE) : TT := fun σ H Q => t σ H fun x H1 => match x with | .bl k => Q k H1 | _ => False
theorem ex_bl {Q : Bool → Hp → Prop} {H : Hp} (x : V) : (∃ k, x = .bl k ∧ Q k H) = (match x with | .bl k => Q k H | _ => False) := by
  apply propext
  cases x <;> simp
theorem tTest_eq (t : TE) : tTest t = uTest t := by
  funext σ H Q
  show t σ H _ = t σ H _
  congr 1
  funext x H1
  exact ex_bl x
theorem byb_eq {b : Bool} {A B : Prop} : (if b = true then A else B) = byb b A B := by cases b <;> simp [byb]
def uIfS (c : TT) (t u : TS) : TS := fun D σ H => c σ H fun b H1 => byb b (t D σ H1) (u D σ H1)
theorem tIfS_eq (c : TT) (t u : TS) : tIfS c t u = uIfS c t u := by
  funext D σ H
  show c σ H _ = c σ H _
  congr 1
  funext b H1
  exact byb_eq
def uIf (c : TT) (t u : TE) : TE := fun σ H Q => c σ H fun b H1 => byb b (t σ H1 Q) (u σ H1 Q)
theorem tIf_eq (c : TT) (t u : TE) : tIf c t u = uIf c t u := by
  funext σ H Q
  show c σ H _ = c σ H _
  congr 1
  funext b H1
  exact byb_eq
def uAnd (t u : TT) : TT := fun σ H Q => t σ H fun b H1 => byb b (u σ H1 Q) (Q false H1)
theorem tAnd_eq (t u : TT) : tAnd t u = uAnd t u := by
  funext σ H Q
  show t σ H _ = t σ H _
  congr 1
  funext b H1
  exact byb_eq
def uOr (t u : TT) : TT := fun σ H Q => t σ H fun b H1 => byb b (Q true H1) (u σ H1 Q)
theorem tOr_eq (t u : TT) : tOr t u = uOr t u := by
  funext σ H Q
  show t σ H _ = t σ H _
  congr 1
  funext b H1
  exact byb_eq
def uChain (r r' : R2) (ta tb tc : TE) : TE := fun σ H Q => ta σ H fun x H1 => tb σ H1 fun y H2 => r x y H2 fun z H3 => match z with | .bl k => byb k (tc σ H3 fun w' H4 => r' y w' H4 Q) (Q (.bl false) H3) | _ => False
theorem tChain_eq (r r' : R2) (ta tb tc : TE) : tChain r r' ta tb tc = uChain r r' ta tb tc := by
  funext σ H Q
  show ta σ H _ = ta σ H _
  congr 1
  funext x H1
  congr 1
  funext y H2
  congr 1
  funext z H3
  rw [← ex_bl (Q := fun k H3 => byb k (tc σ H3 fun w' H4 => r' y w' H4 Q) (Q (.bl false) H3))]
  apply propext
  constructor
  · rintro ⟨k, e, h⟩
    exact ⟨k, e, by rw [← byb_eq]; exact h⟩
  · rintro ⟨k, e, h⟩
    exact ⟨k, e, by rw [byb_eq]; exact h⟩
def uPart (t : TE) : TO := fun σ H Q => t σ H fun x H1 => match x with | .int i => Q (some i) H1 | _ => False
theorem tPart_eq (t : TE) : tPart t = uPart t := by
  funext σ H Q
  show t σ H _ = t σ H _
  congr 1
  funext x H1
  apply propext
  cases x <;> simp
def uCons (t : TG) (u : TGs) : TGs := fun vs σ H Q => match vs with | v :: r => t v σ H fun σ' H' => u r σ' H' Q | [] => False
theorem gCons_eq (t : TG) (u : TGs) : gCons t u = uCons t u := by
  funext vs σ H Q
  apply propext
  cases vs with
  | nil => exact ⟨fun ⟨v, r, e, _⟩ => by (cases e), fun h => h.elim⟩
  | cons v r => exact ⟨fun ⟨v, r, e, h⟩ => by (cases e; exact h), fun h => ⟨v, r, rfl, h⟩⟩
def uNil : TGs := fun vs σ H Q => match vs with | [] => Q σ H | _ => False
theorem gNil_eq : gNil = uNil := by
  funext vs σ H Q
  apply propext
  cases vs with
  | nil => exact ⟨fun ⟨_, h⟩ => h, fun h => ⟨rfl, h⟩⟩
  | cons v r => exact ⟨fun ⟨e, _⟩ => by (cases e), fun h => h.elim⟩
def uPar (i j : Nat) (ta : TA) : TS := fun D σ H => ta σ H fun vs H1 => match vs with | [v, w] => D.nx ((σ.set i (some v)).set j (some w)) H1 | _ => False
theorem tPar_eq (i j : Nat) (ta : TA) : tPar i j ta = uPar i j ta := by
  funext D σ H
  show ta σ H _ = ta σ H _
  congr 1
  funext vs H1
  apply propext
  match vs with
  | [] => exact ⟨fun ⟨_, _, e, _⟩ => by (cases e), fun h => h.elim⟩
  | [_] => exact ⟨fun ⟨_, _, e, _⟩ => by (cases e), fun h => h.elim⟩
  | [v, w] => exact ⟨fun ⟨_, _, e, h⟩ => by (cases e; exact h), fun h => ⟨v, w, rfl, h⟩⟩
  | _ :: _ :: _ :: _ => exact ⟨fun ⟨_, _, e, _⟩ => by (cases e), fun h => h.elim⟩
def uAug (i : Nat) (te : TE) (ti : TIp) : TS := fun D σ H => match σ[i]? with | some (some x) => te σ H fun y H1 => ti x y H1 fun z H2 => D.nx (σ.set i (some z)) H2 | _ => False
theorem tAug_eq (i : Nat) (te : TE) (ti : TIp) : tAug i te ti = uAug i te ti := by
  funext D σ H
  apply propext
  show (∃ x, σ[i]? = some (some x) ∧ _) ↔ _
  unfold uAug
  split
  · rename_i x e
    exact ⟨fun ⟨y, e2, h⟩ => by rw [e] at e2; cases e2; exact h, fun h => ⟨x, e, h⟩⟩
  · rename_i n
    exact ⟨fun ⟨y, e2, _⟩ => (n y e2).elim, fun h => h.elim⟩
/-- a, b, .. = e -/
structure vUnp (K : PySem.W.Frag) (m : Nat) (v : V) (H : Hp) (R : List V → Prop) : Prop where
  run : ∃ a xs, v = .ref a ∧ SqT K H a xs ∧ xs.length = m ∧ R xs
theorem n_unp {K : PySem.W.Frag} {m : Nat} {a : Addr} {xs : List V} {H : Hp} {R : List V → Prop} (h : SqT K H a xs) (hl : xs.length = m) (q : R xs) : vUnp K m (.ref a) H R := ⟨a, xs, rfl, h, hl, q⟩
def uTupG (K : PySem.W.Frag) (m : Nat) (t : TGs) : TG := fun v σ H Q => vUnp K m v H fun xs => t xs σ H Q
theorem gTup_eq (K : PySem.W.Frag) (m : Nat) (t : TGs) : gTup K m t = uTupG K m t := by
  funext v σ H Q
  exact propext ⟨fun h => ⟨h⟩, fun h => h.run⟩
section
variable {X : Cx} {a b c e : Expr} {ta tb tc te : TE} {tA tB' : TT} {pos : Pos} {op op' : CmpOp} {r r' : R2}
theorem z_cmpT (ho : OpR X (compareOp op) r) (ha : PE X a ta) (hb : PE X b tb) (hm : behindInMarks op b = false) : PT X (.Compare a [op] [b] pos) (uTest (tOp r ta tb)) := tTest_eq _ ▸ pt_cmpR ho ha hb hm
theorem z_chain (ho : OpR X (compareOp op) r) (ho' : OpR X (compareOp op') r') (ha : PE X a ta) (hb : PE X b tb) (hc : PE X c tc) (hm : lastMarks [op, op'] [b, c] = false := by with_unfolding_all rfl) : PE X (.Compare a [op, op'] [b, c] pos) (uChain r r' ta tb tc) :=
  tChain_eq _ _ _ _ _ ▸ pe_chain ho ho' ha hb hc hm
theorem z_chainT (ho : OpR X (compareOp op) r) (ho' : OpR X (compareOp op') r') (ha : PE X a ta) (hb : PE X b tb) (hc : PE X c tc) (hm : lastMarks [op, op'] [b, c] = false := by with_unfolding_all rfl) : PT X (.Compare a [op, op'] [b, c] pos) (uTest (uChain r r' ta tb tc)) :=
  tChain_eq _ _ _ _ _ ▸ tTest_eq _ ▸ pt_chain ho ho' ha hb hc hm
theorem z_if {c : Expr} {s1 s2 : List Stmt} {t u : TS} (hc : PT X c tA) (h1 : PSs X s1 t) (h2 : PSs X s2 u) : PS X (.If c s1 s2 pos) (uIfS tA t u) := tIfS_eq _ _ _ ▸ ps_if hc h1 h2
theorem z_ifE (hc : PT X c tA) (ha : PE X a ta) (hb : PE X b tb) : PE X (.IfExp c a b pos) (uIf tA ta tb) := tIf_eq _ _ _ ▸ pe_ifExp hc ha hb
theorem zw_and {rest : List Expr} (ha : PT X a tA) (hb : PW X (.BoolOp .And (b :: rest) pos) tB') : PW X (.BoolOp .And (a :: b :: rest) pos) (uAnd tA tB') := tAnd_eq _ _ ▸ pw_and ha hb
theorem zw_or {rest : List Expr} (ha : PT X a tA) (hb : PW X (.BoolOp .Or (b :: rest) pos) tB') : PW X (.BoolOp .Or (a :: b :: rest) pos) (uOr tA tB') := tOr_eq _ _ ▸ pw_or ha hb
theorem z_part (h : PE X e te) : PO X (some e) (uPart te) := tPart_eq _ ▸ po_some h
theorem c_nil {es : List Expr} (h : PGs X es gNil) : PGs X es uNil := gNil_eq ▸ h
theorem c_cons {es : List Expr} {t : TG} {u : TGs} (h : PGs X es (gCons t u)) : PGs X es (uCons t u) := gCons_eq _ _ ▸ h
theorem c_tup {e : Expr} {K : PySem.W.Frag} {m : Nat} {t : TGs} (h : PG X e (gTup K m t)) : PG X e (uTupG K m t) := gTup_eq _ _ _ ▸ h
theorem c_par {st : Stmt} {i j : Nat} {t : TA} (h : PS X st (tPar i j t)) : PS X st (uPar i j t) := tPar_eq _ _ _ ▸ h
theorem c_aug {st : Stmt} {i : Nat} {t : TE} {ti : TIp} (h : PS X st (tAug i t ti)) : PS X st (uAug i t ti) := tAug_eq _ _ _ ▸ h
end
/-! ### equality of data -/
theorem canInts : ∀ ns : List Int, PyData.canLayAll0 (ns.map PyData.int) = true
  | [] => by simp [PyData.canLayAll0]
  | n :: r => by simp [PyData.canLayAll0, PyData.canLay0, canInts r]
theorem depInts : ∀ ns : List Int, PyData.depthAll (ns.map PyData.int) = 0
  | [] => by simp [PyData.depthAll]
  | n :: r => by simp [PyData.depthAll, PyData.depth, depInts r]
theorem shL (ns : List Int) : SeqAt.shaped (.list (ns.map PyData.int)) = true := by simp [SeqAt.shaped, PyData.canLay0, PyData.depth, canInts, depInts]
theorem shT (ns : List Int) : SeqAt.shaped (.tuple (ns.map PyData.int)) = true := by simp [SeqAt.shaped, PyData.canLay0, PyData.depth, canInts, depInts]
theorem dpInts {K : PySem.W.Frag} {H : Hp} : ∀ ns : List Int, DpAll K H (ns.map V.int) (ns.map PyData.int)
  | [] => .nil
  | n :: r => .cons (.int n) (dpInts r)
section
variable {P : Program} {w : World} {K : PySem.W.Frag} {mg : Str → Option Value} {base : Heap} {A : Around} {k : Nat} {H : Hp} {Q : VK} {x y : V} {a b : Addr} {ns ms : List Int} {d e : PyData}
theorem e_eqD (hr : Rm k A) (hx : Dp K H x d) (hy : Dp K H y e) (sx : SeqAt.shaped d = true) (sy : SeqAt.shaped e = true) (q : Q (.bl (PyData.eqv d e)) H) : vOp ⟨P, w, K, mg, base, A⟩ (compareOp .Eq) x y H Q :=
  vOp_ofK (r := rEqD) (fun X o => op_eqD (by rw [o.A]; exact hr.units)) ⟨d, e, hx, hy, sx, sy, q⟩
theorem e_neD (hr : Rm k A) (hx : Dp K H x d) (hy : Dp K H y e) (sx : SeqAt.shaped d = true) (sy : SeqAt.shaped e = true) (q : Q (.bl (!PyData.eqv d e)) H) : vOp ⟨P, w, K, mg, base, A⟩ (compareOp .NotEq) x y H Q :=
  vOp_ofK (r := rNeD) (fun X o => op_neD (by rw [o.A]; exact hr.units)) ⟨d, e, hx, hy, sx, sy, q⟩
/-- lists of ints, tuples of ints -/
theorem e_neLI (hr : Rm k A) (hx : SqL K H a (ns.map V.int)) (hy : SqL K H b (ms.map V.int)) (q : Q (.bl (!decide (ns = ms))) H) : vOp ⟨P, w, K, mg, base, A⟩ (compareOp .NotEq) (.ref a) (.ref b) H Q :=
  e_neD hr (.lst hx (dpInts ns)) (.lst hy (dpInts ms)) (shL ns) (shL ms) (by simpa [PyData.eqv, PySem.W.ked_eqvAll] using q)
theorem e_eqTI (hr : Rm k A) (hx : SqT K H a (ns.map V.int)) (hy : SqT K H b (ms.map V.int)) (q : Q (.bl (decide (ns = ms))) H) : vOp ⟨P, w, K, mg, base, A⟩ (compareOp .Eq) (.ref a) (.ref b) H Q :=
  e_eqD hr (.tup hx (dpInts ns)) (.tup hy (dpInts ms)) (shT ns) (shT ms) (by simpa [PyData.eqv, PySem.W.ked_eqvAll] using q)
theorem e_ltTI (hr : Rm k A) (hx : SqT K H a (ns.map V.int)) (hy : SqT K H b (ms.map V.int)) (q : Q (.bl (HT.lexLt ns ms)) H) : vOp ⟨P, w, K, mg, base, A⟩ (compareOp .Lt) (.ref a) (.ref b) H Q :=
  vOp_ofK (r := rLtT) (fun X o => op_ltT (by rw [o.A]; exact hr.units0)) ⟨a, b, ns, ms, rfl, rfl, hx, hy, q⟩
end

/-! ### isinstance -/
theorem kit_int_int {K : PySem.W.Frag} : PySem.W.kitOne K (.type "int") (.type "int") = some true := kit_ty (by decide +kernel)
theorem kit_int_bool {K : PySem.W.Frag} : PySem.W.kitOne K (.type "int") (.type "bool") = some false := kit_ty (by decide +kernel)

/-! ### slices -/
theorem cut_drop (k : Nat) (xs : List V) : cutV xs (some (k : Int)) none = xs.drop k := by
  unfold cutV
  rw [HT.sIx_nat, HT.sIx_none]
  by_cases h : k ≤ xs.length
  · rw [Nat.min_eq_left h, List.take_of_length_le (by rw [List.length_drop]; omega)]
  · rw [Nat.min_eq_right (by omega), List.drop_of_length_le (by omega : xs.length ≤ xs.length), List.drop_of_length_le (by omega : xs.length ≤ k), List.take_nil]
theorem cut_take (k : Nat) (xs : List V) : cutV xs none (some (k : Int)) = xs.take k := by
  unfold cutV
  rw [HT.sIx_nat, HT.sIx_none, List.drop_zero]
  by_cases h : k ≤ xs.length
  · rw [Nat.min_eq_left h]
    rfl
  · rw [Nat.min_eq_right (by omega), List.take_of_length_le (by omega), List.take_of_length_le (by omega)]
/-! ### loops, comprehensions -/
/-- for .. in a list, a tuple, a range -/
structure vForL (K : PySem.W.Frag) (x : V) (g : TG) (tb : TS) (D : Ends) (σ : L2.St) (H : Hp) : Prop where
  run : tFor (iList K (tC x)) g tb D σ H
structure vForT (K : PySem.W.Frag) (x : V) (g : TG) (tb : TS) (D : Ends) (σ : L2.St) (H : Hp) : Prop where
  run : tFor (iTup K (tC x)) g tb D σ H
structure vForR1 (xs : List V) (g : TG) (tb : TS) (D : Ends) (σ : L2.St) (H : Hp) : Prop where
  run : tFor (iRng1 fun _ H Q => Q xs H) g tb D σ H
structure vForR2 (xs : List V) (g : TG) (tb : TS) (D : Ends) (σ : L2.St) (H : Hp) : Prop where
  run : tFor (iRng2 fun _ H Q => Q xs H) g tb D σ H
def uForL (K : PySem.W.Frag) (tl : TE) (g : TG) (tb : TS) : TS := fun D σ H => tl σ H fun x H1 => vForL K x g tb D σ H1
def uForT (K : PySem.W.Frag) (tl : TE) (g : TG) (tb : TS) : TS := fun D σ H => tl σ H fun x H1 => vForT K x g tb D σ H1
def uForR1 (ta : TA) (g : TG) (tb : TS) : TS := fun D σ H => ta σ H fun xs H1 => vForR1 xs g tb D σ H1
def uForR2 (ta : TA) (g : TG) (tb : TS) : TS := fun D σ H => ta σ H fun xs H1 => vForR2 xs g tb D σ H1
theorem forL_eq {K : PySem.W.Frag} {tl : TE} {g : TG} {tb : TS} : tFor (iList K tl) g tb = uForL K tl g tb := by
  funext D σ H
  show tl σ H _ = tl σ H _
  congr 1
  funext x H1
  exact propext ⟨fun h => ⟨h⟩, fun h => h.run⟩
theorem forT_eq {K : PySem.W.Frag} {tl : TE} {g : TG} {tb : TS} : tFor (iTup K tl) g tb = uForT K tl g tb := by
  funext D σ H
  show tl σ H _ = tl σ H _
  congr 1
  funext x H1
  exact propext ⟨fun h => ⟨h⟩, fun h => h.run⟩
theorem forR1_eq {ta : TA} {g : TG} {tb : TS} : tFor (iRng1 ta) g tb = uForR1 ta g tb := by
  funext D σ H
  show ta σ H _ = ta σ H _
  congr 1
  funext x H1
  exact propext ⟨fun h => ⟨h⟩, fun h => h.run⟩
theorem forR2_eq {ta : TA} {g : TG} {tb : TS} : tFor (iRng2 ta) g tb = uForR2 ta g tb := by
  funext D σ H
  show ta σ H _ = ta σ H _
  congr 1
  funext x H1
  exact propext ⟨fun h => ⟨h⟩, fun h => h.run⟩
theorem c_forL {X : Cx} {st : Stmt} {K : PySem.W.Frag} {tl : TE} {g : TG} {tb : TS} (h : PS X st (tFor (iList K tl) g tb)) : PS X st (uForL K tl g tb) := forL_eq ▸ h
theorem c_forT {X : Cx} {st : Stmt} {K : PySem.W.Frag} {tl : TE} {g : TG} {tb : TS} (h : PS X st (tFor (iTup K tl) g tb)) : PS X st (uForT K tl g tb) := forT_eq ▸ h
theorem c_forR1 {X : Cx} {st : Stmt} {ta : TA} {g : TG} {tb : TS} (h : PS X st (tFor (iRng1 ta) g tb)) : PS X st (uForR1 ta g tb) := forR1_eq ▸ h
theorem c_forR2 {X : Cx} {st : Stmt} {ta : TA} {g : TG} {tb : TS} (h : PS X st (tFor (iRng2 ta) g tb)) : PS X st (uForR2 ta g tb) := forR2_eq ▸ h
section
variable {K : PySem.W.Frag} {a : Addr} {xs : List V} {g : TG} {tb : TS} {D : Ends} {σ : L2.St} {H : Hp} {i j : Int}
theorem n_forL (Pv : Nat → L2.St → Hp → Prop) (hx : SqL K H a xs) (h0 : Pv 0 σ H) (hl : ∀ i σ H, i ≤ xs.length → Pv i σ H → SqL K H a xs)
    (hs : ∀ i x σ H, xs[i]? = some x → Pv i σ H → g x σ H fun σ2 H2 => tb { D with nx := Pv (i + 1), ct := Pv (i + 1), bk := D.nx } σ2 H2) (hd : ∀ σ H, Pv xs.length σ H → D.nx σ H) : vForL K (.ref a) g tb D σ H :=
  ⟨⟨a, rfl, ⟨xs, hx⟩, for_list (xs := xs) Pv h0 hl hs hd⟩⟩
theorem n_forT (Pv : Nat → L2.St → Hp → Prop) (hx : SqT K H a xs) (h0 : Pv 0 σ H) (hl : ∀ i σ H, i ≤ xs.length → Pv i σ H → SqT K H a xs)
    (hs : ∀ i x σ H, xs[i]? = some x → Pv i σ H → g x σ H fun σ2 H2 => tb { D with nx := Pv (i + 1), ct := Pv (i + 1), bk := D.nx } σ2 H2) (hd : ∀ σ H, Pv xs.length σ H → D.nx σ H) : vForT K (.ref a) g tb D σ H :=
  ⟨⟨a, rfl, ⟨xs, hx⟩, for_tup (xs := xs) Pv h0 hl hs hd⟩⟩
theorem n_forR1 (Pv : Nat → L2.St → Hp → Prop) (h1 : -(2 ^ 62) ≤ j) (h2 : j < 2 ^ 62) (h0 : Pv 0 σ H)
    (hs : ∀ (i : Nat) σ H, (i : Int) < j → Pv i σ H → g (.int (i : Int)) σ H fun σ2 H2 => tb { D with nx := Pv (i + 1), ct := Pv (i + 1), bk := D.nx } σ2 H2) (hd : ∀ σ H, Pv j.toNat σ H → D.nx σ H) : vForR1 [.int j] g tb D σ H :=
  ⟨⟨j, rfl, h1, h2, for_range (lo := 0) (n := j.toNat) Pv h0 (fun i σ H hi p => by
    have e : (0 : Int) + (i : Int) = (i : Int) := Int.zero_add _
    rw [e]
    exact hs i σ H (by omega) p) hd⟩⟩
theorem n_forR2 (Pv : Nat → L2.St → Hp → Prop) (h1 : -(2 ^ 62) ≤ i ∧ i < 2 ^ 62 ∧ -(2 ^ 62) ≤ j ∧ j < 2 ^ 62) (h0 : Pv 0 σ H)
    (hs : ∀ (k : Nat) σ H, i + (k : Int) < j → Pv k σ H → g (.int (i + (k : Int))) σ H fun σ2 H2 => tb { D with nx := Pv (k + 1), ct := Pv (k + 1), bk := D.nx } σ2 H2) (hd : ∀ σ H, Pv (j - i).toNat σ H → D.nx σ H) : vForR2 [.int i, .int j] g tb D σ H :=
  ⟨⟨i, j, rfl, h1, for_range (lo := i) (n := (j - i).toNat) Pv h0 (fun k σ H hi p => hs k σ H (by omega) p) hd⟩⟩
end
/-- [e for .. in a list, a tuple, a range] -/
structure vLcL (K : PySem.W.Frag) (x : V) (g : TG) (tt : TT) (te : TE) (vs : List Nat) (σ : L2.St) (H : Hp) (Q : VK) : Prop where
  run : tLc (iList K (tC x)) g tt te vs σ H Q
structure vLcT (K : PySem.W.Frag) (x : V) (g : TG) (tt : TT) (te : TE) (vs : List Nat) (σ : L2.St) (H : Hp) (Q : VK) : Prop where
  run : tLc (iTup K (tC x)) g tt te vs σ H Q
structure vLcR1 (xs : List V) (g : TG) (tt : TT) (te : TE) (vs : List Nat) (σ : L2.St) (H : Hp) (Q : VK) : Prop where
  run : tLc (iRng1 fun _ H Q => Q xs H) g tt te vs σ H Q
structure vLcR2 (xs : List V) (g : TG) (tt : TT) (te : TE) (vs : List Nat) (σ : L2.St) (H : Hp) (Q : VK) : Prop where
  run : tLc (iRng2 fun _ H Q => Q xs H) g tt te vs σ H Q
def uLcL (K : PySem.W.Frag) (tl : TE) (g : TG) (tt : TT) (te : TE) (vs : List Nat) : TE := fun σ H Q => tl σ H fun x H1 => vLcL K x g tt te vs σ H1 Q
def uLcT (K : PySem.W.Frag) (tl : TE) (g : TG) (tt : TT) (te : TE) (vs : List Nat) : TE := fun σ H Q => tl σ H fun x H1 => vLcT K x g tt te vs σ H1 Q
def uLcR1 (ta : TA) (g : TG) (tt : TT) (te : TE) (vs : List Nat) : TE := fun σ H Q => ta σ H fun xs H1 => vLcR1 xs g tt te vs σ H1 Q
def uLcR2 (ta : TA) (g : TG) (tt : TT) (te : TE) (vs : List Nat) : TE := fun σ H Q => ta σ H fun xs H1 => vLcR2 xs g tt te vs σ H1 Q
theorem lcL_eq {K : PySem.W.Frag} {tl : TE} {g : TG} {tt : TT} {te : TE} {vs : List Nat} : tLc (iList K tl) g tt te vs = uLcL K tl g tt te vs := by
  funext σ H Q
  show tl σ H _ = tl σ H _
  congr 1
  funext x H1
  exact propext ⟨fun h => ⟨h⟩, fun h => h.run⟩
theorem lcT_eq {K : PySem.W.Frag} {tl : TE} {g : TG} {tt : TT} {te : TE} {vs : List Nat} : tLc (iTup K tl) g tt te vs = uLcT K tl g tt te vs := by
  funext σ H Q
  show tl σ H _ = tl σ H _
  congr 1
  funext x H1
  exact propext ⟨fun h => ⟨h⟩, fun h => h.run⟩
theorem lcR1_eq {ta : TA} {g : TG} {tt : TT} {te : TE} {vs : List Nat} : tLc (iRng1 ta) g tt te vs = uLcR1 ta g tt te vs := by
  funext σ H Q
  show ta σ H _ = ta σ H _
  congr 1
  funext x H1
  exact propext ⟨fun h => ⟨h⟩, fun h => h.run⟩
theorem lcR2_eq {ta : TA} {g : TG} {tt : TT} {te : TE} {vs : List Nat} : tLc (iRng2 ta) g tt te vs = uLcR2 ta g tt te vs := by
  funext σ H Q
  show ta σ H _ = ta σ H _
  congr 1
  funext x H1
  exact propext ⟨fun h => ⟨h⟩, fun h => h.run⟩
theorem c_lcL {X : Cx} {e : Expr} {K : PySem.W.Frag} {tl : TE} {g : TG} {tt : TT} {te : TE} {vs : List Nat} (h : PE X e (tLc (iList K tl) g tt te vs)) : PE X e (uLcL K tl g tt te vs) := lcL_eq ▸ h
theorem c_lcT {X : Cx} {e : Expr} {K : PySem.W.Frag} {tl : TE} {g : TG} {tt : TT} {te : TE} {vs : List Nat} (h : PE X e (tLc (iTup K tl) g tt te vs)) : PE X e (uLcT K tl g tt te vs) := lcT_eq ▸ h
theorem c_lcR1 {X : Cx} {e : Expr} {ta : TA} {g : TG} {tt : TT} {te : TE} {vs : List Nat} (h : PE X e (tLc (iRng1 ta) g tt te vs)) : PE X e (uLcR1 ta g tt te vs) := lcR1_eq ▸ h
theorem c_lcR2 {X : Cx} {e : Expr} {ta : TA} {g : TG} {tt : TT} {te : TE} {vs : List Nat} (h : PE X e (tLc (iRng2 ta) g tt te vs)) : PE X e (uLcR2 ta g tt te vs) := lcR2_eq ▸ h
theorem s_lcL {X : Cx} {st : Stmt} {i : Nat} {K : PySem.W.Frag} {tl : TE} {g : TG} {tt : TT} {te : TE} {vs : List Nat} (h : PS X st (tAsg (tLc (iList K tl) g tt te vs) (gName i))) : PS X st (tAsg (uLcL K tl g tt te vs) (gName i)) := lcL_eq ▸ h
theorem s_lcT {X : Cx} {st : Stmt} {i : Nat} {K : PySem.W.Frag} {tl : TE} {g : TG} {tt : TT} {te : TE} {vs : List Nat} (h : PS X st (tAsg (tLc (iTup K tl) g tt te vs) (gName i))) : PS X st (tAsg (uLcT K tl g tt te vs) (gName i)) := lcT_eq ▸ h
theorem s_lcR1 {X : Cx} {st : Stmt} {i : Nat} {ta : TA} {g : TG} {tt : TT} {te : TE} {vs : List Nat} (h : PS X st (tAsg (tLc (iRng1 ta) g tt te vs) (gName i))) : PS X st (tAsg (uLcR1 ta g tt te vs) (gName i)) := lcR1_eq ▸ h
theorem s_lcR2 {X : Cx} {st : Stmt} {i : Nat} {ta : TA} {g : TG} {tt : TT} {te : TE} {vs : List Nat} (h : PS X st (tAsg (tLc (iRng2 ta) g tt te vs) (gName i))) : PS X st (tAsg (uLcR2 ta g tt te vs) (gName i)) := lcR2_eq ▸ h
/-- an element is put at the end of the comprehension's list at D -/
structure vPut (D : Addr) (y : V) (H : Hp) (R : Hp → Prop) : Prop where
  run : ∃ acc, H D = some (.lst acc) ∧ acc.length < sizeLine ∧ R (upd H D (.lst (acc ++ [y])))
/-- one turn: the target at x, the test, the element, Next behind -/
def lcTurn (g : TG) (tt : TT) (te : TE) (vs : List Nat) (σ : L2.St) (D : Addr) (x : V) (H : Hp) (Next : Hp → Prop) : Prop :=
  g x (wipe σ vs) H fun σ2 H2 => wipe σ2 vs = wipe σ vs ∧ tt σ2 H2 fun b H3 => byb b (te σ2 H3 fun y H4 => vPut D y H4 Next) (Next H3)
section
variable {K : PySem.W.Frag} {a : Addr} {xs : List V} {g : TG} {tt : TT} {te : TE} {vs : List Nat} {σ : L2.St} {H : Hp} {Q : VK} {i j : Int}
theorem turn_eq {D : Addr} {x : V} {Next : Hp → Prop} (h : lcTurn g tt te vs σ D x H Next) : g x (wipe σ vs) H fun σ2 H2 => wipe σ2 vs = wipe σ vs ∧ tt σ2 H2 fun b H3 =>
      if b = true then te σ2 H3 fun y H4 => ∃ acc, H4 D = some (.lst acc) ∧ acc.length < sizeLine ∧ Next (upd H4 D (.lst (acc ++ [y]))) else Next H3 := by
  have e : (fun σ2 H2 => wipe σ2 vs = wipe σ vs ∧ tt σ2 H2 fun b H3 => if b = true then te σ2 H3 fun y H4 => ∃ acc, H4 D = some (.lst acc) ∧ acc.length < sizeLine ∧ Next (upd H4 D (.lst (acc ++ [y]))) else Next H3) =
      fun σ2 H2 => wipe σ2 vs = wipe σ vs ∧ tt σ2 H2 fun b H3 => byb b (te σ2 H3 fun y H4 => vPut D y H4 Next) (Next H3) := by
    funext σ2 H2
    congr 2
    funext b H3
    rw [byb_eq]
    congr 2
    funext y H4
    exact propext ⟨fun h => ⟨h⟩, fun h => h.run⟩
  rw [e]
  exact h
/-- over a list: P tells of the turn, of what was made so far and of the heap -/
theorem n_lcL (P : Addr → Nat → List V → Hp → Prop) (hx : SqL K H a xs) (hz : xs.length ≤ 1000000) (h0 : ∀ D H1, H D = none → Same H H1 → H1 D = some (.lst []) → P D 0 [] H1)
    (hs : ∀ D i x ys H1 (Next : Hp → Prop), xs[i]? = some x → H D = none → Same H H1 → H1 D = some (.lst ys) → P D i ys H1 → ys.length ≤ i → i < xs.length →
      (∀ ys' H2, Same H H2 → H2 D = some (.lst ys') → P D (i + 1) ys' H2 → ys'.length ≤ i + 1 → Next H2) → lcTurn g tt te vs σ D x H1 Next)
    (hd : ∀ D ys H1, H D = none → Same H H1 → H1 D = some (.lst ys) → P D xs.length ys H1 → ys.length ≤ xs.length → Q (.ref D) H1) : vLcL K (.ref a) g tt te vs σ H Q :=
  ⟨⟨a, rfl, ⟨xs, hx⟩, fun D hD => lc_list (xs := xs) (fun i H1 => ∃ ys, Same H H1 ∧ H1 D = some (.lst ys) ∧ P D i ys H1 ∧ ys.length ≤ i) ⟨[], same_upd hD, upd_same, h0 D _ hD (same_upd hD) upd_same, Nat.le_refl _⟩
    (fun i H1 _ ⟨ys, s, _, _, _⟩ => s.seq hx) (fun i x H1 hi ⟨ys, s, hy, p, l⟩ => turn_eq (hs D i x ys H1 _ hi hD s hy p l (List.getElem?_eq_some_iff.mp hi).1 fun ys' H2 s2 h2 p2 l2 => ⟨ys', s2, h2, p2, l2⟩))
    (fun H1 ⟨ys, s, hy, p, l⟩ => hd D ys H1 hD s hy p l)⟩⟩
theorem n_lcT (P : Addr → Nat → List V → Hp → Prop) (hx : SqT K H a xs) (hz : xs.length ≤ 1000000) (h0 : ∀ D H1, H D = none → Same H H1 → H1 D = some (.lst []) → P D 0 [] H1)
    (hs : ∀ D i x ys H1 (Next : Hp → Prop), xs[i]? = some x → H D = none → Same H H1 → H1 D = some (.lst ys) → P D i ys H1 → ys.length ≤ i → i < xs.length →
      (∀ ys' H2, Same H H2 → H2 D = some (.lst ys') → P D (i + 1) ys' H2 → ys'.length ≤ i + 1 → Next H2) → lcTurn g tt te vs σ D x H1 Next)
    (hd : ∀ D ys H1, H D = none → Same H H1 → H1 D = some (.lst ys) → P D xs.length ys H1 → ys.length ≤ xs.length → Q (.ref D) H1) : vLcT K (.ref a) g tt te vs σ H Q :=
  ⟨⟨a, rfl, ⟨xs, hx⟩, fun D hD => lc_tup (xs := xs) (fun i H1 => ∃ ys, Same H H1 ∧ H1 D = some (.lst ys) ∧ P D i ys H1 ∧ ys.length ≤ i) ⟨[], same_upd hD, upd_same, h0 D _ hD (same_upd hD) upd_same, Nat.le_refl _⟩
    (fun i H1 _ ⟨ys, s, _, _, _⟩ => sqt_same s hx) (fun i x H1 hi ⟨ys, s, hy, p, l⟩ => turn_eq (hs D i x ys H1 _ hi hD s hy p l (List.getElem?_eq_some_iff.mp hi).1 fun ys' H2 s2 h2 p2 l2 => ⟨ys', s2, h2, p2, l2⟩))
    (fun H1 ⟨ys, s, hy, p, l⟩ => hd D ys H1 hD s hy p l)⟩⟩
theorem n_lcR2 (P : Addr → Nat → List V → Hp → Prop) (h1 : -(2 ^ 62) ≤ i ∧ i < 2 ^ 62 ∧ -(2 ^ 62) ≤ j ∧ j < 2 ^ 62) (h0 : ∀ D H1, H D = none → Same H H1 → H1 D = some (.lst []) → P D 0 [] H1)
    (hs : ∀ D (k : Nat) ys H1 (Next : Hp → Prop), i + (k : Int) < j → H D = none → Same H H1 → H1 D = some (.lst ys) → P D k ys H1 → ys.length ≤ k →
      (∀ ys' H2, Same H H2 → H2 D = some (.lst ys') → P D (k + 1) ys' H2 → ys'.length ≤ k + 1 → Next H2) → lcTurn g tt te vs σ D (.int (i + (k : Int))) H1 Next)
    (hd : ∀ D ys H1, H D = none → Same H H1 → H1 D = some (.lst ys) → P D (j - i).toNat ys H1 → ys.length ≤ (j - i).toNat → Q (.ref D) H1) : vLcR2 [.int i, .int j] g tt te vs σ H Q :=
  ⟨⟨i, j, rfl, h1, fun D hD => lc_range (lo := i) (n := (j - i).toNat) (fun k H1 => ∃ ys, Same H H1 ∧ H1 D = some (.lst ys) ∧ P D k ys H1 ∧ ys.length ≤ k) ⟨[], same_upd hD, upd_same, h0 D _ hD (same_upd hD) upd_same, Nat.le_refl _⟩
    (fun k H1 hk ⟨ys, s, hy, p, l⟩ => turn_eq (hs D k ys H1 _ (by omega) hD s hy p l fun ys' H2 s2 h2 p2 l2 => ⟨ys', s2, h2, p2, l2⟩))
    (fun H1 ⟨ys, s, hy, p, l⟩ => hd D ys H1 hD s hy p l)⟩⟩
theorem n_lcR1 (P : Addr → Nat → List V → Hp → Prop) (h1 : -(2 ^ 62) ≤ j) (h2 : j < 2 ^ 62) (h0 : ∀ D H1, H D = none → Same H H1 → H1 D = some (.lst []) → P D 0 [] H1)
    (hs : ∀ D (k : Nat) ys H1 (Next : Hp → Prop), (k : Int) < j → H D = none → Same H H1 → H1 D = some (.lst ys) → P D k ys H1 → ys.length ≤ k →
      (∀ ys' H2, Same H H2 → H2 D = some (.lst ys') → P D (k + 1) ys' H2 → ys'.length ≤ k + 1 → Next H2) → lcTurn g tt te vs σ D (.int (k : Int)) H1 Next)
    (hd : ∀ D ys H1, H D = none → Same H H1 → H1 D = some (.lst ys) → P D j.toNat ys H1 → ys.length ≤ j.toNat → Q (.ref D) H1) : vLcR1 [.int j] g tt te vs σ H Q :=
  ⟨⟨j, rfl, h1, h2, fun D hD => lc_range (lo := 0) (n := j.toNat) (fun k H1 => ∃ ys, Same H H1 ∧ H1 D = some (.lst ys) ∧ P D k ys H1 ∧ ys.length ≤ k) ⟨[], same_upd hD, upd_same, h0 D _ hD (same_upd hD) upd_same, Nat.le_refl _⟩
    (fun k H1 hk ⟨ys, s, hy, p, l⟩ => by
      have e : (0 : Int) + (k : Int) = (k : Int) := Int.zero_add _
      rw [e]
      exact turn_eq (hs D k ys H1 _ (by omega) hD s hy p l fun ys' H2 s2 h2 p2 l2 => ⟨ys', s2, h2, p2, l2⟩))
    (fun H1 ⟨ys, s, hy, p, l⟩ => hd D ys H1 hD s hy p l)⟩⟩
/-- the element put -/
theorem n_put {D : Addr} {y : V} {ys : List V} {R : Hp → Prop} (h : H D = some (.lst ys)) (hl : ys.length < sizeLine) (q : ∀ H', But D H H' → H' D = some (.lst (ys ++ [y])) → R H') : vPut D y H R := ⟨⟨ys, h, hl, a_set q⟩⟩
theorem lt_line {n m : Nat} (h : n ≤ m) (hm : m < 1000000) : n < sizeLine := Nat.lt_of_lt_of_le (Nat.lt_of_le_of_lt h hm) (by decide)
end
end Z

namespace Z
open PySem PySem.Spec PyProof.Rows L2
section
variable {P : Program} {w : World} {K : PySem.W.Frag} {mg : Str → Option Value} {base : Heap} {A : Around} {k j : Nat} {H : Hp} {Q : VK} {a b C g dx dy : Addr} {fs gs : List (Str × V)} {sp : Sp}
/-- x op y, both instances of the class at C -/
theorem e_own (hr : Rm k A) {op : CmpOp} (hop : ∀ a b, compareOp op a b = richCompare op a b) (ea : H a = some (.ins C dx fs)) (eb : H b = some (.ins C dy gs)) (hm : Meth K C (cmpInfo op).2.1 g) (F : FnZ P w K mg base j g sp)
    (h : sp [.ref a, .ref b] H Q E0) (hj : j ≤ k := by decide) : vOp ⟨P, w, K, mg, base, A⟩ (compareOp op) (.ref a) (.ref b) H Q := by
  refine ⟨?_⟩
  rintro X ⟨rfl, rfl, rfl, rfl, rfl, hA, hc⟩ pins s σ v u I rv ru
  have hA : X.A = A := hA
  subst hA
  cases (show v = Value.ref a from rv)
  cases (show u = Value.ref b from ru)
  obtain ⟨mA, O, _, _, _, _⟩ := ins_get I.hok ea
  obtain ⟨mB, O', _, _, _, _⟩ := ins_get I.hok eb
  obtain ⟨od, J, _⟩ := O.look
  obtain ⟨od', J', _⟩ := O'.look
  obtain ⟨m, hF⟩ := I.fr
  rw [hop]
  refine PySem.W.cmp_K (op := op) (tb := .ref C) hr.units0 hF I.ok.mod.kin J J'.type (by simp [PySem.W.notFirst]) hm.at_ hm.fn ?_
  refine wpAny_mono (wpAny_call (run_z (us := [.ref a, .ref b]) (vs := [.ref a, .ref b]) F (hr.le hj) I (.cons rfl (.cons rfl .nil)) h)) (fun w s' z => ?_) fun _ _ x => x
  obtain ⟨z', H', I', rz, qz⟩ := z
  exact SlX.cmpback rz ⟨z', H', I', rz, qz⟩
end
/-! ### order of tuples of ints -/
def lexI (r : Int → Int → Bool) (z : Bool) (ns ms : List Int) : Bool := Ob.lexAt (fun j => decide (ns.getD j 0 = ms.getD j 0)) (fun j => r (ns.getD j 0) (ms.getD j 0)) z 0 (min ns.length ms.length)
section
variable {P : Program} {w : World} {K : PySem.W.Frag} {mg : Str → Option Value} {base : Heap} {A : Around} {k j : Nat} {H : Hp} {Q : VK} {a b : Addr} {ns ms : List Int}
theorem tup_facts {X : Cx} {pins : List (Addr × Obj)} {σ : L2.St} {s : Shared} (I : Inv X pins σ H s) (ha : SqT X.K H a (ns.map V.int)) : ∃ its : Array Value, s.heap.IsTuple a its ∧ its.size = ns.length ∧ ∀ j (h : j < its.size), ∃ t, its[j] = .int (ns.getD j 0) t := by
  obtain ⟨its, r1, p1, _⟩ := I.tuple ha
  have i1 : IntsAre its ns := Vals.ints r1
  exact ⟨_, p1, by rw [List.size_toArray]; exact i1.length, fun j h => PyProof.Rows.IntsAre.int_at i1 _ _ (by simp at h; simp [h])⟩
theorem eqAt_getD {A : Around} {s : Shared} {x y : Int} {t u : Tok} : SeqAt.EqAt A s (.int x t) (.int y u) (decide (x = y)) := by
  have z : (x == y) = decide (x = y) := by
    by_cases q : x = y
    · rw [decide_eq_true q]; exact beq_iff_eq.mpr q
    · rw [decide_eq_false q]; exact beq_eq_false_iff_ne.mpr q
  rw [← z]
  exact SeqAt.EqAt.int_int _ _ _ _
theorem e_ltT (hr : Rm k A) (ha : SqT K H a (ns.map V.int)) (hb : SqT K H b (ms.map V.int)) (q : Q (.bl (lexI (fun i j => decide (i < j)) (decide (ns.length < ms.length)) ns ms)) H) : vOp ⟨P, w, K, mg, base, A⟩ (compareOp .Lt) (.ref a) (.ref b) H Q := by
  refine ⟨?_⟩
  rintro X ⟨rfl, rfl, rfl, rfl, rfl, hA, hc⟩ pins s σ v u I rv ru
  have hA : X.A = A := hA
  subst hA
  cases (show v = Value.ref a from rv)
  cases (show u = Value.ref b from ru)
  obtain ⟨its, p1, z1, f1⟩ := tup_facts I ha
  obtain ⟨its2, p2, z2, f2⟩ := tup_facts I hb
  have R := Ob.RcOp.tuples_lt (A := X.A) (s := s) (e := fun j => decide (ns.getD j 0 = ms.getD j 0)) (r := fun j => decide (ns.getD j 0 < ms.getD j 0)) p1 p2 hr.units0 (fun j h1 h2 => by
    obtain ⟨t, et⟩ := f1 j h1
    obtain ⟨t', et'⟩ := f2 j h2
    rw [et, et']
    exact eqAt_getD) (fun j h1 h2 _ => by
    obtain ⟨t, et⟩ := f1 j h1
    obtain ⟨t', et'⟩ := f2 j h2
    rw [et, et']
    exact Ob.RcOp.lt_int _ _ _ _)
  rw [z1, z2] at R
  exact R _ _ _ _ ⟨.bl _, H, I, rfl, q⟩
theorem e_leT (hr : Rm k A) (ha : SqT K H a (ns.map V.int)) (hb : SqT K H b (ms.map V.int)) (q : Q (.bl (lexI (fun i j => decide (i ≤ j)) (decide (ns.length ≤ ms.length)) ns ms)) H) : vOp ⟨P, w, K, mg, base, A⟩ (compareOp .LtE) (.ref a) (.ref b) H Q := by
  refine ⟨?_⟩
  rintro X ⟨rfl, rfl, rfl, rfl, rfl, hA, hc⟩ pins s σ v u I rv ru
  have hA : X.A = A := hA
  subst hA
  cases (show v = Value.ref a from rv)
  cases (show u = Value.ref b from ru)
  obtain ⟨its, p1, z1, f1⟩ := tup_facts I ha
  obtain ⟨its2, p2, z2, f2⟩ := tup_facts I hb
  have R := Ob.RcOp.tuples_le (A := X.A) (s := s) (e := fun j => decide (ns.getD j 0 = ms.getD j 0)) (r := fun j => decide (ns.getD j 0 ≤ ms.getD j 0)) p1 p2 hr.units0 (fun j h1 h2 => by
    obtain ⟨t, et⟩ := f1 j h1
    obtain ⟨t', et'⟩ := f2 j h2
    rw [et, et']
    exact eqAt_getD) (fun j h1 h2 _ => by
    obtain ⟨t, et⟩ := f1 j h1
    obtain ⟨t', et'⟩ := f2 j h2
    rw [et, et']
    exact Ob.RcOp.le_int _ _ _ _)
  rw [z1, z2] at R
  exact R _ _ _ _ ⟨.bl _, H, I, rfl, q⟩
theorem e_gtT (hr : Rm k A) (ha : SqT K H a (ns.map V.int)) (hb : SqT K H b (ms.map V.int)) (q : Q (.bl (lexI (fun i j => decide (j < i)) (decide (ms.length < ns.length)) ns ms)) H) : vOp ⟨P, w, K, mg, base, A⟩ (compareOp .Gt) (.ref a) (.ref b) H Q := by
  refine ⟨?_⟩
  rintro X ⟨rfl, rfl, rfl, rfl, rfl, hA, hc⟩ pins s σ v u I rv ru
  have hA : X.A = A := hA
  subst hA
  cases (show v = Value.ref a from rv)
  cases (show u = Value.ref b from ru)
  obtain ⟨its, p1, z1, f1⟩ := tup_facts I ha
  obtain ⟨its2, p2, z2, f2⟩ := tup_facts I hb
  have R := Ob.RcOp.tuples_gt (A := X.A) (s := s) (e := fun j => decide (ns.getD j 0 = ms.getD j 0)) (r := fun j => decide (ms.getD j 0 < ns.getD j 0)) p1 p2 hr.units0 (fun j h1 h2 => by
    obtain ⟨t, et⟩ := f1 j h1
    obtain ⟨t', et'⟩ := f2 j h2
    rw [et, et']
    exact eqAt_getD) (fun j h1 h2 _ => by
    obtain ⟨t, et⟩ := f1 j h1
    obtain ⟨t', et'⟩ := f2 j h2
    rw [et, et']
    exact Ob.RcOp.gt_int _ _ _ _)
  rw [z1, z2] at R
  exact R _ _ _ _ ⟨.bl _, H, I, rfl, q⟩
theorem e_geT (hr : Rm k A) (ha : SqT K H a (ns.map V.int)) (hb : SqT K H b (ms.map V.int)) (q : Q (.bl (lexI (fun i j => decide (j ≤ i)) (decide (ms.length ≤ ns.length)) ns ms)) H) : vOp ⟨P, w, K, mg, base, A⟩ (compareOp .GtE) (.ref a) (.ref b) H Q := by
  refine ⟨?_⟩
  rintro X ⟨rfl, rfl, rfl, rfl, rfl, hA, hc⟩ pins s σ v u I rv ru
  have hA : X.A = A := hA
  subst hA
  cases (show v = Value.ref a from rv)
  cases (show u = Value.ref b from ru)
  obtain ⟨its, p1, z1, f1⟩ := tup_facts I ha
  obtain ⟨its2, p2, z2, f2⟩ := tup_facts I hb
  have R := Ob.RcOp.tuples_ge (A := X.A) (s := s) (e := fun j => decide (ns.getD j 0 = ms.getD j 0)) (r := fun j => decide (ms.getD j 0 ≤ ns.getD j 0)) p1 p2 hr.units0 (fun j h1 h2 => by
    obtain ⟨t, et⟩ := f1 j h1
    obtain ⟨t', et'⟩ := f2 j h2
    rw [et, et']
    exact eqAt_getD) (fun j h1 h2 _ => by
    obtain ⟨t, et⟩ := f1 j h1
    obtain ⟨t', et'⟩ := f2 j h2
    rw [et, et']
    exact Ob.RcOp.ge_int _ _ _ _)
  rw [z1, z2] at R
  exact R _ _ _ _ ⟨.bl _, H, I, rfl, q⟩
end
end Z

namespace Z
open PySem PySem.Spec PyProof.Rows L2
/-! ### the end: the law called by the caller -/
/-- the script's list, where the module does not own it -/
def scr (K : PySem.W.Frag) (a : Addr) (vs : List Value) (ns : List Int) : Hp := fun b => if b = a ∧ K.lookup a = none then some (.frz { cls := .type "list", data := .seq vs.toArray } (.lst (ns.map V.int))) else none
section
variable {P : Program} {w : World} {K : PySem.W.Frag} {mg mb : Str → Option Value} {k : Nat} {fa a : Addr} {sp : Sp} {s : Shared} {vs : List Value} {ns : List Int}
theorem scr_or (b : Addr) : scr K a vs ns b = none ∨ (b = a ∧ K.lookup a = none ∧ scr K a vs ns b = some (.frz { cls := .type "list", data := .seq vs.toArray } (.lst (ns.map V.int)))) := by
  by_cases c : b = a ∧ K.lookup a = none
  · exact .inr ⟨c.1, c.2, if_pos c⟩
  · exact .inl (if_neg c)
theorem law_z (kx : K.In s.heap) (hns : s.heap.Ns mainGlobals mg) (hb : s.heap.Ns builtinsNs mb) (hbb : ∀ x : Str, x ≠ "__name__" → mb x = bootBuiltins x) (nl : s.heap.NoLimit) (hg : s.gens = #[])
    (ha : s.heap.get? a = some { cls := .type "list", data := .seq vs.toArray }) (hi : IntsAre vs ns) (hl : ns.length ≤ sizeLine) (hr : Rm k callerA) (F : ∀ base : Heap, K.In base → base.Ns mainGlobals mg → FnZ P w K mg base k fa sp)
    (q : ∀ H : Hp, Only H → SqL K H a (ns.map V.int) → sp [.ref a] H (fun v _ => v = .bl true) E0) :
    codeAny (model P w) callerA (.call (.ref fa) ⟨[.ref a], []⟩) (fun r s' => r = .ok (.ret (.bool true)) ∧ OldK s.heap s'.heap ∧ s'.os = s.os ∧ AllBare s'.gens) s := by
  have rv : Vals (ns.map V.int) vs := vals_ints hi
  have len := hi.length
  have one : ∀ {b u}, scr K a vs ns b = some u → b = a ∧ K.lookup a = none ∧ u = .frz { cls := .type "list", data := .seq vs.toArray } (.lst (ns.map V.int)) := fun {b u} e => by
    rcases scr_or (K := K) (a := a) (vs := vs) (ns := ns) b with z | ⟨z1, z2, z3⟩
    · rw [z] at e; cases e
    · rw [z3] at e; cases e; exact ⟨z1, z2, rfl⟩
  have keep : ∀ {b : Addr} {o : Obj}, s.heap.get? b = some o → scr K a vs ns b = none → (hidT s.heap (scr K a vs ns)).get? b = some o := fun e n => hidT_get e n
  have dict : ∀ {b : Addr} {m : Str → Option Value}, s.heap.Ns b m → (hidT s.heap (scr K a vs ns)).Ns b m := fun {b m} ⟨o, es, ep, e, d, r⟩ => by
    refine ⟨o, es, ep, keep e ?_, d, r⟩
    rcases scr_or (K := K) (a := a) (vs := vs) (ns := ns) b with z | ⟨rfl, _, _⟩
    · exact z
    · rw [ha] at e
      cases e
      cases (show Data.seq vs.toArray _ = Data.dict es ep from d)
  have kb : K.In (hidT s.heap (scr K a vs ns)) := fun b o e => keep (kx b o e) (by
    rcases scr_or (K := K) (a := a) (vs := vs) (ns := ns) b with z | ⟨rfl, z, _⟩
    · exact z
    · rw [z] at e; cases e)
  have ok : HOk P w (scr K a vs ns) s.heap := fun b u e => by
    obtain ⟨rfl, _, rfl⟩ := one e
    exact ⟨ha, by rw [List.length_map]; exact hl, vs, _, rv, ha⟩
  have e0 : Env0 P w K mg (hidT s.heap (scr K a vs ns)) callerA [] s (scr K a vs ns) :=
    ⟨rfl, ⟨kb, dict hns, ⟨mb, dict hb, hbb⟩, nl.elim fun mc h => ⟨mc, dict h.1, h.2⟩⟩, fun b o e => of_hidT e, Nat.le_of_eq (hidT_size _ _), trivial, fun b z => (List.not_mem_nil z).elim, ok, .of_eq hg⟩
  have sq : SqL K (scr K a vs ns) a (ns.map V.int) := by
    cases e : K.lookup a with
    | none => exact .inl (.inr ⟨_, if_pos ⟨rfl, e⟩⟩)
    | some o =>
      have z := kx a o e
      rw [ha] at z
      cases z
      exact .inr ⟨_, vs.toArray, _, e, rfl, rfl, rfl, by rw [List.size_toArray, len]; exact hl, by simpa using rv⟩
  refine codeAny_mono (F _ kb (dict hns) callerA [] s (scr K a vs ns) [.ref a] [.ref a] _ E0 hr e0 (.cons rfl .nil) (q _ (fun b => ?_) sq)) fun r s' z => ?_
  · rcases scr_or (K := K) (a := a) (vs := vs) (ns := ns) b with z | ⟨_, _, z⟩
    · exact .inl z
    · exact .inr ⟨_, _, z⟩
  · match r, z with
    | .error e, ⟨_, _, _, _, _, _, _, _, _, _, _, _, z⟩ => exact z.elim
    | .ok (.ret u), ⟨v, H', os, bare, un, ok', r', e⟩ =>
      cases (show v = .bl true from e)
      cases (show u = Value.bool true from r')
      refine ⟨rfl, OldK.of_keep fun b o e => ?_, os, bare⟩
      rcases scr_or (K := K) (a := a) (vs := vs) (ns := ns) b with z | ⟨_, _, z⟩
      · exact un.keep b o e z (fun h => (List.not_mem_nil h).elim) (fun h => (List.not_mem_nil h).elim)
      · have y1 := (ok b _ z).1
        have y2 := (ok' b _ (un.frzs b _ _ z)).1
        rw [e] at y1
        cases y1
        exact y2
end
/-- the goal that the head leaves -/
theorem walk_z {l : PySem.W.OpenLaw} {n k : Nat} {p : Program} {loose : List Str} {XP : (Str → Option Value) → Heap → Prop} {YP : World → Heap → Prop} {d : DefRec} (hn : l.most = some n) (hn2 : n ≤ sizeLine) (hdf : d.params.defaults = []) (hr : Rm k callerA)
    (F : ∀ (w : World) (mg : Str → Option Value) (fa : Addr) (h : Heap), YP w h → h.Ns mainGlobals mg → mg d.name = some (.ref fa) → ∃ (K : PySem.W.Frag) (sp : Sp), K.In h ∧
      (∀ (H : Hp) (a : Addr) (ns : List Int), ns.length ≤ n → Only H → SqL K H a (ns.map V.int) → sp [.ref a] H (fun v _ => v = .bl true) E0) ∧ ∀ base : Heap, K.In base → base.Ns mainGlobals mg → FnZ l.prog w K mg base k fa sp) :
    PySem.W.WalkO p loose XP YP l.row.toRowW d [] (fun f vs => PySem.call f vs) := by
  refine Att.attach_call hn hdf fun w s₀ s₁ mg mb fa o pm cd doc a vs ns G Y _ _ _ hm ho hi hlen hg => ?_
  obtain ⟨K, sp, kx, q, G2⟩ := F w mg fa _ Y G.T.g hm
  exact law_z kx G.T.g G.T.b G.T.builtins G.T.nolimit hg ho hi (Nat.le_trans hlen hn2) hr G2 fun H o s => q H a ns hlen o s
end Z
namespace Z
open PySem PySem.Spec PyProof.Rows L2
/-! ### repr of data -/
section
variable {P : Program} {w : World} {K : PySem.W.Frag} {mg : Str → Option Value} {base : Heap} {A : Around} {k : Nat} {H : Hp} {Q : VK} {a : Addr} {d : PyData}
theorem e_repr (hr : Rm k A) (hx : Dp K H (.ref a) d) (hs : d.showable = true) (hn : d.hasDict = false) (hd : d.depth ≤ 60) (hz : d.shown.length ≤ sizeLine) (q : Q (.str d.shown) H) : vCB ⟨P, w, K, mg, base, A⟩ (.builtin "repr") [.ref a] H Q := by
  refine ⟨?_⟩
  rintro X ⟨rfl, rfl, rfl, rfl, rfl, hA, hc⟩ pins s σ us I r
  have hA : X.A = A := hA
  subst hA
  obtain ⟨u, rfl, ru⟩ := vals1 r
  cases (show u = Value.ref a from ru)
  obtain ⟨as, R⟩ := Dp.reads I d _ _ hx rfl
  refine repr_of_reads' R hs (PyData.noDict_hsm hn) hr.gs (by have := hr.units; omega) (fun _ _ e => e) (fun h' u tk kk => ?_) hz
  exact ⟨.str d.shown, H, I.kept kk, ⟨u, rfl⟩, q⟩
theorem bools_dp {K : PySem.W.Frag} {H : Hp} : ∀ bs : List Bool, DpAll K H (bs.map V.bl) (bs.map PyData.bool)
  | [] => .nil
  | b :: r => .cons (.bl b) (bools_dp r)
theorem bools_ok : ∀ bs : List Bool, PyData.showableAll (bs.map PyData.bool) = true ∧ PyData.hasDictAll (bs.map PyData.bool) = false ∧ PyData.leavesShortAll 8 (bs.map PyData.bool) = true ∧ PyData.bulkAll (bs.map PyData.bool) = bs.length ∧ PyData.depthAll (bs.map PyData.bool) = 0
  | [] => by simp [PyData.showableAll, PyData.hasDictAll, PyData.leavesShortAll, PyData.bulkAll, PyData.depthAll]
  | b :: r => by
    obtain ⟨h1, h2, h3, h4, h5⟩ := bools_ok r
    simp [PyData.showableAll, PyData.hasDictAll, PyData.leavesShortAll, PyData.bulkAll, PyData.depthAll, PyData.showable, PyData.hasDict, PyData.leavesShort, PyData.bulk, PyData.depth, h1, h2, h3, h4, h5]
    omega
/-- the text of a list of bools -/
def boolsText (bs : List Bool) : Str := (PyData.list (bs.map PyData.bool)).shown
theorem e_reprB (hr : Rm k A) {bs : List Bool} (hx : SqL K H a (bs.map V.bl)) (hl : bs.length ≤ 1000) (q : Q (.str (boolsText bs)) H) : vCB ⟨P, w, K, mg, base, A⟩ (.builtin "repr") [.ref a] H Q := by
  obtain ⟨h1, h2, h3, h4, h5⟩ := bools_ok bs
  refine e_repr (d := .list (bs.map PyData.bool)) hr (.lst hx (bools_dp bs)) (by rw [PyData.showable]; exact h1) (by rw [PyData.hasDict]; exact h2) (by rw [PyData.depth]; omega) (PyData.shown_fits_bulk (B := 8) (by omega) (by omega) (by rw [PyData.leavesShort]; exact h3) (by rw [PyData.bulk, h4]; omega)) q
end
end Z
namespace Z
open PySem PySem.Spec PyProof.Rows L2
/-- what isinstance asks of an own class that stands under object -/
structure Isi (K : PySem.W.Frag) (C : Addr) : Prop where
  ca : PySem.W.findIn K (.ref C) "__class__" = some (some (.builtin "object.__class__"))
  cn : PySem.W.specialIn K (.builtin "object.__class__") "__get__" = some (some (.builtin "getset_descriptor.__get__"))
  ct : PySem.W.takesIn K (.builtin "object.__class__") = some true
  cm : PySem.W.mroIn K C (.type "object") = some true
end Z

namespace Z
open PySem PySem.Spec PyProof.Rows L2
/-! ### the head, its facts as a list of Bools over the part of the heap that the module's names reach -/
abbrev AlZ : Type := Bool × List He.FnW
def obsZ (fn : List He5.DefA) (ex : PySem.W.Frag → List Bool) (K : PySem.W.Frag) : AlZ := ((ex K).all (fun b => b) && fn.all fun d => d.ok K, fn.map fun d => He5.fnA K (d.at_ K))
def valZ (fn : List He5.DefA) : AlZ := (true, fn.map He5.DefA.val)
def SaysZ (fn : List He5.DefA) (ex : PySem.W.Frag → List Bool) (K : PySem.W.Frag) : Prop := obsZ fn ex K = valZ fn
def obsZG (n : Nat) (fn : List He5.DefA) (ex : PySem.W.Frag → List Bool) (g : Addr → Option Obj) : AlZ := obsZ fn ex (He.frG g (He5.asA g n))
def hookZ (n : Nat) (fn : List He5.DefA) (ex : PySem.W.Frag → List Bool) : PySem.W.Hook where
  α := AlZ
  obs := fun s => obsZG n fn ex s.heap.get?
  val := fun _ => valZ fn
  says := fun _ h => ∃ K : PySem.W.Frag, K.In h ∧ SaysZ fn ex K
  of := fun _ _ e => ⟨_, He.frG_in, e⟩
  keeps := fun _ _ _ z k => z.elim fun K y => ⟨K, PySem.W.Frag.In.keeps y.1 k, y.2⟩
theorem obsZ_tree {n : Nat} {fn : List He5.DefA} {ex : PySem.W.Frag → List Bool} (s : PySem.W.SharedT) : obsZG n fn ex (HandSHeadRun.getT s) = (hookZ n fn ex).obs s.abs := by
  rw [show HandSHeadRun.getT s = s.abs.heap.get? from funext (HandSHeadRun.getT_eq s)] <;> rfl
section
variable {fn : List He5.DefA} {ex : PySem.W.Frag → List Bool} {K : PySem.W.Frag}
theorem SaysZ.two (c : SaysZ fn ex K) : (ex K).all (fun b => b) = true ∧ (fn.all fun d => d.ok K) = true := He.ba (congrArg Prod.fst c)
theorem SaysZ.b (c : SaysZ fn ex K) (i : Nat) {b : Bool} (h : (ex K)[i]? = some b) : b = true := List.all_eq_true.mp c.two.1 b (List.mem_of_getElem? h)
theorem SaysZ.d (c : SaysZ fn ex K) (i : Nat) {d : He5.DefA} (h : fn[i]? = some d) : ∃ fd, FunD K d.name d.qual d.params d.body d.scope (d.dvs K) (d.kws K) (d.at_ K) fd := by
  have e := congrArg (fun l : List He.FnW => l[i]?) (congrArg Prod.snd c)
  simp only [obsZ, valZ, List.getElem?_map, h, Option.map_some] at e
  exact He5.DefA.funD (Option.some.inj e) (List.all_eq_true.mp c.two.2 d (List.mem_of_getElem? h))
end
/-! ### more facts -/
section
variable {K : PySem.W.Frag} {C : Addr} {m : Str}
def isiB (K : PySem.W.Frag) (C : Addr) : Bool := He.eqO (PySem.W.findIn K (.ref C) "__class__") (some (some (.builtin "object.__class__"))) && He.eqO (PySem.W.specialIn K (.builtin "object.__class__") "__get__") (some (some (.builtin "getset_descriptor.__get__"))) &&
  decide (PySem.W.takesIn K (.builtin "object.__class__") = some true) && decide (PySem.W.mroIn K C (.type "object") = some true)
theorem isi_ok (h : isiB K C = true) : Isi K C := by
  obtain ⟨h, h4⟩ := He.ba h
  obtain ⟨h, h3⟩ := He.ba h
  obtain ⟨h1, h2⟩ := He.ba h
  exact ⟨He.eqO_ok h1, He.eqO_ok h2, of_decide_eq_true h3, of_decide_eq_true h4⟩
def propB (K : PySem.W.Frag) (C : Addr) (m : Str) : Bool := He.eqO (PySem.W.findIn K (.ref C) m) (some (some (.ref (He.ma K C m)))) && He.eqO (PySem.W.specialIn K (.ref (He.ma K C m)) "__get__") (some (some (.builtin "property.__get__"))) &&
  decide (PySem.W.takesIn K (.ref (He.ma K C m)) = some true) && (match PySem.W.recIn K (He.ma K C m) "property" with
    | some (.ref g :: _) => decide (g = He5.wf K C "property" m)
    | _ => false)
theorem prop_ok (h : propB K C m = true) : PropOf K C m (He.ma K C m) (He5.wf K C "property" m) := by
  obtain ⟨h, h4⟩ := He.ba h
  obtain ⟨h, h3⟩ := He.ba h
  obtain ⟨h1, h2⟩ := He.ba h
  refine ⟨He.eqO_ok h1, He.eqO_ok h2, of_decide_eq_true h3, ?_⟩
  split at h4
  · rename_i g r e
    rw [e, of_decide_eq_true h4]
    exact ⟨r, rfl⟩
  · cases h4
theorem noat_of (h : He.eqO (PySem.W.findIn K (.ref C) m) (some none) = true) : NoAttr K C m := He.eqO_ok h
end
end Z

namespace Z
open PySem PySem.Spec PyProof.Rows L2
/-! ### own dunders of plain instances -/
section
variable {P : Program} {w : World} {K : PySem.W.Frag} {mg : Str → Option Value} {base : Heap} {A : Around} {k j : Nat} {H : Hp} {Q : VK} {a C g dx : Addr} {fs : List (Str × V)} {sp : Sp} {vs : List V} {y : V} {tb : Value}
/-- a def's call at this context, at the one below a unit -/
theorem run_here {X : Cx} {pins : List (Addr × Obj)} {σ : L2.St} {s : Shared} {us : List Value} (F : FnZ X.prog X.w X.K X.mg X.base j g sp) (hr : Rm k X.A) (hj : j ≤ k) (I : Inv X pins σ H s) (r : Vals vs us) (h : sp vs H Q E0) :
    wpAny (model X.prog X.w) X.A (call (.ref g) us) (EP X pins σ Q) X.xe s :=
  wpAny_call (codeAny_mono (F X.A X.stack s H us vs Q E0 (hr.le hj) I.env0 r h) fun r s' z => match r, z with
    | .ok (.ret _), z => I.after z
    | .error _, ⟨_, _, _, _, _, _, _, _, _, _, _, _, z⟩ => z.elim)
theorem run_in1 {X : Cx} {pins : List (Addr × Obj)} {σ : L2.St} {s : Shared} {us : List Value} (F : FnZ X.prog X.w X.K X.mg X.base j g sp) (hr : Rm k X.A) (hj : j + 1 ≤ k) (I : Inv X pins σ H s) (r : Vals vs us) (h : sp vs H Q E0) :
    wpAny (model X.prog X.w) X.A.in1 (call (.ref g) us) (EP X pins σ Q) X.xe s :=
  wpAny_call (codeAny_mono (F X.A.in1 X.stack s H us vs Q E0 (hr.le hj).step I.env0.in1 r h) fun r s' z => match r, z with
    | .ok (.ret _), z => I.after z
    | .error _, ⟨_, _, _, _, _, _, _, _, _, _, _, _, z⟩ => z.elim)
def isStr (Q : VK) : VK := fun v H => match v with | .str t => Q (.str t) H | _ => False
def isBl (Q : Bool → Hp → Prop) : VK := fun v H => match v with | .bl b => Q b H | _ => False
theorem back_str {X : Cx} {pins : List (Addr × Obj)} {σ : L2.St} {v : Value} {s : Shared} (h : EP X pins σ (isStr Q) v s) : PySem.W.StrBack (EP X pins σ Q) v s := by
  obtain ⟨x, H1, I, rx, q⟩ := h
  cases x with
  | str t => obtain ⟨tk, rfl⟩ := rx; exact ⟨.str t, H1, I, ⟨tk, rfl⟩, q⟩
  | _ => exact q.elim
/-- repr(x), str(x) of an own class -/
theorem e_reprOwn (hr : Rm k A) (ea : H a = some (.ins C dx fs)) (m : Meth K C "__repr__" g) (F : FnZ P w K mg base j g sp) (h : sp [.ref a] H (isStr Q) E0) (hj : j + 1 ≤ k := by decide) : vCB ⟨P, w, K, mg, base, A⟩ (.builtin "repr") [.ref a] H Q := by
  refine ⟨?_⟩
  rintro X ⟨rfl, rfl, rfl, rfl, rfl, hA, hc⟩ pins s σ us I r
  have hA : X.A = A := hA
  subst hA
  obtain ⟨u, rfl, ru⟩ := vals1 r
  cases (show u = Value.ref a from ru)
  obtain ⟨mA, O, _, _, _, _⟩ := ins_get I.hok ea
  obtain ⟨od, J, _⟩ := O.look
  obtain ⟨mf, hF⟩ := I.fr
  exact PySem.W.repr_K (by have := hr.units; show X.A.units + 1 < _; omega) hF I.ok.mod.kin J m.at_ m.fn (wpAny_mono (run_in1 F hr hj I r h) (fun _ _ z => back_str z) fun _ _ z => z)
/-- len(x) -/
theorem e_lenOwn (hr : Rm k A) (ea : H a = some (.ins C dx fs)) (m : Meth K C "__len__" g) (F : FnZ P w K mg base j g sp) (h : sp [.ref a] H (fun v H' => ∃ i : Int, v = .int i ∧ 0 ≤ i ∧ i < 2 ^ 63 ∧ Q (.int i) H') E0) (hj : j + 1 ≤ k := by decide) : vCB ⟨P, w, K, mg, base, A⟩ (.builtin "len") [.ref a] H Q := by
  refine ⟨?_⟩
  rintro X ⟨rfl, rfl, rfl, rfl, rfl, hA, hc⟩ pins s σ us I r
  have hA : X.A = A := hA
  subst hA
  obtain ⟨u, rfl, ru⟩ := vals1 r
  cases (show u = Value.ref a from ru)
  obtain ⟨mA, O, _, _, _, _⟩ := ins_get I.hok ea
  obtain ⟨od, J, _⟩ := O.look
  obtain ⟨mf, hF⟩ := I.fr
  refine PySem.W.len_K hF I.ok.mod.kin J m.at_ m.fn (wpAny_mono (run_in1 F hr hj I r h) (fun v s' z => ?_) fun _ _ z => z)
  obtain ⟨x, H1, I1, rx, i, rfl, h0, h1, q⟩ := z
  obtain ⟨t, rfl⟩ := rx
  exact ⟨⟨h0, h1⟩, .int i, H1, I1.tok _, ⟨_, rfl⟩, q⟩
/-- truth by __bool__; without __bool__ and __len__ -/
theorem e_truOwn {R : Bool → Hp → Prop} (hr : Rm k A) (ea : H a = some (.ins C dx fs)) (m : Meth K C "__bool__" g) (F : FnZ P w K mg base j g sp) (h : sp [.ref a] H (isBl R) E0) (hj : j ≤ k := by decide) : vTru ⟨P, w, K, mg, base, A⟩ (.ref a) H R := by
  refine ⟨?_⟩
  rintro X ⟨rfl, rfl, rfl, rfl, rfl, hA, hc⟩ pins s σ u I r
  have hA : X.A = A := hA
  subst hA
  cases (show u = Value.ref a from r)
  obtain ⟨mA, O, _, _, _, _⟩ := ins_get I.hok ea
  obtain ⟨od, J, _⟩ := O.look
  obtain ⟨mf, hF⟩ := I.fr
  refine PySem.W.truthy_K hF I.ok.mod.kin J m.at_ m.fn (wpAny_mono (run_here F hr hj I (.cons r .nil) h) (fun v s' z => ?_) fun _ _ z => z)
  obtain ⟨x, H1, I1, rx, q⟩ := z
  cases x with
  | bl b => cases (show v = Value.bool b from rx); exact ⟨H1, I1, q⟩
  | _ => exact q.elim
theorem e_tru0 {n : En} {R : Bool → Hp → Prop} (ea : H a = some (.ins C dx fs)) (m : NoAttr n.K C "__bool__") (l : NoAttr n.K C "__len__") (q : R true H) : vTru n (.ref a) H R := by
  refine ⟨?_⟩
  intro X o pins s σ u I r
  cases (show u = Value.ref a from r)
  rw [← o.K] at m l
  obtain ⟨mA, O, _, _, _, _⟩ := ins_get I.hok ea
  obtain ⟨od, J, _⟩ := O.look
  obtain ⟨mf, hF⟩ := I.fr
  exact PySem.W.truthy_K0 hF I.ok.mod.kin J m l ⟨H, I, q⟩
theorem bool_meets0 {K : PySem.W.Frag} {C a : Addr} {ox : Obj} {od : Option Obj} (m : NoAttr K C "__bool__") (l : NoAttr K C "__len__") :
    Meets (Builtin.«bool.__new__» ⟨[.type "bool", .ref a], []⟩) (fun _ R s => (PySem.W.InstAt s.heap a ox C od ∧ ∃ (h0 : Heap) (L : Addr) (mm : Str → Option Value), K.In h0 ∧ Fr h0 L s.heap mm) ∧ R (.ok (.ret (.bool true))) s) :=
  Meets.of_wp fun prog w A R s hs => by
    obtain ⟨⟨hi, h0, L, mm, hk, hF⟩, hs⟩ := hs
    have f1 := F.conv_sub_bool
    have m1 : PySem.W.findIn K (.ref C) "__bool__" = some none := m
    have l1 : PySem.W.findIn K (.ref C) "__len__" = some none := l
    obtain ⟨hp, gg, d, tk, os⟩ := s
    repeat (any_goals (first | assumption | (with_reducible refine PySem.W.truthy_K0 hF hk hi m1 l1 ?_) | wp_step))
    all_goals first | exact ⟨_, rfl, hs⟩ | exact hs | skip
theorem e_bool0 {n : En} (ea : H a = some (.ins C dx fs)) (m : NoAttr n.K C "__bool__") (l : NoAttr n.K C "__len__") (q : Q (.bl true) H) : vCB n (.type "bool") [.ref a] H Q := by
  refine ⟨?_⟩
  intro X o pins s σ us I r
  obtain ⟨u, rfl, ru⟩ := vals1 r
  cases (show u = Value.ref a from ru)
  rw [← o.K] at m l
  obtain ⟨mA, O, _, _, _, _⟩ := ins_get I.hok ea
  obtain ⟨od, J, _⟩ := O.look
  obtain ⟨mf, hF⟩ := I.fr
  exact call_bool_1 (bool_meets0 m l) ⟨⟨J, _, _, mf, I.ok.mod.kin, hF⟩, rfl, .bl true, H, I, rfl, q⟩
end
end Z

namespace Z
open PySem PySem.Spec PyProof.Rows L2
section
variable {P : Program} {w : World} {K : PySem.W.Frag} {mg : Str → Option Value} {base : Heap} {A : Around} {k j : Nat} {H : Hp} {Q : VK} {a C g dx : Addr} {fs : List (Str × V)} {sp : Sp} {vs : List V} {y : V} {tb : Value}
/-- x op y, x of an own class with the dunder, y of a type that is no class under x's -/
theorem e_cmpX (hr : Rm k A) {op : CmpOp} (hop : ∀ a b, compareOp op a b = richCompare op a b) (ea : H a = some (.ins C dx fs)) (ty : TyX K H y tb) (hn : PySem.W.notFirst K C tb = true) (hm : Meth K C (cmpInfo op).2.1 g) (F : FnZ P w K mg base j g sp)
    (h : sp [.ref a, y] H Q E0) (hj : j ≤ k := by decide) : vOp ⟨P, w, K, mg, base, A⟩ (compareOp op) (.ref a) y H Q := by
  refine ⟨?_⟩
  rintro X ⟨rfl, rfl, rfl, rfl, rfl, hA, hc⟩ pins s σ v u I rv ru
  have hA : X.A = A := hA
  subst hA
  cases (show v = Value.ref a from rv)
  obtain ⟨mA, O, _, _, _, _⟩ := ins_get I.hok ea
  obtain ⟨od, J, _⟩ := O.look
  obtain ⟨Pt, kit, hP, _⟩ := kit_of I ru ty
  obtain ⟨m, hF⟩ := I.fr
  rw [hop]
  refine PySem.W.cmp_K (op := op) (tb := tb) hr.units0 hF I.ok.mod.kin J (kit.ty _ _ I.kIn hP) hn hm.at_ hm.fn ?_
  refine wpAny_mono (run_here (us := [.ref a, u]) (vs := [.ref a, y]) F hr hj I (.cons rfl (.cons ru .nil)) h) (fun w s' z => ?_) fun _ _ x => x
  obtain ⟨z', H', I', rz, qz⟩ := z
  exact SlX.cmpback rz ⟨z', H', I', rz, qz⟩
/-- x != y by __eq__ alone -/
theorem ne_run {prog : Program} {s : Shared} {E : Value → Shared → Prop} {h₀ : Heap} {L : Addr} {m : Str → Option Value} {ox : Obj} {od : Option Obj} {b : Value} {R : Value → Shared → Prop} (hu : A.in1.units + 1 < cLine) (F : Fr h₀ L s.heap m) (X₀ : K.In h₀) (I : PySem.W.InstAt s.heap a ox C od)
    (hb : PySem.W.Looks (model prog w) s.heap (typeOf b) tb) (hn : PySem.W.notFirst K C tb = true) (hs : PySem.W.findIn K (.ref C) "__ne__" = some (some (.builtin "object.__ne__"))) (hm : PySem.W.mroIn K C (.type "object") = some true)
    (he : PySem.W.findIn K (.ref C) "__eq__" = some (some (.ref g))) (hf : PySem.W.isFn K (.ref g) = true)
    (h : wpAny (model prog w) A.in1 (call (.ref g) [.ref a, b]) (fun v s' => ∃ c, v = .bool c ∧ R (.bool (!c)) s') E s) : wpAny (model prog w) A (richCompare .NotEq (.ref a) b) R E s := by
  have X := X₀.keeps F.keep
  have inner : wpAny (model prog w) A (call (.builtin "object.__ne__") [.ref a, b]) (fun v s' => (∃ c, v = .bool c) ∧ R v s') E s := by
    refine wpAny_call (codeAny_call_builtin (by decide +kernel) PySem.F.cmpEntry_ne (PySem.W.check_slot (i := "object.__ne__") (owner := "object") (n := "__ne__") PySem.F.cmpKind_ne PySem.F.cmpSplit_ne (I.type.andThen (PySem.W.looks_mroIn X hm)) (PySem.F.cmpArgs_ne _ _) ?_))
    unfold Builtin.«object.__ne__»
    refine wpAny_bind (m := slotArgs "__ne__" 1 _) (wpAny_pure ?_)
    refine wpAny_bind (m := cRoomFor _ _) (wpAny_cRoomFor (by omega) ?_)
    refine wpAny_bind (m := callSpecialIfBound? (.ref a) (Str.ofString "__eq__") _) (PySem.W.ifBound_K X I he hf (wpAny_mono h (fun v s' hq => ?_) fun _ _ y => y))
    obtain ⟨c, rfl, q⟩ := hq
    exact wpAny_bind (m := truthy (.bool c)) (wpAny_pure (wpAny_pure ⟨⟨_, rfl⟩, q⟩))
  have one : wpAny (model prog w) A (tryCompare (.ref a) "__ne__" b) (fun r s' => ∃ v, r = some v ∧ R v s') E s := by
    unfold tryCompare
    refine wpAny_bind ?_
    simp only [callSpecialIfBound?, bindSpecialIfBound?]
    refine wpAny_holding (wpAny_bind (wpAny_bind (wpAny_bind (I.type.here ((PySem.W.looks_findIn X hs).here ?_)))))
    refine wpAny_bind (wpAny_askSetting (wpAny_ite ?_))
    have bnd : bindSpecial (.builtin "object.__ne__") (.ref a) = pure (.builtin "object.__ne__", [.ref a]) := by first | rfl | kernel_rfl | decide +kernel
    have fin : ∀ Z : Option Value → Shared → Prop, (∀ v s', (∃ c, v = .bool c) ∧ R v s' → Z (some v) s') → wpAny (model prog w) A (call (.builtin "object.__ne__") ([.ref a] ++ [b]) >>= fun v => pure (some v)) Z E s :=
      fun Z hz => wpAny_bind (wpAny_mono inner (fun v s' z => wpAny_pure (hz v s' z)) fun _ _ h' => h')
    split
    · rw [bnd]
      refine wpAny_bind (wpAny_pure (wpAny_pure (fin _ fun v s' z => ?_)))
      obtain ⟨⟨c, rfl⟩, q⟩ := z
      exact wpAny_pure ⟨_, rfl, q⟩
    · rw [bnd]
      refine wpAny_tryCatch (wpAny_bind (wpAny_pure (wpAny_pure (fin _ fun v s' z => ?_))))
      obtain ⟨⟨c, rfl⟩, q⟩ := z
      exact wpAny_pure ⟨_, rfl, q⟩
  unfold richCompare
  simp only [oneThing_ref]
  refine wpAny_holding (wpAny_bind (wpAny_cRoomFor (by have : A.units ≤ A.in1.units := Nat.le_succ _; omega) ?_))
  refine wpAny_bind (I.type.here (wpAny_bind (hb.here ?_)))
  have fin : wpAny (model prog w) A (tryCompare (.ref a) "__ne__" b) (fun r s' => ∃ v, r = some v ∧ R v s') E s := one
  split
  · rename_i q
    have e : PySem.W.subIn K tb (.ref C) = some false := by
      rcases Bool.or_eq_true_iff.mp hn with e | e
      · rw [beq_iff_eq.mp e] at q; simp at q
      · exact beq_iff_eq.mp e
    refine wpAny_bind ((PySem.W.looks_subIn X e).here ?_)
    simp only [Bool.false_eq_true, if_false]
    refine wpAny_bind (wpAny_mono fin (fun r s' z => ?_) fun _ _ e => e)
    obtain ⟨v, rfl, hq⟩ := z
    exact wpAny_pure hq
  · refine wpAny_bind (wpAny_pure ?_)
    simp only [Bool.false_eq_true, if_false]
    refine wpAny_bind (wpAny_mono fin (fun r s' z => ?_) fun _ _ e => e)
    obtain ⟨v, rfl, hq⟩ := z
    exact wpAny_pure hq
/-- what != asks of an own class without __ne__ -/
structure NeC (K : PySem.W.Frag) (C : Addr) : Prop where
  at_ : PySem.W.findIn K (.ref C) "__ne__" = some (some (.builtin "object.__ne__"))
  ob : PySem.W.mroIn K C (.type "object") = some true
def neB (K : PySem.W.Frag) (C : Addr) : Bool := He.eqO (PySem.W.findIn K (.ref C) "__ne__") (some (some (.builtin "object.__ne__"))) && decide (PySem.W.mroIn K C (.type "object") = some true)
theorem ne_ok {K : PySem.W.Frag} {C : Addr} (h : neB K C = true) : NeC K C := ⟨He.eqO_ok (He.ba h).1, of_decide_eq_true (He.ba h).2⟩
theorem e_neX (hr : Rm k A) (ea : H a = some (.ins C dx fs)) (ty : TyX K H y tb) (hn : PySem.W.notFirst K C tb = true) (hc : NeC K C) (hm : Meth K C "__eq__" g) (F : FnZ P w K mg base j g sp)
    (h : sp [.ref a, y] H (isBl fun b H' => Q (.bl (!b)) H') E0) (hj : j + 1 ≤ k := by decide) : vOp ⟨P, w, K, mg, base, A⟩ (compareOp .NotEq) (.ref a) y H Q := by
  refine ⟨?_⟩
  rintro X ⟨rfl, rfl, rfl, rfl, rfl, hA, hcalm⟩ pins s σ v u I rv ru
  have hA : X.A = A := hA
  subst hA
  cases (show v = Value.ref a from rv)
  obtain ⟨mA, O, _, _, _, _⟩ := ins_get I.hok ea
  obtain ⟨od, J, _⟩ := O.look
  obtain ⟨Pt, kit, hP, _⟩ := kit_of I ru ty
  obtain ⟨m, hF⟩ := I.fr
  show wpAny _ _ (richCompare .NotEq (.ref a) u) _ _ _
  refine ne_run (tb := tb) (by have := hr.units; show X.A.units + 1 + 1 < _; omega) hF I.ok.mod.kin J (kit.ty _ _ I.kIn hP) hn hc.at_ hc.ob hm.at_ hm.fn ?_
  refine wpAny_mono (run_in1 (us := [.ref a, u]) (vs := [.ref a, y]) F hr hj I (.cons rfl (.cons ru .nil)) h) (fun w s' z => ?_) fun _ _ x => x
  obtain ⟨z', H', I', rz, qz⟩ := z
  cases z' with
  | bl b => cases (show w = Value.bool b from rz); exact ⟨b, rfl, .bl (!b), H', I', rfl, qz⟩
  | _ => exact qz.elim
end
end Z

namespace Z
open PySem PySem.Spec PyProof.Rows L2
/-! ### calls with keywords -/
structure KBz (K : PySem.W.Frag) (fd : FuncData) (ps : List Str) (n : Nat) (ks : List Str) (g : ∀ {α : Type}, List α → List α → List α) : Prop where
  to : ∀ (s : Shared) (us ws : List Value), us.length = n → ws.length = ks.length → BindsTo s fd ⟨us, ks.zip ws⟩ (ps.zip (g us ws))
  rel : ∀ {vs : List V} {us : List Value} {zs : List V} {ws : List Value}, vs.length = n → zs.length = ks.length → Vals vs us → Vals zs ws → Vals (g vs zs) (g us ws)
theorem kb_of {K : PySem.W.Frag} {x qual : Str} {st : Stmt} {kws : List (Str × V)} {f : Addr} {fd : FuncData} {ps : List Str} {n : Nat} {ks : List Str} {g : ∀ {α : Type}, List α → List α → List α} (F : FunD K x qual (defArgs st) (defBody st) (defScope st) [] kws f fd)
    (h : ∀ (kV doc pm : Value) (an : Option Addr) (cdv ct : Value) (us ws : List Value), us.length = n → ws.length = ks.length → bindArgs (PySem.W.fnOf x qual (defArgs st) (defBody st) (defScope st) .none kV doc pm an cdv ct) ⟨us, ks.zip ws⟩ = pure (ps.zip (g us ws)))
    (r : ∀ {vs : List V} {us : List Value} {zs : List V} {ws : List Value}, vs.length = n → zs.length = ks.length → Vals vs us → Vals zs ws → Vals (g vs zs) (g us ws)) : KBz K fd ps n ks g := by
  obtain ⟨oc, od, dV, kV, doc, pm, an, cdv, ct, osl, rfl, lk, hcd, hD, hK⟩ := F.ex
  rcases hD with ⟨_, rfl⟩ | ⟨e, _⟩
  · exact ⟨fun s us ws l1 l2 => .of_eq (h kV doc pm an cdv ct us ws l1 l2), r⟩
  · exact absurd rfl e
structure vCallK (e : En) (f : Value) (ks : List Str) (xs zs : List V) (W : XK) (H : Hp) (Q : VK) : Prop where
  run : ∀ (X : Cx), Of e X → ∀ (pins : List (Addr × Obj)) (s : Shared) (σ : L2.St) (us ws : List Value), (∀ cls d H', W cls d H' → xw X σ cls d H') → Inv X pins σ H s → Vals xs us → Vals zs ws → wpAny (model X.prog X.w) X.A (call f us (ks.zip ws)) (EP X pins σ Q) X.xe s
def tCallK (e : En) (W : WX) (u : Value) (ks : List Str) (t tk : TA) : TE := fun σ H Q => t σ H fun vs H1 => tk σ H1 fun zs H2 => vCallK e u ks vs zs (fun c d H' => W c d σ H') H2 Q
section
variable {n : En} {X : Cx} {W : WX} {e : Expr} {es : List Expr} {kws : List Keyword} {t tk' : TA} {pos p : Pos} {x : Str} {ks : List Str}
theorem z_callK (o : Of n X) (tk : Takes X W) {u : Value} (hm : X.mg x = some u) (hk : PySem.W.keepIn X.K u = true) (ha : PA X (e :: es) t) (hkw : PK X kws tk') (hg : Gl X x := by rfl) (hdb : (x == ("__debug__" : Str)) = false := by decide)
    (hall : (backToKw pos (keywordEach kws X.env)).all (·.1.isSome) = true := by rfl) (hks : (backToKw pos (keywordEach kws X.env)).filterMap (·.1) = ks := by rfl) (he : starEach (e :: es) X.env = (false, eval e X.env) :: starEach es X.env := by rfl)
    (hpl : ((backTo pos (starEach (e :: es) X.env)).any (·.1) || (backToKw pos (keywordEach kws X.env)).any (·.1.isNone)) = false := by rfl) : PE X (.Call (.Name x p) (e :: es) kws pos) (tCallK n W u ks t tk') := by
  refine ⟨fun pins s σ H Q I h => ?_⟩
  refine wpAny_Call_Name_kw (ld_glob I hg hm ?_ hdb)
  refine PySem.W.callWith_KW (h₀ := X.base) I.ok.mod.kin hk hall (thn (ha.run pos pins s σ H _ I h) fun us s1 ⟨vs, H1, I1, r, q⟩ => ?_) hpl he
  refine thn (hkw.run pos pins s1 σ H1 _ I1 q) fun ws s2 ⟨zs, H2, I2, rz, q2⟩ => ⟨I2.kIn, ?_⟩
  rw [hks]
  exact q2.run X o pins s2 σ us ws (fun _ _ _ w => xw_of tk w) I2 r rz
theorem z_callK0 (o : Of n X) (tk : Takes X W) {u : Value} (hm : X.mg x = some u) (hk : PySem.W.keepIn X.K u = true) (hkw : PK X kws tk') (hg : Gl X x := by rfl) (hdb : (x == ("__debug__" : Str)) = false := by decide)
    (hall : (backToKw pos (keywordEach kws X.env)).all (·.1.isSome) = true := by rfl) (hks : (backToKw pos (keywordEach kws X.env)).filterMap (·.1) = ks := by rfl)
    (hpl : ((backTo pos (starEach [] X.env)).any (·.1) || (backToKw pos (keywordEach kws X.env)).any (·.1.isNone)) = false := by rfl) : PE X (.Call (.Name x p) [] kws pos) (tCallK n W u ks tNil tk') := by
  refine ⟨fun pins s σ H Q I h => ?_⟩
  refine wpAny_Call_Name_kw (ld_glob I hg hm ?_ hdb)
  refine PySem.W.callWith_KW0 (h₀ := X.base) I.ok.mod.kin hk hall ?_ hpl
  refine thn (hkw.run pos pins s σ H _ I h) fun ws s2 ⟨zs, H2, I2, rz, q2⟩ => ⟨I2.kIn, ?_⟩
  rw [hks]
  exact q2.run X o pins s2 σ [] ws (fun _ _ _ w => xw_of tk w) I2 .nil rz
end
section
variable {P : Program} {w : World} {K : PySem.W.Frag} {mg : Str → Option Value} {base : Heap} {A : Around} {k j m : Nat} {E W : XK} {f C : Addr} {fd : FuncData} {ps ks : List Str} {sp : Sp} {vs zs : List V} {H : Hp} {Q : VK} {g : ∀ {α : Type}, List α → List α → List α}
theorem callk_z (hr : Rm k A) (F : FnB P w K mg base j f fd ps sp) (B : KBz K fd ps m ks g) (l1 : vs.length = m) (l2 : zs.length = ks.length) (h : sp (g vs zs) H Q W) (hj : j ≤ k := by decide) : vCallK ⟨P, w, K, mg, base, A⟩ (.ref f) ks vs zs W H Q := by
  refine ⟨?_⟩
  rintro X ⟨rfl, rfl, rfl, rfl, rfl, hA, hc⟩ pins s σ us ws hW I r rz
  have hA : X.A = A := hA
  subst hA
  refine wpAny_call (codeAny_mono (F X.A X.stack s H ⟨us, ks.zip ws⟩ (g us ws) (g vs zs) Q W (hr.le hj) I.env0 (B.to s us ws (r.length.symm.trans l1) (rz.length.symm.trans l2)) (B.rel l1 l2 r rz) h) fun r s' hq => ?_)
  match r, hq with
  | .error e, ⟨a, B, H', cls, d, e1, fl, hok, ub, na, os, ag, hE⟩ => exact takes_w e s' (XE.of_call (W := fun cls d σ H => xw X σ cls d H) (E := xw X σ) I (fun cls d H' h => h) ⟨a, B, H', cls, d, e1, fl, hok, ub, na, os, ag, hW _ _ _ hE⟩)
  | .ok (.ret u), hq => exact I.after hq
theorem guards_make (C : Addr) (us : List Value) (kw : List (Str × Value)) : Code.guards (.builtin "type.__call__" ⟨.ref C :: us, kw⟩) = [] :=
  if_neg (by rw [show Code.isGuard (.builtin "type.__call__" ⟨.ref C :: us, kw⟩) = false from (by decide +kernel : guardIds.contains "type.__call__" = false)]; decide)
theorem guards_under_make {A : Around} {C : Addr} {us : List Value} {kw : List (Str × Value)} (h : A.guards = some []) : (A.under (.builtin "type.__call__" ⟨.ref C :: us, kw⟩)).guards = some [] := by
  show pushGuards (Code.guards (.builtin "type.__call__" ⟨.ref C :: us, kw⟩)) A.guards = some []
  rw [guards_make]
  exact h
theorem makek_z {fI : Addr} (hr : Rm k A) (M : Mk K C fI) (F : FnB P w K mg base j fI fd ps sp) (B : KBz K fd ps (m + 1) ks g) (l1 : vs.length = m) (l2 : zs.length = ks.length)
    (h : ∀ x dx, H x = none → H dx = none → dx ≠ x → sp (g (.ref x :: vs) zs) (upd (upd H dx (.own x)) x (.ins C dx [])) (fun v H2 => v = .non ∧ Q (.ref x) H2) W) (hj : j + 1 ≤ k := by decide) : vCallK ⟨P, w, K, mg, base, A⟩ (.ref C) ks vs zs W H Q := by
  refine ⟨?_⟩
  rintro X ⟨rfl, rfl, rfl, rfl, rfl, hA, hc⟩ pins s σ us ws hW I r rz
  have hA : X.A = A := hA
  subst hA
  have hq := h (s.heap.objs.size + 1) s.heap.objs.size (I.hok.fresh (Nat.le_succ _)) (I.hok.fresh (Nat.le_refl _)) (Nat.ne_of_lt (Nat.lt_succ_self _))
  have I2 := Inv.made (C := C) I
  have r1 : Vals (V.ref (s.heap.objs.size + 1) :: vs) (Value.ref (s.heap.objs.size + 1) :: us) := .cons rfl r
  have n1 : (Value.ref (s.heap.objs.size + 1) :: us).length = m + 1 := by rw [List.length_cons, ← r.length, l1]
  have hrm : Rm j (X.A.under (.builtin "type.__call__" ⟨.ref C :: us, ks.zip ws⟩)) := ⟨(hr.le hj).toRoom.make C us (ks.zip ws), guards_under_make hr.gs⟩
  refine wpAny_call (make_map (f := fI) I.kIn M.makes M.init (beq_iff_eq.mp M.fn) (codeAny_mono (F _ X.stack _ _ ⟨Value.ref (s.heap.objs.size + 1) :: us, ks.zip ws⟩ (g (Value.ref (s.heap.objs.size + 1) :: us) ws) _ _ W hrm
    (I2.env0.make C us (ks.zip ws)) (B.to _ _ ws n1 (rz.length.symm.trans l2)) (B.rel (by rw [List.length_cons, l1]) l2 r1 rz) hq) fun r s' hq' => ?_))
  match r, hq' with
  | .error e, ⟨a, B, H', cls, d, e1, fl, hok, ub, na, os, ag, hE⟩ => exact takes_w e s' (XE.of_call (W := fun cls d σ H => xw X σ cls d H) (E := xw X σ) I2 (fun cls d H' h => h) ⟨a, B, H', cls, d, e1, fl, hok, ub, na, os, ag, hW _ _ _ hE⟩)
  | .ok (.ret u), hq' =>
    obtain ⟨v, H', I3, rv, ev, q3⟩ := I2.after hq'
    subst ev
    exact ⟨rv, ⟨V.ref (s.heap.objs.size + 1), H', I3, rfl, q3⟩⟩
end
/-! ### f-strings, texts -/
structure vFmt (x : V) (H : Hp) (Q : VK) : Prop where
  run : (∃ y : Str, x = .str y ∧ y.length ≤ sizeLine ∧ Q (.str y) H) ∨ ∃ i : Int, x = .int i ∧ i.natAbs.log2 < 1920 ∧ Q (.str (toString i)) H
def uFmt (te : TE) : TE := fun σ H Q => te σ H fun x H1 => vFmt x H1 Q
theorem z_fmt {X : Cx} {e : Expr} {te : TE} {pos : Pos} (he : PE X e te) : PE X (.FormattedValue e (-1) none pos) (uFmt te) := by
  have e : uFmt te = tFmt te := by funext σ H Q; exact congrArg (te σ H) (funext fun x => funext fun H1 => propext ⟨fun h => h.run, fun h => ⟨h⟩⟩)
  rw [e]; exact pe_fmt he
/-- the parts of a text put together -/
structure vCat (acc : Str) (x : V) (R : Str → Prop) : Prop where
  run : ∃ y : Str, x = .str y ∧ (acc ++ y).length ≤ sizeLine ∧ R (acc ++ y)
def uJs : List TE → Str → L2.St → Hp → (Str → Hp → Prop) → Prop
  | [], acc, _, H, Q => Q acc H
  | t :: ts, acc, σ, H, Q => t σ H fun x H1 => vCat acc x fun z => uJs ts z σ H1 Q
theorem uJs_eq : ∀ (ts : List TE) (acc : Str) (σ : L2.St) (H : Hp) (Q : Str → Hp → Prop), uJs ts acc σ H Q = tJs ts acc σ H Q
  | [], _, _, _, _ => rfl
  | t :: ts, acc, σ, H, Q => by
    show t σ H _ = t σ H _
    congr 1
    funext x H1
    refine propext ⟨fun h => ?_, fun h => ?_⟩
    · obtain ⟨y, e, l, q⟩ := h.run
      rw [uJs_eq] at q
      exact ⟨y, e, l, q⟩
    · obtain ⟨y, e, l, q⟩ := h
      refine ⟨y, e, l, ?_⟩
      show uJs ts _ σ H1 Q
      rw [uJs_eq]; exact q
def uJoin (ts : List TE) : TE := fun σ H Q => uJs ts Str.empty σ H fun out H1 => Q (.str out) H1
theorem z_joined {X : Cx} {v1 v2 : Expr} {rest : List Expr} {ts : List TE} {pos : Pos} (h : PJ X (v1 :: v2 :: rest) ts) : PE X (.JoinedStr (v1 :: v2 :: rest) pos) (uJoin ts) := by
  have e : uJoin ts = fun σ H Q => tJs ts Str.empty σ H fun out H1 => Q (.str out) H1 := by funext σ H Q; exact uJs_eq _ _ _ _ _
  rw [e]; exact pe_joined h
section
variable {n : En} {H : Hp} {Q : VK} {x y : V} {i : Int} {t u : Str} {R : Str → Prop}
theorem e_fmtI (h : i.natAbs.log2 < 1920) (q : Q (.str (toString i)) H) : vFmt (.int i) H Q := ⟨.inr ⟨i, rfl, h, q⟩⟩
theorem e_fmtS (h : t.length ≤ sizeLine) (q : Q (.str t) H) : vFmt (.str t) H Q := ⟨.inl ⟨t, rfl, h, q⟩⟩
theorem e_part (h : (t ++ u).length ≤ sizeLine) (q : R (t ++ u)) : vCat t (.str u) R := ⟨u, rfl, h, q⟩
theorem e_strI (h : i.natAbs.log2 < 1920) (q : Q (.str (toString i)) H) : vCB n (.type "str") [.int i] H Q := vCB_of (fun _ _ => call_str_int) ⟨i, rfl, h, q⟩
theorem e_strS (q : Q (.str t) H) : vCB n (.type "str") [.str t] H Q := vCB_of (fun _ _ => SkE.call_str_str) ⟨t, rfl, q⟩
theorem e_addS (h : t.length + u.length ≤ sizeLine) (q : Q (.str (t ++ u)) H) : vOp n (binaryOp .Add) (.str t) (.str u) H Q := vOp_of (fun _ _ => op_add_str) ⟨t, u, rfl, rfl, h, q⟩
theorem e_reprI (h : i.natAbs.log2 < 1920) (q : Q (.str (toString i)) H) : vCB n (.builtin "repr") [.int i] H Q := vCB_of (fun _ _ => SkE.call_repr_int) ⟨i, rfl, h, q⟩
theorem e_reprBl {b : Bool} (q : Q (.str (if b then Str.ofString "True" else Str.ofString "False")) H) : vCB n (.builtin "repr") [.bl b] H Q := by
  refine ⟨fun X o pins s σ us I r => ?_⟩
  obtain ⟨v, rfl, rv⟩ := vals1 r
  cases (show v = Value.bool b from rv)
  exact PySem.P.repr_of_bool ⟨.str _, H, I.tok _, ⟨_, rfl⟩, q⟩
theorem e_reprN (q : Q (.str (Str.ofString "None")) H) : vCB n (.builtin "repr") [.non] H Q := by
  refine ⟨fun X o pins s σ us I r => ?_⟩
  obtain ⟨v, rfl, rv⟩ := vals1 r
  cases (show v = Value.none from rv)
  exact PySem.P.repr_of_none ⟨.str _, H, I.tok _, ⟨_, rfl⟩, q⟩
theorem e_reprS (h : (reprText t).length ≤ sizeLine) (q : Q (.str (reprText t)) H) : vCB n (.builtin "repr") [.str t] H Q := by
  refine ⟨fun X o pins s σ us I r => ?_⟩
  obtain ⟨v, rfl, tk, rfl⟩ := vals1 r
  exact PySem.P.repr_of_str ⟨.str _, H, I.tok _, ⟨_, rfl⟩, q⟩ h
theorem e_bool {b : Bool} (q : Q (.bl b) H) : vCB n (.type "bool") [.bl b] H Q := vCB_of (fun _ _ => call_bool1) (.inr ⟨b, rfl, q⟩)
theorem e_boolI (q : Q (.bl (i != 0)) H) : vCB n (.type "bool") [.int i] H Q := vCB_of (fun _ _ => call_bool1) (.inl ⟨i, rfl, q⟩)
end
end Z

namespace Z
open PySem PySem.Spec PyProof.Rows L2
theorem FnB.z0 {P : Program} {w : World} {K : PySem.W.Frag} {mg : Str → Option Value} {base : Heap} {k : Nat} {f : Addr} {fd : FuncData} {ps : List Str} {sp : Sp} (F : FnB P w K mg base k f fd ps sp) (hb : Binds K fd ps []) (len : ∀ vs H Q E, sp vs H Q E → vs.length = ps.length) : FnZ P w K mg base k f sp :=
  F.z (dvs := []) hb .nil (fun vs H Q E h => by rw [List.append_nil]; exact len _ _ _ _ h) fun vs H Q E h => by rw [List.append_nil]; exact h
/-! ### comprehensions whose turns change elder objects -/
section
variable {K : PySem.W.Frag} {g : TG} {tt : TT} {te : TE} {vs : List Nat} {σ : L2.St} {H : Hp} {Q : VK} {a : Addr} {xs : List V} {i j : Int}
theorem m_lcR1 (P : Addr → Nat → List V → Hp → Prop) (h1 : -(2 ^ 62) ≤ j) (h2 : j < 2 ^ 62) (h0 : ∀ D H1, H D = none → Same H H1 → H1 D = some (.lst []) → P D 0 [] H1)
    (hs : ∀ D (k : Nat) ys H1 (Next : Hp → Prop), (k : Int) < j → H D = none → H1 D = some (.lst ys) → P D k ys H1 → ys.length ≤ k → (∀ ys' H2, H2 D = some (.lst ys') → P D (k + 1) ys' H2 → ys'.length ≤ k + 1 → Next H2) → lcTurn g tt te vs σ D (.int (k : Int)) H1 Next)
    (hd : ∀ D ys H1, H D = none → H1 D = some (.lst ys) → P D j.toNat ys H1 → ys.length ≤ j.toNat → Q (.ref D) H1) : vLcR1 [.int j] g tt te vs σ H Q :=
  ⟨⟨j, rfl, h1, h2, fun D hD => lc_range (lo := 0) (n := j.toNat) (fun k H1 => ∃ ys, H1 D = some (.lst ys) ∧ P D k ys H1 ∧ ys.length ≤ k) ⟨[], upd_same, h0 D _ hD (same_upd hD) upd_same, Nat.le_refl _⟩
    (fun k H1 hk ⟨ys, hy, p, l⟩ => by
      have e : (0 : Int) + (k : Int) = (k : Int) := Int.zero_add _
      rw [e]
      exact turn_eq (hs D k ys H1 _ (by omega) hD hy p l fun ys' H2 h2 p2 l2 => ⟨ys', h2, p2, l2⟩))
    (fun H1 ⟨ys, hy, p, l⟩ => hd D ys H1 hD hy p l)⟩⟩
theorem m_lcR2 (P : Addr → Nat → List V → Hp → Prop) (h1 : -(2 ^ 62) ≤ i ∧ i < 2 ^ 62 ∧ -(2 ^ 62) ≤ j ∧ j < 2 ^ 62) (h0 : ∀ D H1, H D = none → Same H H1 → H1 D = some (.lst []) → P D 0 [] H1)
    (hs : ∀ D (k : Nat) ys H1 (Next : Hp → Prop), i + (k : Int) < j → H D = none → H1 D = some (.lst ys) → P D k ys H1 → ys.length ≤ k → (∀ ys' H2, H2 D = some (.lst ys') → P D (k + 1) ys' H2 → ys'.length ≤ k + 1 → Next H2) → lcTurn g tt te vs σ D (.int (i + (k : Int))) H1 Next)
    (hd : ∀ D ys H1, H D = none → H1 D = some (.lst ys) → P D (j - i).toNat ys H1 → ys.length ≤ (j - i).toNat → Q (.ref D) H1) : vLcR2 [.int i, .int j] g tt te vs σ H Q :=
  ⟨⟨i, j, rfl, h1, fun D hD => lc_range (lo := i) (n := (j - i).toNat) (fun k H1 => ∃ ys, H1 D = some (.lst ys) ∧ P D k ys H1 ∧ ys.length ≤ k) ⟨[], upd_same, h0 D _ hD (same_upd hD) upd_same, Nat.le_refl _⟩
    (fun k H1 hk ⟨ys, hy, p, l⟩ => turn_eq (hs D k ys H1 _ (by omega) hD hy p l fun ys' H2 h2 p2 l2 => ⟨ys', h2, p2, l2⟩))
    (fun H1 ⟨ys, hy, p, l⟩ => hd D ys H1 hD hy p l)⟩⟩
theorem m_lcL (P : Addr → Nat → List V → Hp → Prop) (hx : SqL K H a xs) (hz : xs.length ≤ 1000000) (h0 : ∀ D H1, H D = none → Same H H1 → H1 D = some (.lst []) → P D 0 [] H1) (hl : ∀ D i ys H1, H D = none → P D i ys H1 → SqL K H1 a xs)
    (hs : ∀ D i x ys H1 (Next : Hp → Prop), xs[i]? = some x → H D = none → H1 D = some (.lst ys) → P D i ys H1 → ys.length ≤ i → i < xs.length → (∀ ys' H2, H2 D = some (.lst ys') → P D (i + 1) ys' H2 → ys'.length ≤ i + 1 → Next H2) → lcTurn g tt te vs σ D x H1 Next)
    (hd : ∀ D ys H1, H D = none → H1 D = some (.lst ys) → P D xs.length ys H1 → ys.length ≤ xs.length → Q (.ref D) H1) : vLcL K (.ref a) g tt te vs σ H Q :=
  ⟨⟨a, rfl, ⟨xs, hx⟩, fun D hD => lc_list (xs := xs) (fun i H1 => ∃ ys, H1 D = some (.lst ys) ∧ P D i ys H1 ∧ ys.length ≤ i) ⟨[], upd_same, h0 D _ hD (same_upd hD) upd_same, Nat.le_refl _⟩
    (fun i H1 _ ⟨ys, _, p, _⟩ => hl D i ys H1 hD p) (fun i x H1 hi ⟨ys, hy, p, l⟩ => turn_eq (hs D i x ys H1 _ hi hD hy p l (List.getElem?_eq_some_iff.mp hi).1 fun ys' H2 h2 p2 l2 => ⟨ys', h2, p2, l2⟩))
    (fun H1 ⟨ys, hy, p, l⟩ => hd D ys H1 hD hy p l)⟩⟩
theorem m_lcT (P : Addr → Nat → List V → Hp → Prop) (hx : SqT K H a xs) (hz : xs.length ≤ 1000000) (h0 : ∀ D H1, H D = none → Same H H1 → H1 D = some (.lst []) → P D 0 [] H1) (hl : ∀ D i ys H1, H D = none → P D i ys H1 → SqT K H1 a xs)
    (hs : ∀ D i x ys H1 (Next : Hp → Prop), xs[i]? = some x → H D = none → H1 D = some (.lst ys) → P D i ys H1 → ys.length ≤ i → i < xs.length → (∀ ys' H2, H2 D = some (.lst ys') → P D (i + 1) ys' H2 → ys'.length ≤ i + 1 → Next H2) → lcTurn g tt te vs σ D x H1 Next)
    (hd : ∀ D ys H1, H D = none → H1 D = some (.lst ys) → P D xs.length ys H1 → ys.length ≤ xs.length → Q (.ref D) H1) : vLcT K (.ref a) g tt te vs σ H Q :=
  ⟨⟨a, rfl, ⟨xs, hx⟩, fun D hD => lc_tup (xs := xs) (fun i H1 => ∃ ys, H1 D = some (.lst ys) ∧ P D i ys H1 ∧ ys.length ≤ i) ⟨[], upd_same, h0 D _ hD (same_upd hD) upd_same, Nat.le_refl _⟩
    (fun i H1 _ ⟨ys, _, p, _⟩ => hl D i ys H1 hD p) (fun i x H1 hi ⟨ys, hy, p, l⟩ => turn_eq (hs D i x ys H1 _ hi hD hy p l (List.getElem?_eq_some_iff.mp hi).1 fun ys' H2 h2 p2 l2 => ⟨ys', h2, p2, l2⟩))
    (fun H1 ⟨ys, hy, p, l⟩ => hd D ys H1 hD hy p l)⟩⟩
end
end Z

namespace Pf
open PySem PySem.Spec PyProof.Rows L2 Z
def topS (i : Nat) : Stmt := PySem.Challenge.pw_searchloops_k02_rows_made.main.body.getD i (.Pass ⟨0, 0, 0, 0⟩)
abbrev s_is_integer : Stmt := topS 8
theorem sc_is_integer : FnScope ["value"] ["value"] (defScope s_is_integer) := ⟨rfl, rfl, rfl, by decide +kernel, rfl, by decide +kernel, by decide +kernel⟩
abbrev s_Row_init : Stmt := inClass (topS 11) 0
theorem sc_Row_init : FnScope ["self", "length", "below", "upto"] ["self", "length", "below", "upto"] (defScope s_Row_init) := ⟨rfl, rfl, rfl, by decide +kernel, rfl, by decide +kernel, by decide +kernel⟩
abbrev s_Row_length : Stmt := inClass (topS 11) 2
theorem sc_Row_length : FnScope ["self"] ["self"] (defScope s_Row_length) := ⟨rfl, rfl, rfl, by decide +kernel, rfl, by decide +kernel, by decide +kernel⟩
abbrev s_Row_below : Stmt := inClass (topS 11) 3
theorem sc_Row_below : FnScope ["self"] ["self"] (defScope s_Row_below) := ⟨rfl, rfl, rfl, by decide +kernel, rfl, by decide +kernel, by decide +kernel⟩
abbrev s_Row_upto : Stmt := inClass (topS 11) 4
theorem sc_Row_upto : FnScope ["self"] ["self"] (defScope s_Row_upto) := ⟨rfl, rfl, rfl, by decide +kernel, rfl, by decide +kernel, by decide +kernel⟩
abbrev s_Row_there : Stmt := inClass (topS 11) 5
theorem sc_Row_there : FnScope ["self"] ["self"] (defScope s_Row_there) := ⟨rfl, rfl, rfl, by decide +kernel, rfl, by decide +kernel, by decide +kernel⟩
abbrev s_Row_eq : Stmt := inClass (topS 11) 11
theorem sc_Row_eq : FnScope ["self", "other"] ["self", "other"] (defScope s_Row_eq) := ⟨rfl, rfl, rfl, by decide +kernel, rfl, by decide +kernel, by decide +kernel⟩
abbrev s_Row_repr : Stmt := inClass (topS 11) 12
theorem sc_Row_repr : FnScope ["self", "length", "below", "upto"] ["self"] (defScope s_Row_repr) := ⟨rfl, rfl, rfl, by decide +kernel, rfl, by decide +kernel, by decide +kernel⟩
abbrev s__law_store : Stmt := topS 13
theorem sc__law_store : FnScope ["_law_script", "_law_mixed", "_law_cell"] ["_law_script"] (defScope s__law_store) := ⟨rfl, rfl, rfl, by decide +kernel, rfl, by decide +kernel, by decide +kernel⟩
abbrev s__law_pick : Stmt := topS 14
theorem sc__law_pick : FnScope ["_law_store_here", "_law_many", "_law_rest", "_law_digit", "_law_old"] ["_law_store_here", "_law_many"] (defScope s__law_pick) := ⟨rfl, rfl, rfl, by decide +kernel, rfl, by decide +kernel, by decide +kernel⟩
abbrev s__law_rows : Stmt := topS 15
theorem sc__law_rows : FnScope ["_law_size", "_law_found", "_law_t", "_law_u"] ["_law_size"] (defScope s__law_rows) := ⟨rfl, rfl, rfl, by decide +kernel, rfl, by decide +kernel, by decide +kernel⟩
abbrev s__law_great : Stmt := topS 16
theorem sc__law_great : FnScope ["_law_store_here", "_law_way", "_law_n", "_law_some", "_law_t"] ["_law_store_here"] (defScope s__law_great) := ⟨rfl, rfl, rfl, by decide +kernel, rfl, by decide +kernel, by decide +kernel⟩
abbrev s__law_shown : Stmt := topS 17
theorem sc__law_shown : FnScope ["_law_placed", "_law_plain", "_law_n", "_law_t", "_law_u"] ["_law_placed", "_law_plain"] (defScope s__law_shown) := ⟨rfl, rfl, rfl, by decide +kernel, rfl, by decide +kernel, by decide +kernel⟩
abbrev s_law : Stmt := topS 18
theorem sc_law : FnScope ["_law_script", "_law_store_here", "_law_some", "_law_turn", "_law_plain", "_law_n", "_law_t", "_law_u", "_law_placed", "_law_twin", "_law_peer"] ["_law_script"] (defScope s_law) := ⟨rfl, rfl, rfl, by decide +kernel, rfl, by decide +kernel, by decide +kernel⟩
structure Wd (K : PySem.W.Frag) (mg : Str → Option Value) where
  a_is_integer : Addr
  fd_is_integer : FuncData
  F_is_integer : FunD K "is_integer" "is_integer" (defArgs s_is_integer) (defBody s_is_integer) (defScope s_is_integer) [] [] a_is_integer fd_is_integer
  B_is_integer : Binds K fd_is_integer ["value"] []
  h_is_integer : mg "is_integer" = some (.ref a_is_integer)
  k_is_integer : PySem.W.keepIn K (.ref a_is_integer) = true
  a_Row_init : Addr
  fd_Row_init : FuncData
  F_Row_init : FunD K "__init__" "Row.__init__" (defArgs s_Row_init) (defBody s_Row_init) (defScope s_Row_init) [] [] a_Row_init fd_Row_init
  B_Row_init : Binds K fd_Row_init ["self", "length", "below", "upto"] []
  a_Row_length : Addr
  fd_Row_length : FuncData
  F_Row_length : FunD K "length" "Row.length" (defArgs s_Row_length) (defBody s_Row_length) (defScope s_Row_length) [] [] a_Row_length fd_Row_length
  B_Row_length : Binds K fd_Row_length ["self"] []
  a_Row_below : Addr
  fd_Row_below : FuncData
  F_Row_below : FunD K "below" "Row.below" (defArgs s_Row_below) (defBody s_Row_below) (defScope s_Row_below) [] [] a_Row_below fd_Row_below
  B_Row_below : Binds K fd_Row_below ["self"] []
  a_Row_upto : Addr
  fd_Row_upto : FuncData
  F_Row_upto : FunD K "upto" "Row.upto" (defArgs s_Row_upto) (defBody s_Row_upto) (defScope s_Row_upto) [] [] a_Row_upto fd_Row_upto
  B_Row_upto : Binds K fd_Row_upto ["self"] []
  a_Row_there : Addr
  fd_Row_there : FuncData
  F_Row_there : FunD K "there" "Row.there" (defArgs s_Row_there) (defBody s_Row_there) (defScope s_Row_there) [] [] a_Row_there fd_Row_there
  B_Row_there : Binds K fd_Row_there ["self"] []
  a_Row_eq : Addr
  fd_Row_eq : FuncData
  F_Row_eq : FunD K "__eq__" "Row.__eq__" (defArgs s_Row_eq) (defBody s_Row_eq) (defScope s_Row_eq) [] [] a_Row_eq fd_Row_eq
  B_Row_eq : Binds K fd_Row_eq ["self", "other"] []
  a_Row_repr : Addr
  fd_Row_repr : FuncData
  F_Row_repr : FunD K "__repr__" "Row.__repr__" (defArgs s_Row_repr) (defBody s_Row_repr) (defScope s_Row_repr) [] [] a_Row_repr fd_Row_repr
  B_Row_repr : Binds K fd_Row_repr ["self"] []
  a__law_store : Addr
  fd__law_store : FuncData
  F__law_store : FunD K "_law_store" "_law_store" (defArgs s__law_store) (defBody s__law_store) (defScope s__law_store) [] [] a__law_store fd__law_store
  B__law_store : Binds K fd__law_store ["_law_script"] []
  h__law_store : mg "_law_store" = some (.ref a__law_store)
  k__law_store : PySem.W.keepIn K (.ref a__law_store) = true
  a__law_pick : Addr
  fd__law_pick : FuncData
  F__law_pick : FunD K "_law_pick" "_law_pick" (defArgs s__law_pick) (defBody s__law_pick) (defScope s__law_pick) [] [] a__law_pick fd__law_pick
  B__law_pick : Binds K fd__law_pick ["_law_store_here", "_law_many"] []
  h__law_pick : mg "_law_pick" = some (.ref a__law_pick)
  k__law_pick : PySem.W.keepIn K (.ref a__law_pick) = true
  a__law_rows : Addr
  fd__law_rows : FuncData
  F__law_rows : FunD K "_law_rows" "_law_rows" (defArgs s__law_rows) (defBody s__law_rows) (defScope s__law_rows) [] [] a__law_rows fd__law_rows
  B__law_rows : Binds K fd__law_rows ["_law_size"] []
  h__law_rows : mg "_law_rows" = some (.ref a__law_rows)
  k__law_rows : PySem.W.keepIn K (.ref a__law_rows) = true
  a__law_great : Addr
  fd__law_great : FuncData
  F__law_great : FunD K "_law_great" "_law_great" (defArgs s__law_great) (defBody s__law_great) (defScope s__law_great) [] [] a__law_great fd__law_great
  B__law_great : Binds K fd__law_great ["_law_store_here"] []
  h__law_great : mg "_law_great" = some (.ref a__law_great)
  k__law_great : PySem.W.keepIn K (.ref a__law_great) = true
  a__law_shown : Addr
  fd__law_shown : FuncData
  F__law_shown : FunD K "_law_shown" "_law_shown" (defArgs s__law_shown) (defBody s__law_shown) (defScope s__law_shown) [] [] a__law_shown fd__law_shown
  B__law_shown : Binds K fd__law_shown ["_law_placed", "_law_plain"] []
  h__law_shown : mg "_law_shown" = some (.ref a__law_shown)
  k__law_shown : PySem.W.keepIn K (.ref a__law_shown) = true
  a_law : Addr
  fd_law : FuncData
  F_law : FunD K "law" "law" (defArgs s_law) (defBody s_law) (defScope s_law) [] [] a_law fd_law
  B_law : Binds K fd_law ["_law_script"] []
  h_law : mg "law" = some (.ref a_law)
  k_law : PySem.W.keepIn K (.ref a_law) = true
  a_Row : Addr
  h_Row : mg "Row" = some (.ref a_Row)
  k_Row : PySem.W.keepIn K (.ref a_Row) = true
  c_Row : Cls K a_Row
  M_Row_eq : Meth K a_Row "__eq__" a_Row_eq
  M_Row_repr : Meth K a_Row "__repr__" a_Row_repr
  M_Row : Mk K a_Row a_Row_init
  p_Row_length : Addr
  P_Row_length : PropOf K a_Row "length" p_Row_length a_Row_length
  p_Row_below : Addr
  P_Row_below : PropOf K a_Row "below" p_Row_below a_Row_below
  p_Row_upto : Addr
  P_Row_upto : PropOf K a_Row "upto" p_Row_upto a_Row_upto
  p_Row_there : Addr
  P_Row_there : PropOf K a_Row "there" p_Row_there a_Row_there
  n_Row_place : NoAttr K a_Row "place"
  n_Row_bool : NoAttr K a_Row "__bool__"
  n_Row_len : NoAttr K a_Row "__len__"
  i_Row : Isi K a_Row
  ne_Row : NeC K a_Row
  nf_Row_tuple : PySem.W.notFirst K a_Row (.type "tuple") = true
  nf_Row_NoneType : PySem.W.notFirst K a_Row (.type "NoneType") = true
  nf_Row_str : PySem.W.notFirst K a_Row (.type "str") = true
  kit_Row_tuple : PySem.W.kitOne K (.type "tuple") (.ref a_Row) = some false
  kit_Row_NoneType : PySem.W.kitOne K (.type "NoneType") (.ref a_Row) = some false
  kit_Row_str : PySem.W.kitOne K (.type "str") (.ref a_Row) = some false
  nf_Row : PySem.W.notFirst K a_Row (.ref a_Row) = true
  b_abs : mg "abs" = none
  b_bool : mg "bool" = none
  b_divmod : mg "divmod" = none
  b_int : mg "int" = none
  b_isinstance : mg "isinstance" = none
  b_len : mg "len" = none
  b_max : mg "max" = none
  b_min : mg "min" = none
  b_range : mg "range" = none
  b_repr : mg "repr" = none
  b_str : mg "str" = none
def g_Row_init_upto_length_below {α : Type} : List α → List α → List α
  | [x0], [y0, y1, y2] => [x0, y1, y2, y0]
  | _, _ => []
theorem kb_Row_init_upto_length_below {K : PySem.W.Frag} {mg : Str → Option Value} (D : Wd K mg) : KBz K D.fd_Row_init ["self", "length", "below", "upto"] 1 ["upto", "length", "below"] g_Row_init_upto_length_below :=
  kb_of D.F_Row_init (fun _ _ _ _ _ _ us ws h1 h2 => match us, ws, h1, h2 with | [_], [_, _, _], _, _ => rfl) fun {vs us zs ws} h1 h2 r1 r2 => match vs, zs, us, ws, h1, h2, r1, r2 with
    | [_], [_, _, _], _, _, _, _, (.cons x0 .nil), (.cons y0 (.cons y1 (.cons y2 .nil))) => (.cons x0 (.cons y1 (.cons y2 (.cons y0 .nil))))
section
variable {P : Program} {w : World} {K : PySem.W.Frag} {mg : Str → Option Value} {base : Heap}

def t_is_integer (D : Wd K mg) (n : En) (W : WX) : TS := (tRet (tAndU n (tCB (vCB n (.builtin "isinstance")) (tCons (tV 0) (tCons (tC (.ty "int")) tNil))) (tNotU n (tCB (vCB n (.builtin "isinstance")) (tCons (tV 0) (tCons (tC (.ty "bool")) tNil))))))
theorem d_is_integer (D : Wd K mg) (cdv : Value) (A : Around) (outer : List Env) (s : Shared) (H : Hp) (E : XK) (f : Addr) (o : Of ⟨P, w, K, mg, base, A.deeper (envOfC "is_integer" (defScope s_is_integer) s.heap.objs.size f cdv)⟩ (cxOf (L2.CX P w) P w K mg base ["value"] "is_integer" (defScope s_is_integer) f cdv A outer s H E))
    (tk : Takes (cxOf (L2.CX P w) P w K mg base ["value"] "is_integer" (defScope s_is_integer) f cdv A outer s H E) (fun cls d _ H => E cls d H)) :
    PSs (cxOf (L2.CX P w) P w K mg base ["value"] "is_integer" (defScope s_is_integer) f cdv A outer s H E) (defBody s_is_integer) (t_is_integer D ⟨P, w, K, mg, base, A.deeper (envOfC "is_integer" (defScope s_is_integer) s.heap.objs.size f cdv)⟩ (fun cls d _ H => E cls d H)) := by
  have hp : PassesOwn (model (cxOf (L2.CX P w) P w K mg base ["value"] "is_integer" (defScope s_is_integer) f cdv A outer s H E).prog (cxOf (L2.CX P w) P w K mg base ["value"] "is_integer" (defScope s_is_integer) f cdv A outer s H E).w) (cxOf (L2.CX P w) P w K mg base ["value"] "is_integer" (defScope s_is_integer) f cdv A outer s H E).A (cxOf (L2.CX P w) P w K mg base ["value"] "is_integer" (defScope s_is_integer) f cdv A outer s H E).env (cxOf (L2.CX P w) P w K mg base ["value"] "is_integer" (defScope s_is_integer) f cdv A outer s H E).xe := passes_of rfl
  exact (pss_one (ps_ret (z_and o (pe_callB (cbr_v o) (by rfl) D.b_isinstance (by decide +kernel) (pa_cons (zv 0) (pa_cons (pe_bltn (by rfl) D.b_int (by decide +kernel) rfl) pa_nil))) (pe_one (z_not o (pe_callB (cbr_v o) (by rfl) D.b_isinstance (by decide +kernel) (pa_cons (zv 0) (pa_cons (pe_bltn (by rfl) D.b_bool (by decide +kernel) rfl) pa_nil))))))))

def t_Row_init_k0 (D : Wd K mg) (n : En) (W : WX) : TS := (sFld n.K (tV 0) (uTup (tCons (tV 1) (tCons (tV 2) (tCons (tV 3) tNil)))) "place")
def t_Row_init_k1 (D : Wd K mg) (n : En) (W : WX) : TS := (tSeq (uIfS (uOr (tNot (tTruU n (tCallU n W (.ref D.a_is_integer) (tCons (tV 3) tNil)))) (tNot (uTest (uChain (vOp n (compareOp .LtE)) (vOp n (compareOp .LtE)) (tV 2) (tV 3) (tV 1))))) tNever tNext)
  (t_Row_init_k0 D n W))
def t_Row_init_k2 (D : Wd K mg) (n : En) (W : WX) : TS := (tSeq (uIfS (uOr (tNot (tTruU n (tCallU n W (.ref D.a_is_integer) (tCons (tV 2) tNil)))) (tNot (uTest (uChain (vOp n (compareOp .LtE)) (vOp n (compareOp .LtE)) (tC (.int 0)) (tV 2) (tV 1))))) tNever tNext)
  (t_Row_init_k1 D n W))
def t_Row_init (D : Wd K mg) (n : En) (W : WX) : TS := (tSeq (uIfS (uOr (tNot (tTruU n (tCallU n W (.ref D.a_is_integer) (tCons (tV 1) tNil)))) (uTest (tOp (vOp n (compareOp .Lt)) (tV 1) (tC (.int 0))))) tNever tNext)
  (t_Row_init_k2 D n W))
theorem d_Row_init (D : Wd K mg) (cdv : Value) (A : Around) (outer : List Env) (s : Shared) (H : Hp) (E : XK) (f : Addr) (o : Of ⟨P, w, K, mg, base, A.deeper (envOfC "Row.__init__" (defScope s_Row_init) s.heap.objs.size f cdv)⟩ (cxOf (L2.CX P w) P w K mg base ["self", "length", "below", "upto"] "Row.__init__" (defScope s_Row_init) f cdv A outer s H E))
    (tk : Takes (cxOf (L2.CX P w) P w K mg base ["self", "length", "below", "upto"] "Row.__init__" (defScope s_Row_init) f cdv A outer s H E) (fun cls d _ H => E cls d H)) :
    PSs (cxOf (L2.CX P w) P w K mg base ["self", "length", "below", "upto"] "Row.__init__" (defScope s_Row_init) f cdv A outer s H E) (defBody s_Row_init) (t_Row_init D ⟨P, w, K, mg, base, A.deeper (envOfC "Row.__init__" (defScope s_Row_init) s.heap.objs.size f cdv)⟩ (fun cls d _ H => E cls d H)) := by
  have hp : PassesOwn (model (cxOf (L2.CX P w) P w K mg base ["self", "length", "below", "upto"] "Row.__init__" (defScope s_Row_init) f cdv A outer s H E).prog (cxOf (L2.CX P w) P w K mg base ["self", "length", "below", "upto"] "Row.__init__" (defScope s_Row_init) f cdv A outer s H E).w) (cxOf (L2.CX P w) P w K mg base ["self", "length", "below", "upto"] "Row.__init__" (defScope s_Row_init) f cdv A outer s H E).A (cxOf (L2.CX P w) P w K mg base ["self", "length", "below", "upto"] "Row.__init__" (defScope s_Row_init) f cdv A outer s H E).env (cxOf (L2.CX P w) P w K mg base ["self", "length", "below", "upto"] "Row.__init__" (defScope s_Row_init) f cdv A outer s H E).xe := passes_of rfl
  exact (pss_cons (z_if (PW.pt (zw_or (pt_not (z_tru o (z_call o tk D.h_is_integer D.k_is_integer (pa_cons (zv 1) pa_nil)))) (pw_or1 (z_cmpT (opr_v o) (zv 1) pe_int (nomark _))))) (pss_one ps_never) pss_nil)
  (pss_cons (z_if (PW.pt (zw_or (pt_not (z_tru o (z_call o tk D.h_is_integer D.k_is_integer (pa_cons (zv 2) pa_nil)))) (pw_or1 (pt_not (z_chainT (opr_v o) (opr_v o) pe_int (zv 2) (zv 1)))))) (pss_one ps_never) pss_nil)
  (pss_cons (z_if (PW.pt (zw_or (pt_not (z_tru o (z_call o tk D.h_is_integer D.k_is_integer (pa_cons (zv 3) pa_nil)))) (pw_or1 (pt_not (z_chainT (opr_v o) (opr_v o) (zv 2) (zv 3) (zv 1)))))) (pss_one ps_never) pss_nil)
  (pss_one (ps_fld (zv 0) (z_tup (pa_cons (zv 1) (pa_cons (zv 2) (pa_cons (zv 3) pa_nil)))) rfl)))))


def t_Row_length (D : Wd K mg) (n : En) (W : WX) : TS := (tRet (tOp (vIx n) (tAttr n W "place" (tV 0)) (tC (.int 0))))
theorem d_Row_length (D : Wd K mg) (cdv : Value) (A : Around) (outer : List Env) (s : Shared) (H : Hp) (E : XK) (f : Addr) (o : Of ⟨P, w, K, mg, base, A.deeper (envOfC "Row.length" (defScope s_Row_length) s.heap.objs.size f cdv)⟩ (cxOf (L2.CX P w) P w K mg base ["self"] "Row.length" (defScope s_Row_length) f cdv A outer s H E))
    (tk : Takes (cxOf (L2.CX P w) P w K mg base ["self"] "Row.length" (defScope s_Row_length) f cdv A outer s H E) (fun cls d _ H => E cls d H)) :
    PSs (cxOf (L2.CX P w) P w K mg base ["self"] "Row.length" (defScope s_Row_length) f cdv A outer s H E) (defBody s_Row_length) (t_Row_length D ⟨P, w, K, mg, base, A.deeper (envOfC "Row.length" (defScope s_Row_length) s.heap.objs.size f cdv)⟩ (fun cls d _ H => E cls d H)) := by
  have hp : PassesOwn (model (cxOf (L2.CX P w) P w K mg base ["self"] "Row.length" (defScope s_Row_length) f cdv A outer s H E).prog (cxOf (L2.CX P w) P w K mg base ["self"] "Row.length" (defScope s_Row_length) f cdv A outer s H E).w) (cxOf (L2.CX P w) P w K mg base ["self"] "Row.length" (defScope s_Row_length) f cdv A outer s H E).A (cxOf (L2.CX P w) P w K mg base ["self"] "Row.length" (defScope s_Row_length) f cdv A outer s H E).env (cxOf (L2.CX P w) P w K mg base ["self"] "Row.length" (defScope s_Row_length) f cdv A outer s H E).xe := passes_of rfl
  exact (pss_one (ps_ret (pe_ix (ixr_v o) (z_attr o tk (zv 0)) pe_int (fun _ _ => rfl))))


def t_Row_below (D : Wd K mg) (n : En) (W : WX) : TS := (tRet (tOp (vIx n) (tAttr n W "place" (tV 0)) (tC (.int 1))))
theorem d_Row_below (D : Wd K mg) (cdv : Value) (A : Around) (outer : List Env) (s : Shared) (H : Hp) (E : XK) (f : Addr) (o : Of ⟨P, w, K, mg, base, A.deeper (envOfC "Row.below" (defScope s_Row_below) s.heap.objs.size f cdv)⟩ (cxOf (L2.CX P w) P w K mg base ["self"] "Row.below" (defScope s_Row_below) f cdv A outer s H E))
    (tk : Takes (cxOf (L2.CX P w) P w K mg base ["self"] "Row.below" (defScope s_Row_below) f cdv A outer s H E) (fun cls d _ H => E cls d H)) :
    PSs (cxOf (L2.CX P w) P w K mg base ["self"] "Row.below" (defScope s_Row_below) f cdv A outer s H E) (defBody s_Row_below) (t_Row_below D ⟨P, w, K, mg, base, A.deeper (envOfC "Row.below" (defScope s_Row_below) s.heap.objs.size f cdv)⟩ (fun cls d _ H => E cls d H)) := by
  have hp : PassesOwn (model (cxOf (L2.CX P w) P w K mg base ["self"] "Row.below" (defScope s_Row_below) f cdv A outer s H E).prog (cxOf (L2.CX P w) P w K mg base ["self"] "Row.below" (defScope s_Row_below) f cdv A outer s H E).w) (cxOf (L2.CX P w) P w K mg base ["self"] "Row.below" (defScope s_Row_below) f cdv A outer s H E).A (cxOf (L2.CX P w) P w K mg base ["self"] "Row.below" (defScope s_Row_below) f cdv A outer s H E).env (cxOf (L2.CX P w) P w K mg base ["self"] "Row.below" (defScope s_Row_below) f cdv A outer s H E).xe := passes_of rfl
  exact (pss_one (ps_ret (pe_ix (ixr_v o) (z_attr o tk (zv 0)) pe_int (fun _ _ => rfl))))


def t_Row_upto (D : Wd K mg) (n : En) (W : WX) : TS := (tRet (tOp (vIx n) (tAttr n W "place" (tV 0)) (tC (.int 2))))
theorem d_Row_upto (D : Wd K mg) (cdv : Value) (A : Around) (outer : List Env) (s : Shared) (H : Hp) (E : XK) (f : Addr) (o : Of ⟨P, w, K, mg, base, A.deeper (envOfC "Row.upto" (defScope s_Row_upto) s.heap.objs.size f cdv)⟩ (cxOf (L2.CX P w) P w K mg base ["self"] "Row.upto" (defScope s_Row_upto) f cdv A outer s H E))
    (tk : Takes (cxOf (L2.CX P w) P w K mg base ["self"] "Row.upto" (defScope s_Row_upto) f cdv A outer s H E) (fun cls d _ H => E cls d H)) :
    PSs (cxOf (L2.CX P w) P w K mg base ["self"] "Row.upto" (defScope s_Row_upto) f cdv A outer s H E) (defBody s_Row_upto) (t_Row_upto D ⟨P, w, K, mg, base, A.deeper (envOfC "Row.upto" (defScope s_Row_upto) s.heap.objs.size f cdv)⟩ (fun cls d _ H => E cls d H)) := by
  have hp : PassesOwn (model (cxOf (L2.CX P w) P w K mg base ["self"] "Row.upto" (defScope s_Row_upto) f cdv A outer s H E).prog (cxOf (L2.CX P w) P w K mg base ["self"] "Row.upto" (defScope s_Row_upto) f cdv A outer s H E).w) (cxOf (L2.CX P w) P w K mg base ["self"] "Row.upto" (defScope s_Row_upto) f cdv A outer s H E).A (cxOf (L2.CX P w) P w K mg base ["self"] "Row.upto" (defScope s_Row_upto) f cdv A outer s H E).env (cxOf (L2.CX P w) P w K mg base ["self"] "Row.upto" (defScope s_Row_upto) f cdv A outer s H E).xe := passes_of rfl
  exact (pss_one (ps_ret (pe_ix (ixr_v o) (z_attr o tk (zv 0)) pe_int (fun _ _ => rfl))))


def t_Row_there (D : Wd K mg) (n : En) (W : WX) : TS := (tRet (tOp (vOp n (compareOp .Lt)) (tOp (vIx n) (tAttr n W "place" (tV 0)) (tC (.int 1))) (tOp (vIx n) (tAttr n W "place" (tV 0)) (tC (.int 2)))))
theorem d_Row_there (D : Wd K mg) (cdv : Value) (A : Around) (outer : List Env) (s : Shared) (H : Hp) (E : XK) (f : Addr) (o : Of ⟨P, w, K, mg, base, A.deeper (envOfC "Row.there" (defScope s_Row_there) s.heap.objs.size f cdv)⟩ (cxOf (L2.CX P w) P w K mg base ["self"] "Row.there" (defScope s_Row_there) f cdv A outer s H E))
    (tk : Takes (cxOf (L2.CX P w) P w K mg base ["self"] "Row.there" (defScope s_Row_there) f cdv A outer s H E) (fun cls d _ H => E cls d H)) :
    PSs (cxOf (L2.CX P w) P w K mg base ["self"] "Row.there" (defScope s_Row_there) f cdv A outer s H E) (defBody s_Row_there) (t_Row_there D ⟨P, w, K, mg, base, A.deeper (envOfC "Row.there" (defScope s_Row_there) s.heap.objs.size f cdv)⟩ (fun cls d _ H => E cls d H)) := by
  have hp : PassesOwn (model (cxOf (L2.CX P w) P w K mg base ["self"] "Row.there" (defScope s_Row_there) f cdv A outer s H E).prog (cxOf (L2.CX P w) P w K mg base ["self"] "Row.there" (defScope s_Row_there) f cdv A outer s H E).w) (cxOf (L2.CX P w) P w K mg base ["self"] "Row.there" (defScope s_Row_there) f cdv A outer s H E).A (cxOf (L2.CX P w) P w K mg base ["self"] "Row.there" (defScope s_Row_there) f cdv A outer s H E).env (cxOf (L2.CX P w) P w K mg base ["self"] "Row.there" (defScope s_Row_there) f cdv A outer s H E).xe := passes_of rfl
  exact (pss_one (ps_ret (pe_cmpR (opr_v o) (pe_ix (ixr_v o) (z_attr o tk (zv 0)) pe_int (fun _ _ => rfl)) (pe_ix (ixr_v o) (z_attr o tk (zv 0)) pe_int (fun _ _ => rfl)) (nomark _))))


def t_Row_eq (D : Wd K mg) (n : En) (W : WX) : TS := (tRet (tAndU n (tCB (vCB n (.builtin "isinstance")) (tCons (tV 1) (tCons (tC (.ref D.a_Row)) tNil))) (tOp (vOp n (compareOp .Eq)) (tAttr n W "place" (tV 0)) (tAttr n W "place" (tV 1)))))
theorem d_Row_eq (D : Wd K mg) (cdv : Value) (A : Around) (outer : List Env) (s : Shared) (H : Hp) (E : XK) (f : Addr) (o : Of ⟨P, w, K, mg, base, A.deeper (envOfC "Row.__eq__" (defScope s_Row_eq) s.heap.objs.size f cdv)⟩ (cxOf (L2.CX P w) P w K mg base ["self", "other"] "Row.__eq__" (defScope s_Row_eq) f cdv A outer s H E))
    (tk : Takes (cxOf (L2.CX P w) P w K mg base ["self", "other"] "Row.__eq__" (defScope s_Row_eq) f cdv A outer s H E) (fun cls d _ H => E cls d H)) :
    PSs (cxOf (L2.CX P w) P w K mg base ["self", "other"] "Row.__eq__" (defScope s_Row_eq) f cdv A outer s H E) (defBody s_Row_eq) (t_Row_eq D ⟨P, w, K, mg, base, A.deeper (envOfC "Row.__eq__" (defScope s_Row_eq) s.heap.objs.size f cdv)⟩ (fun cls d _ H => E cls d H)) := by
  have hp : PassesOwn (model (cxOf (L2.CX P w) P w K mg base ["self", "other"] "Row.__eq__" (defScope s_Row_eq) f cdv A outer s H E).prog (cxOf (L2.CX P w) P w K mg base ["self", "other"] "Row.__eq__" (defScope s_Row_eq) f cdv A outer s H E).w) (cxOf (L2.CX P w) P w K mg base ["self", "other"] "Row.__eq__" (defScope s_Row_eq) f cdv A outer s H E).A (cxOf (L2.CX P w) P w K mg base ["self", "other"] "Row.__eq__" (defScope s_Row_eq) f cdv A outer s H E).env (cxOf (L2.CX P w) P w K mg base ["self", "other"] "Row.__eq__" (defScope s_Row_eq) f cdv A outer s H E).xe := passes_of rfl
  exact (pss_one (ps_ret (z_and o (pe_callB (cbr_v o) (by rfl) D.b_isinstance (by decide +kernel) (pa_cons (zv 1) (pa_cons (pe_glob (by rfl) D.h_Row rfl) pa_nil))) (pe_one (pe_cmpR (opr_v o) (z_attr o tk (zv 0)) (z_attr o tk (zv 1)) (nomark _))))))


def t_Row_repr (D : Wd K mg) (n : En) (W : WX) : TS := (tSeq (tAsg (tAttr n W "place" (tV 0)) (uTupG n.K 3 (uCons (gName 1) (uCons (gName 2) (uCons (gName 3) uNil)))))
  (tRet (uJoin [(tC (.str "Row(")), (uFmt (tV 1)), (tC (.str ", ")), (uFmt (tV 2)), (tC (.str ", ")), (uFmt (tV 3)), (tC (.str ")"))])))
theorem d_Row_repr (D : Wd K mg) (cdv : Value) (A : Around) (outer : List Env) (s : Shared) (H : Hp) (E : XK) (f : Addr) (o : Of ⟨P, w, K, mg, base, A.deeper (envOfC "Row.__repr__" (defScope s_Row_repr) s.heap.objs.size f cdv)⟩ (cxOf (L2.CX P w) P w K mg base ["self", "length", "below", "upto"] "Row.__repr__" (defScope s_Row_repr) f cdv A outer s H E))
    (tk : Takes (cxOf (L2.CX P w) P w K mg base ["self", "length", "below", "upto"] "Row.__repr__" (defScope s_Row_repr) f cdv A outer s H E) (fun cls d _ H => E cls d H)) :
    PSs (cxOf (L2.CX P w) P w K mg base ["self", "length", "below", "upto"] "Row.__repr__" (defScope s_Row_repr) f cdv A outer s H E) (defBody s_Row_repr) (t_Row_repr D ⟨P, w, K, mg, base, A.deeper (envOfC "Row.__repr__" (defScope s_Row_repr) s.heap.objs.size f cdv)⟩ (fun cls d _ H => E cls d H)) := by
  have hp : PassesOwn (model (cxOf (L2.CX P w) P w K mg base ["self", "length", "below", "upto"] "Row.__repr__" (defScope s_Row_repr) f cdv A outer s H E).prog (cxOf (L2.CX P w) P w K mg base ["self", "length", "below", "upto"] "Row.__repr__" (defScope s_Row_repr) f cdv A outer s H E).w) (cxOf (L2.CX P w) P w K mg base ["self", "length", "below", "upto"] "Row.__repr__" (defScope s_Row_repr) f cdv A outer s H E).A (cxOf (L2.CX P w) P w K mg base ["self", "length", "below", "upto"] "Row.__repr__" (defScope s_Row_repr) f cdv A outer s H E).env (cxOf (L2.CX P w) P w K mg base ["self", "length", "below", "upto"] "Row.__repr__" (defScope s_Row_repr) f cdv A outer s H E).xe := passes_of rfl
  exact (pss_cons (ps_asg (z_attr o tk (zv 0)) (c_tup (pg_tup rfl (c_cons (pgs_cons (pg_name (i := 1) sc_Row_repr.nd rfl (by first | exact Or.inl rfl | exact Or.inr rfl)) (c_cons (pgs_cons (pg_name (i := 2) sc_Row_repr.nd rfl (by first | exact Or.inl rfl | exact Or.inr rfl)) (c_cons (pgs_cons (pg_name (i := 3) sc_Row_repr.nd rfl (by first | exact Or.inl rfl | exact Or.inr rfl)) (c_nil pgs_nil))))))))))
  (pss_one (ps_ret (z_joined (PJ.cons pe_str (PJ.cons (z_fmt (zv 1)) (PJ.cons pe_str (PJ.cons (z_fmt (zv 2)) (PJ.cons pe_str (PJ.cons (z_fmt (zv 3)) (PJ.cons pe_str PJ.nil)))))))))))

def t__law_store_k0 (D : Wd K mg) (n : En) (W : WX) : TS := (tAsg (tOp (vOp n (binaryOp .Mod)) (tCB (vCB n (.type "int")) (tCons (tOp (vOp n (binaryOp .Add)) (tOp (vOp n (binaryOp .Add)) (tOp (vOp n (binaryOp .Mult)) (tV 1) (tC (.int 48271))) (tCB (vCB n (.type "int")) (tCons (tV 2) tNil))) (tC (.int 7))) tNil)) (tC (.int 2147483647))) (gName 1))
def t__law_store_k1 (D : Wd K mg) (n : En) (W : WX) : TS := (tRet (uLst (tCons (tV 1) (tCons (uLcL n.K (tSl (vSl n) (tV 0) tNoPart (uPart (tC (.int 60)))) (gName 2) (tNot (uTest (uChain (vOp n (compareOp .Lt)) (vOp n (compareOp .Lt)) (tUn (vUn n (unaryOp .USub)) (tC (.int 1000000))) (tV 2) (tC (.int 1000000))))) (tCB (vCB n (.builtin "abs")) (tCons (tV 2) tNil)) [2]) (tCons (tC (.int 0)) tNil)))))
def t__law_store (D : Wd K mg) (n : En) (W : WX) : TS := (tSeq (tAsg (tC (.int 11)) (gName 1))
  (tSeq (uForL n.K (tSl (vSl n) (tV 0) tNoPart (uPart (tC (.int 60)))) (gName 2) (t__law_store_k0 D n W))
  (t__law_store_k1 D n W)))
theorem d__law_store (D : Wd K mg) (cdv : Value) (A : Around) (outer : List Env) (s : Shared) (H : Hp) (E : XK) (f : Addr) (o : Of ⟨P, w, K, mg, base, A.deeper (envOfC "_law_store" (defScope s__law_store) s.heap.objs.size f cdv)⟩ (cxOf (L2.CX P w) P w K mg base ["_law_script", "_law_mixed", "_law_cell"] "_law_store" (defScope s__law_store) f cdv A outer s H E))
    (tk : Takes (cxOf (L2.CX P w) P w K mg base ["_law_script", "_law_mixed", "_law_cell"] "_law_store" (defScope s__law_store) f cdv A outer s H E) (fun cls d _ H => E cls d H)) :
    PSs (cxOf (L2.CX P w) P w K mg base ["_law_script", "_law_mixed", "_law_cell"] "_law_store" (defScope s__law_store) f cdv A outer s H E) (defBody s__law_store) (t__law_store D ⟨P, w, K, mg, base, A.deeper (envOfC "_law_store" (defScope s__law_store) s.heap.objs.size f cdv)⟩ (fun cls d _ H => E cls d H)) := by
  have hp : PassesOwn (model (cxOf (L2.CX P w) P w K mg base ["_law_script", "_law_mixed", "_law_cell"] "_law_store" (defScope s__law_store) f cdv A outer s H E).prog (cxOf (L2.CX P w) P w K mg base ["_law_script", "_law_mixed", "_law_cell"] "_law_store" (defScope s__law_store) f cdv A outer s H E).w) (cxOf (L2.CX P w) P w K mg base ["_law_script", "_law_mixed", "_law_cell"] "_law_store" (defScope s__law_store) f cdv A outer s H E).A (cxOf (L2.CX P w) P w K mg base ["_law_script", "_law_mixed", "_law_cell"] "_law_store" (defScope s__law_store) f cdv A outer s H E).env (cxOf (L2.CX P w) P w K mg base ["_law_script", "_law_mixed", "_law_cell"] "_law_store" (defScope s__law_store) f cdv A outer s H E).xe := passes_of rfl
  exact (pss_cons (ps_set (i := 1) sc__law_store.nd rfl (by first | exact Or.inl rfl | exact Or.inr rfl) pe_int)
  (pss_cons (c_forL (ps_for hp rfl (pi_list (pe_slice (slr_v o) (zv 0) po_none (z_part pe_int))) (pg_name (i := 2) sc__law_store.nd rfl (by first | exact Or.inl rfl | exact Or.inr rfl)) (pss_one (ps_set (i := 1) sc__law_store.nd rfl (by first | exact Or.inl rfl | exact Or.inr rfl) (pe_op (opr_v o) (pe_callTy (cbr_v o) (by rfl) D.b_int (by decide +kernel) (pa_cons (pe_op (opr_v o) (pe_op (opr_v o) (pe_op (opr_v o) (zv 1) pe_int) (pe_callTy (cbr_v o) (by rfl) D.b_int (by decide +kernel) (pa_cons (zv 2) pa_nil))) pe_int) pa_nil)) pe_int)))))
  (pss_one (ps_ret (z_lst (pa_cons (zv 1) (pa_cons (c_lcL (pe_lc (own := [("_law_cell", 2)]) rfl sc__law_store.nd (pi_list (pe_slice (slr_v o) (zv 0) po_none (z_part pe_int))) (blkOk_by (own := [("_law_cell", 2)]) (N := ["_law_script", "_law_mixed", "_law_cell"]) (sc := defScope s__law_store) (by decide +kernel)) (fun _ _ _ _ _ => (pg_name (i := 2) sc__law_store.nd rfl (by first | exact Or.inl rfl | exact Or.inr rfl))) (fun _ _ _ _ _ => (pts_one (pt_not (z_chainT (opr_v (of_blk o)) (opr_v (of_blk o)) (pe_un (unr_v (of_blk o)) pe_int) (zv 2) pe_int)))) (fun _ _ _ _ _ => (pe_callB (cbr_v (of_blk o)) (by rfl) D.b_abs (by decide +kernel) (pa_cons (zv 2) pa_nil))))) (pa_cons pe_int pa_nil))))))))

def t__law_pick_k0 (D : Wd K mg) (n : En) (W : WX) : TS := (tSeq (tAsg (tCB (vCB n (.type "int")) (tCons (tOp (vIx n) (tV 0) (tC (.int 0))) tNil)) (gName 4))
  (tSeq (tAsg (tOp (vOp n (binaryOp .Mod)) (tCB (vCB n (.type "int")) (tCons (tOp (vOp n (binaryOp .Add)) (tOp (vOp n (binaryOp .Add)) (tOp (vOp n (binaryOp .Mult)) (tV 4) (tC (.int 16807))) (tOp (vOp n (binaryOp .Mult)) (tC (.int 131)) (tOp (vIx n) (tV 0) (tC (.int 2))))) (tOp (vOp n (binaryOp .Mod)) (tCB (vCB n (.type "int")) (tCons (tV 4) tNil)) (tC (.int 1009)))) tNil)) (tC (.int 2147483647))) (gSub (tV 0) (tC (.int 0)) (vSet n)))
  (tRet (tOp (vOp n (binaryOp .Mod)) (tCB (vCB n (.type "int")) (tCons (tOp (vOp n (binaryOp .FloorDiv)) (tOp (vIx n) (tV 0) (tC (.int 0))) (tC (.int 97))) tNil)) (tV 1)))))
def t__law_pick (D : Wd K mg) (n : En) (W : WX) : TS := (tSeq (tAsg (tOp (vOp n (binaryOp .Add)) (tOp (vIx n) (tV 0) (tC (.int 2))) (tC (.int 1))) (gSub (tV 0) (tC (.int 2)) (vSet n)))
  (tSeq (uIfS (uTest (tOp (vOp n (compareOp .NotEq)) (tOp (vIx n) (tV 0) (tC (.int 1))) (uLst tNil))) (tSeq (tAsg (tCB (vCB n (.builtin "divmod")) (tCons (tOp (vIx n) (tOp (vIx n) (tV 0) (tC (.int 1))) (tC (.int 0))) (tCons (tV 1) tNil))) (uTupG n.K 2 (uCons (gName 2) (uCons (gName 3) uNil))))
  (tSeq (tAsg (tOp (vOp n (binaryOp .Add)) (uIf (uTest (tOp (vOp n (compareOp .Gt)) (tV 2) (tC (.int 0)))) (uLst (tCons (tV 2) tNil)) (uLst tNil)) (tSl (vSl n) (tOp (vIx n) (tV 0) (tC (.int 1))) (uPart (tC (.int 1))) tNoPart)) (gSub (tV 0) (tC (.int 1)) (vSet n)))
  (tRet (tV 3)))) tNext)
  (t__law_pick_k0 D n W)))
theorem d__law_pick (D : Wd K mg) (cdv : Value) (A : Around) (outer : List Env) (s : Shared) (H : Hp) (E : XK) (f : Addr) (o : Of ⟨P, w, K, mg, base, A.deeper (envOfC "_law_pick" (defScope s__law_pick) s.heap.objs.size f cdv)⟩ (cxOf (L2.CX P w) P w K mg base ["_law_store_here", "_law_many", "_law_rest", "_law_digit", "_law_old"] "_law_pick" (defScope s__law_pick) f cdv A outer s H E))
    (tk : Takes (cxOf (L2.CX P w) P w K mg base ["_law_store_here", "_law_many", "_law_rest", "_law_digit", "_law_old"] "_law_pick" (defScope s__law_pick) f cdv A outer s H E) (fun cls d _ H => E cls d H)) :
    PSs (cxOf (L2.CX P w) P w K mg base ["_law_store_here", "_law_many", "_law_rest", "_law_digit", "_law_old"] "_law_pick" (defScope s__law_pick) f cdv A outer s H E) (defBody s__law_pick) (t__law_pick D ⟨P, w, K, mg, base, A.deeper (envOfC "_law_pick" (defScope s__law_pick) s.heap.objs.size f cdv)⟩ (fun cls d _ H => E cls d H)) := by
  have hp : PassesOwn (model (cxOf (L2.CX P w) P w K mg base ["_law_store_here", "_law_many", "_law_rest", "_law_digit", "_law_old"] "_law_pick" (defScope s__law_pick) f cdv A outer s H E).prog (cxOf (L2.CX P w) P w K mg base ["_law_store_here", "_law_many", "_law_rest", "_law_digit", "_law_old"] "_law_pick" (defScope s__law_pick) f cdv A outer s H E).w) (cxOf (L2.CX P w) P w K mg base ["_law_store_here", "_law_many", "_law_rest", "_law_digit", "_law_old"] "_law_pick" (defScope s__law_pick) f cdv A outer s H E).A (cxOf (L2.CX P w) P w K mg base ["_law_store_here", "_law_many", "_law_rest", "_law_digit", "_law_old"] "_law_pick" (defScope s__law_pick) f cdv A outer s H E).env (cxOf (L2.CX P w) P w K mg base ["_law_store_here", "_law_many", "_law_rest", "_law_digit", "_law_old"] "_law_pick" (defScope s__law_pick) f cdv A outer s H E).xe := passes_of rfl
  exact (pss_cons (ps_asg (pe_op (opr_v o) (pe_ix (ixr_v o) (zv 0) pe_int (fun _ _ => rfl)) pe_int) (pg_sub (zv 0) pe_int (set_v o)))
  (pss_cons (z_if (z_cmpT (opr_v o) (pe_ix (ixr_v o) (zv 0) pe_int (fun _ _ => rfl)) (z_lst pa_nil) (nomark _)) (pss_cons (ps_asg (pe_callB (cbr_v o) (by rfl) D.b_divmod (by decide +kernel) (pa_cons (pe_ix (ixr_v o) (pe_ix (ixr_v o) (zv 0) pe_int (fun _ _ => rfl)) pe_int (fun _ _ => rfl)) (pa_cons (zv 1) pa_nil))) (c_tup (pg_tup rfl (c_cons (pgs_cons (pg_name (i := 2) sc__law_pick.nd rfl (by first | exact Or.inl rfl | exact Or.inr rfl)) (c_cons (pgs_cons (pg_name (i := 3) sc__law_pick.nd rfl (by first | exact Or.inl rfl | exact Or.inr rfl)) (c_nil pgs_nil))))))))
  (pss_cons (ps_asg (pe_op (opr_v o) (z_ifE (z_cmpT (opr_v o) (zv 2) pe_int (nomark _)) (z_lst (pa_cons (zv 2) pa_nil)) (z_lst pa_nil)) (pe_slice (slr_v o) (pe_ix (ixr_v o) (zv 0) pe_int (fun _ _ => rfl)) (z_part pe_int) po_none)) (pg_sub (zv 0) pe_int (set_v o)))
  (pss_one (ps_ret (zv 3))))) pss_nil)
  (pss_cons (ps_set (i := 4) sc__law_pick.nd rfl (by first | exact Or.inl rfl | exact Or.inr rfl) (pe_callTy (cbr_v o) (by rfl) D.b_int (by decide +kernel) (pa_cons (pe_ix (ixr_v o) (zv 0) pe_int (fun _ _ => rfl)) pa_nil)))
  (pss_cons (ps_asg (pe_op (opr_v o) (pe_callTy (cbr_v o) (by rfl) D.b_int (by decide +kernel) (pa_cons (pe_op (opr_v o) (pe_op (opr_v o) (pe_op (opr_v o) (zv 4) pe_int) (pe_op (opr_v o) pe_int (pe_ix (ixr_v o) (zv 0) pe_int (fun _ _ => rfl)))) (pe_op (opr_v o) (pe_callTy (cbr_v o) (by rfl) D.b_int (by decide +kernel) (pa_cons (zv 4) pa_nil)) pe_int)) pa_nil)) pe_int) (pg_sub (zv 0) pe_int (set_v o)))
  (pss_one (ps_ret (pe_op (opr_v o) (pe_callTy (cbr_v o) (by rfl) D.b_int (by decide +kernel) (pa_cons (pe_op (opr_v o) (pe_ix (ixr_v o) (zv 0) pe_int (fun _ _ => rfl)) pe_int) pa_nil)) (zv 1))))))))

def t__law_rows_k0 (D : Wd K mg) (n : En) (W : WX) : TS := (tAsg (tOp (vOp n (binaryOp .Add)) (tV 1) (uLcR2 (tCons (tV 2) (tCons (tOp (vOp n (binaryOp .Add)) (tV 0) (tC (.int 1))) tNil)) (gName 3) tYes (uTup (tCons (tV 0) (tCons (tV 2) (tCons (tV 3) tNil)))) [3])) (gName 1))
def t__law_rows (D : Wd K mg) (n : En) (W : WX) : TS := (tSeq (tAsg (uLst tNil) (gName 1))
  (tSeq (uForR1 (tCons (tOp (vOp n (binaryOp .Add)) (tV 0) (tC (.int 1))) tNil) (gName 2) (t__law_rows_k0 D n W))
  (tRet (tV 1))))
theorem d__law_rows (D : Wd K mg) (cdv : Value) (A : Around) (outer : List Env) (s : Shared) (H : Hp) (E : XK) (f : Addr) (o : Of ⟨P, w, K, mg, base, A.deeper (envOfC "_law_rows" (defScope s__law_rows) s.heap.objs.size f cdv)⟩ (cxOf (L2.CX P w) P w K mg base ["_law_size", "_law_found", "_law_t", "_law_u"] "_law_rows" (defScope s__law_rows) f cdv A outer s H E))
    (tk : Takes (cxOf (L2.CX P w) P w K mg base ["_law_size", "_law_found", "_law_t", "_law_u"] "_law_rows" (defScope s__law_rows) f cdv A outer s H E) (fun cls d _ H => E cls d H)) :
    PSs (cxOf (L2.CX P w) P w K mg base ["_law_size", "_law_found", "_law_t", "_law_u"] "_law_rows" (defScope s__law_rows) f cdv A outer s H E) (defBody s__law_rows) (t__law_rows D ⟨P, w, K, mg, base, A.deeper (envOfC "_law_rows" (defScope s__law_rows) s.heap.objs.size f cdv)⟩ (fun cls d _ H => E cls d H)) := by
  have hp : PassesOwn (model (cxOf (L2.CX P w) P w K mg base ["_law_size", "_law_found", "_law_t", "_law_u"] "_law_rows" (defScope s__law_rows) f cdv A outer s H E).prog (cxOf (L2.CX P w) P w K mg base ["_law_size", "_law_found", "_law_t", "_law_u"] "_law_rows" (defScope s__law_rows) f cdv A outer s H E).w) (cxOf (L2.CX P w) P w K mg base ["_law_size", "_law_found", "_law_t", "_law_u"] "_law_rows" (defScope s__law_rows) f cdv A outer s H E).A (cxOf (L2.CX P w) P w K mg base ["_law_size", "_law_found", "_law_t", "_law_u"] "_law_rows" (defScope s__law_rows) f cdv A outer s H E).env (cxOf (L2.CX P w) P w K mg base ["_law_size", "_law_found", "_law_t", "_law_u"] "_law_rows" (defScope s__law_rows) f cdv A outer s H E).xe := passes_of rfl
  exact (pss_cons (ps_set (i := 1) sc__law_rows.nd rfl (by first | exact Or.inl rfl | exact Or.inr rfl) (z_lst pa_nil))
  (pss_cons (c_forR1 (ps_for hp rfl (pi_range1 (by rfl) D.b_range (pa_cons (pe_op (opr_v o) (zv 0) pe_int) pa_nil)) (pg_name (i := 2) sc__law_rows.nd rfl (by first | exact Or.inl rfl | exact Or.inr rfl)) (pss_one (ps_set (i := 1) sc__law_rows.nd rfl (by first | exact Or.inl rfl | exact Or.inr rfl) (pe_op (opr_v o) (zv 1) (c_lcR2 (pe_lc (own := [("_law_u", 3)]) rfl sc__law_rows.nd (pi_range2 (by rfl) D.b_range (pa_cons (zv 2) (pa_cons (pe_op (opr_v o) (zv 0) pe_int) pa_nil))) (blkOk_by (own := [("_law_u", 3)]) (N := ["_law_size", "_law_found", "_law_t", "_law_u"]) (sc := defScope s__law_rows) (by decide +kernel)) (fun _ _ _ _ _ => (pg_name (i := 3) sc__law_rows.nd rfl (by first | exact Or.inl rfl | exact Or.inr rfl))) (fun _ _ _ _ _ => pts_nil) (fun _ _ _ _ _ => (z_tup (pa_cons (zv 0) (pa_cons (zv 2) (pa_cons (zv 3) pa_nil))))))))))))
  (pss_one (ps_ret (zv 1)))))

def t__law_great_k0 (D : Wd K mg) (n : En) (W : WX) : TS := (tSeq (tAsg (uLst (tCons (tCallU n W (.ref D.a__law_pick) (tCons (tV 0) (tCons (tC (.int 4)) tNil))) (tCons (tOp (vOp n (binaryOp .Sub)) (tV 2) (tCallU n W (.ref D.a__law_pick) (tCons (tV 0) (tCons (tC (.int 4)) tNil)))) (tCons (tOp (vOp n (binaryOp .Sub)) (tOp (vOp n (binaryOp .Add)) (tOp (vOp n (binaryOp .FloorDiv)) (tCB (vCB n (.type "int")) (tCons (tV 2) tNil)) (tC (.int 2))) (tCallU n W (.ref D.a__law_pick) (tCons (tV 0) (tCons (tC (.int 5)) tNil)))) (tC (.int 2))) tNil)))) (gName 3))
  (tSeq (tAsg (tOp (vOp n (binaryOp .Add)) (tV 3) (uLst (tCons (tOp (vOp n (binaryOp .FloorDiv)) (tCB (vCB n (.type "int")) (tCons (tOp (vOp n (binaryOp .Mult)) (tV 2) (tCallU n W (.ref D.a__law_pick) (tCons (tV 0) (tCons (tOp (vOp n (binaryOp .Pow)) (tC (.int 10)) (tC (.int 6))) tNil)))) tNil)) (tOp (vOp n (binaryOp .Pow)) (tC (.int 10)) (tC (.int 6)))) tNil))) (gName 3))
  (tSeq (tAsg (tCB (vCB n (.builtin "max")) (tCons (tC (.int 0)) (tCons (tCB (vCB n (.builtin "min")) (tCons (tV 2) (tCons (tOp (vIx n) (tV 3) (tCallU n W (.ref D.a__law_pick) (tCons (tV 0) (tCons (tC (.int 4)) tNil)))) tNil))) tNil))) (gName 4))
  (tSeq (tAsg (uLst (tCons (tV 4) (tCons (tOp (vOp n (binaryOp .Add)) (tV 4) (tC (.int 1))) (tCons (tOp (vOp n (binaryOp .Add)) (tV 4) (tCallU n W (.ref D.a__law_pick) (tCons (tV 0) (tCons (tC (.int 5)) tNil)))) (tCons (tV 2) (tCons (tOp (vOp n (binaryOp .Sub)) (tV 2) (tCallU n W (.ref D.a__law_pick) (tCons (tV 0) (tCons (tC (.int 3)) tNil)))) (tCons (tOp (vOp n (binaryOp .FloorDiv)) (tCB (vCB n (.type "int")) (tCons (tOp (vOp n (binaryOp .Add)) (tV 4) (tV 2)) tNil)) (tC (.int 2))) tNil))))))) (gName 3))
  (tRet (uTup (tCons (tV 2) (tCons (tV 4) (tCons (tCB (vCB n (.builtin "max")) (tCons (tV 4) (tCons (tCB (vCB n (.builtin "min")) (tCons (tV 2) (tCons (tOp (vIx n) (tV 3) (tCallU n W (.ref D.a__law_pick) (tCons (tV 0) (tCons (tC (.int 6)) tNil)))) tNil))) tNil))) tNil)))))))))
def t__law_great (D : Wd K mg) (n : En) (W : WX) : TS := (tSeq (tAsg (tCallU n W (.ref D.a__law_pick) (tCons (tV 0) (tCons (tC (.int 4)) tNil))) (gName 1))
  (tSeq (tAsg (tOp (vOp n (binaryOp .Add)) (tCallU n W (.ref D.a__law_pick) (tCons (tV 0) (tCons (tOp (vIx n) (uLst (tCons (tC (.int 60)) (tCons (tC (.int 3000)) (tCons (tOp (vOp n (binaryOp .Pow)) (tC (.int 10)) (tC (.int 6))) (tCons (tOp (vOp n (binaryOp .Pow)) (tC (.int 10)) (tC (.int 6))) tNil))))) (tV 1)) tNil))) (tC (.int 1))) (gName 2))
  (tSeq (uIfS (uTest (tOp (vOp n (compareOp .Eq)) (tV 1) (tC (.int 3)))) (tAsg (tOp (vOp n (binaryOp .Add)) (tOp (vOp n (binaryOp .Mult)) (tV 2) (tOp (vOp n (binaryOp .Pow)) (tC (.int 10)) (tC (.int 33)))) (tCallU n W (.ref D.a__law_pick) (tCons (tV 0) (tCons (tOp (vOp n (binaryOp .Pow)) (tC (.int 10)) (tC (.int 6))) tNil)))) (gName 2)) tNext)
  (t__law_great_k0 D n W))))
theorem d__law_great (D : Wd K mg) (cdv : Value) (A : Around) (outer : List Env) (s : Shared) (H : Hp) (E : XK) (f : Addr) (o : Of ⟨P, w, K, mg, base, A.deeper (envOfC "_law_great" (defScope s__law_great) s.heap.objs.size f cdv)⟩ (cxOf (L2.CX P w) P w K mg base ["_law_store_here", "_law_way", "_law_n", "_law_some", "_law_t"] "_law_great" (defScope s__law_great) f cdv A outer s H E))
    (tk : Takes (cxOf (L2.CX P w) P w K mg base ["_law_store_here", "_law_way", "_law_n", "_law_some", "_law_t"] "_law_great" (defScope s__law_great) f cdv A outer s H E) (fun cls d _ H => E cls d H)) :
    PSs (cxOf (L2.CX P w) P w K mg base ["_law_store_here", "_law_way", "_law_n", "_law_some", "_law_t"] "_law_great" (defScope s__law_great) f cdv A outer s H E) (defBody s__law_great) (t__law_great D ⟨P, w, K, mg, base, A.deeper (envOfC "_law_great" (defScope s__law_great) s.heap.objs.size f cdv)⟩ (fun cls d _ H => E cls d H)) := by
  have hp : PassesOwn (model (cxOf (L2.CX P w) P w K mg base ["_law_store_here", "_law_way", "_law_n", "_law_some", "_law_t"] "_law_great" (defScope s__law_great) f cdv A outer s H E).prog (cxOf (L2.CX P w) P w K mg base ["_law_store_here", "_law_way", "_law_n", "_law_some", "_law_t"] "_law_great" (defScope s__law_great) f cdv A outer s H E).w) (cxOf (L2.CX P w) P w K mg base ["_law_store_here", "_law_way", "_law_n", "_law_some", "_law_t"] "_law_great" (defScope s__law_great) f cdv A outer s H E).A (cxOf (L2.CX P w) P w K mg base ["_law_store_here", "_law_way", "_law_n", "_law_some", "_law_t"] "_law_great" (defScope s__law_great) f cdv A outer s H E).env (cxOf (L2.CX P w) P w K mg base ["_law_store_here", "_law_way", "_law_n", "_law_some", "_law_t"] "_law_great" (defScope s__law_great) f cdv A outer s H E).xe := passes_of rfl
  exact (pss_cons (ps_set (i := 1) sc__law_great.nd rfl (by first | exact Or.inl rfl | exact Or.inr rfl) (z_call o tk D.h__law_pick D.k__law_pick (pa_cons (zv 0) (pa_cons pe_int pa_nil))))
  (pss_cons (ps_set (i := 2) sc__law_great.nd rfl (by first | exact Or.inl rfl | exact Or.inr rfl) (pe_op (opr_v o) (z_call o tk D.h__law_pick D.k__law_pick (pa_cons (zv 0) (pa_cons (pe_ix (ixr_v o) (z_lst (pa_cons pe_int (pa_cons pe_int (pa_cons (pe_op (opr_v o) pe_int pe_int) (pa_cons (pe_op (opr_v o) pe_int pe_int) pa_nil))))) (zv 1) (fun _ _ => rfl)) pa_nil))) pe_int))
  (pss_cons (z_if (z_cmpT (opr_v o) (zv 1) pe_int (nomark _)) (pss_one (ps_set (i := 2) sc__law_great.nd rfl (by first | exact Or.inl rfl | exact Or.inr rfl) (pe_op (opr_v o) (pe_op (opr_v o) (zv 2) (pe_op (opr_v o) pe_int pe_int)) (z_call o tk D.h__law_pick D.k__law_pick (pa_cons (zv 0) (pa_cons (pe_op (opr_v o) pe_int pe_int) pa_nil)))))) pss_nil)
  (pss_cons (ps_set (i := 3) sc__law_great.nd rfl (by first | exact Or.inl rfl | exact Or.inr rfl) (z_lst (pa_cons (z_call o tk D.h__law_pick D.k__law_pick (pa_cons (zv 0) (pa_cons pe_int pa_nil))) (pa_cons (pe_op (opr_v o) (zv 2) (z_call o tk D.h__law_pick D.k__law_pick (pa_cons (zv 0) (pa_cons pe_int pa_nil)))) (pa_cons (pe_op (opr_v o) (pe_op (opr_v o) (pe_op (opr_v o) (pe_callTy (cbr_v o) (by rfl) D.b_int (by decide +kernel) (pa_cons (zv 2) pa_nil)) pe_int) (z_call o tk D.h__law_pick D.k__law_pick (pa_cons (zv 0) (pa_cons pe_int pa_nil)))) pe_int) pa_nil)))))
  (pss_cons (ps_set (i := 3) sc__law_great.nd rfl (by first | exact Or.inl rfl | exact Or.inr rfl) (pe_op (opr_v o) (zv 3) (z_lst (pa_cons (pe_op (opr_v o) (pe_callTy (cbr_v o) (by rfl) D.b_int (by decide +kernel) (pa_cons (pe_op (opr_v o) (zv 2) (z_call o tk D.h__law_pick D.k__law_pick (pa_cons (zv 0) (pa_cons (pe_op (opr_v o) pe_int pe_int) pa_nil)))) pa_nil)) (pe_op (opr_v o) pe_int pe_int)) pa_nil))))
  (pss_cons (ps_set (i := 4) sc__law_great.nd rfl (by first | exact Or.inl rfl | exact Or.inr rfl) (pe_callB (cbr_v o) (by rfl) D.b_max (by decide +kernel) (pa_cons pe_int (pa_cons (pe_callB (cbr_v o) (by rfl) D.b_min (by decide +kernel) (pa_cons (zv 2) (pa_cons (pe_ix (ixr_v o) (zv 3) (z_call o tk D.h__law_pick D.k__law_pick (pa_cons (zv 0) (pa_cons pe_int pa_nil))) (fun _ _ => rfl)) pa_nil))) pa_nil))))
  (pss_cons (ps_set (i := 3) sc__law_great.nd rfl (by first | exact Or.inl rfl | exact Or.inr rfl) (z_lst (pa_cons (zv 4) (pa_cons (pe_op (opr_v o) (zv 4) pe_int) (pa_cons (pe_op (opr_v o) (zv 4) (z_call o tk D.h__law_pick D.k__law_pick (pa_cons (zv 0) (pa_cons pe_int pa_nil)))) (pa_cons (zv 2) (pa_cons (pe_op (opr_v o) (zv 2) (z_call o tk D.h__law_pick D.k__law_pick (pa_cons (zv 0) (pa_cons pe_int pa_nil)))) (pa_cons (pe_op (opr_v o) (pe_callTy (cbr_v o) (by rfl) D.b_int (by decide +kernel) (pa_cons (pe_op (opr_v o) (zv 4) (zv 2)) pa_nil)) pe_int) pa_nil))))))))
  (pss_one (ps_ret (z_tup (pa_cons (zv 2) (pa_cons (zv 4) (pa_cons (pe_callB (cbr_v o) (by rfl) D.b_max (by decide +kernel) (pa_cons (zv 4) (pa_cons (pe_callB (cbr_v o) (by rfl) D.b_min (by decide +kernel) (pa_cons (zv 2) (pa_cons (pe_ix (ixr_v o) (zv 3) (z_call o tk D.h__law_pick D.k__law_pick (pa_cons (zv 0) (pa_cons pe_int pa_nil))) (fun _ _ => rfl)) pa_nil))) pa_nil))) pa_nil)))))))))))))

def t__law_shown_k0 (D : Wd K mg) (n : En) (W : WX) : TS := (tRet (tAndU n (tOp (vOp n (compareOp .Eq)) (tCB (vCB n (.builtin "repr")) (tCons (tV 0) tNil)) (tOp (vOp n (binaryOp .Add)) (tOp (vOp n (binaryOp .Add)) (tOp (vOp n (binaryOp .Add)) (tOp (vOp n (binaryOp .Add)) (tOp (vOp n (binaryOp .Add)) (tOp (vOp n (binaryOp .Add)) (tC (.str "Row(")) (tCB (vCB n (.type "str")) (tCons (tV 2) tNil))) (tC (.str ", "))) (tCB (vCB n (.type "str")) (tCons (tV 3) tNil))) (tC (.str ", "))) (tCB (vCB n (.type "str")) (tCons (tV 4) tNil))) (tC (.str ")")))) (tCB (vCB n (.type "bool")) (tCons (tV 0) tNil))))
def t__law_shown (D : Wd K mg) (n : En) (W : WX) : TS := (tSeq (tAsg (tV 1) (uTupG n.K 3 (uCons (gName 2) (uCons (gName 3) (uCons (gName 4) uNil)))))
  (tSeq (uIfS (uOr (uTest (tOp (vOp n (compareOp .NotEq)) (uLst (tCons (tAttr n W "length" (tV 0)) (tCons (tAttr n W "below" (tV 0)) (tCons (tAttr n W "upto" (tV 0)) tNil)))) (uLst (tCons (tV 2) (tCons (tV 3) (tCons (tV 4) tNil)))))) (uTest (tOp (vOp n (compareOp .NotEq)) (tCB (vCB n (.builtin "repr")) (tCons (tAttr n W "there" (tV 0)) tNil)) (tCB (vCB n (.builtin "repr")) (tCons (tOp (vOp n (compareOp .Lt)) (tV 3) (tV 4)) tNil))))) (tRet (tC (.bl false))) tNext)
  (t__law_shown_k0 D n W)))
theorem d__law_shown (D : Wd K mg) (cdv : Value) (A : Around) (outer : List Env) (s : Shared) (H : Hp) (E : XK) (f : Addr) (o : Of ⟨P, w, K, mg, base, A.deeper (envOfC "_law_shown" (defScope s__law_shown) s.heap.objs.size f cdv)⟩ (cxOf (L2.CX P w) P w K mg base ["_law_placed", "_law_plain", "_law_n", "_law_t", "_law_u"] "_law_shown" (defScope s__law_shown) f cdv A outer s H E))
    (tk : Takes (cxOf (L2.CX P w) P w K mg base ["_law_placed", "_law_plain", "_law_n", "_law_t", "_law_u"] "_law_shown" (defScope s__law_shown) f cdv A outer s H E) (fun cls d _ H => E cls d H)) :
    PSs (cxOf (L2.CX P w) P w K mg base ["_law_placed", "_law_plain", "_law_n", "_law_t", "_law_u"] "_law_shown" (defScope s__law_shown) f cdv A outer s H E) (defBody s__law_shown) (t__law_shown D ⟨P, w, K, mg, base, A.deeper (envOfC "_law_shown" (defScope s__law_shown) s.heap.objs.size f cdv)⟩ (fun cls d _ H => E cls d H)) := by
  have hp : PassesOwn (model (cxOf (L2.CX P w) P w K mg base ["_law_placed", "_law_plain", "_law_n", "_law_t", "_law_u"] "_law_shown" (defScope s__law_shown) f cdv A outer s H E).prog (cxOf (L2.CX P w) P w K mg base ["_law_placed", "_law_plain", "_law_n", "_law_t", "_law_u"] "_law_shown" (defScope s__law_shown) f cdv A outer s H E).w) (cxOf (L2.CX P w) P w K mg base ["_law_placed", "_law_plain", "_law_n", "_law_t", "_law_u"] "_law_shown" (defScope s__law_shown) f cdv A outer s H E).A (cxOf (L2.CX P w) P w K mg base ["_law_placed", "_law_plain", "_law_n", "_law_t", "_law_u"] "_law_shown" (defScope s__law_shown) f cdv A outer s H E).env (cxOf (L2.CX P w) P w K mg base ["_law_placed", "_law_plain", "_law_n", "_law_t", "_law_u"] "_law_shown" (defScope s__law_shown) f cdv A outer s H E).xe := passes_of rfl
  exact (pss_cons (ps_asg (zv 1) (c_tup (pg_tup rfl (c_cons (pgs_cons (pg_name (i := 2) sc__law_shown.nd rfl (by first | exact Or.inl rfl | exact Or.inr rfl)) (c_cons (pgs_cons (pg_name (i := 3) sc__law_shown.nd rfl (by first | exact Or.inl rfl | exact Or.inr rfl)) (c_cons (pgs_cons (pg_name (i := 4) sc__law_shown.nd rfl (by first | exact Or.inl rfl | exact Or.inr rfl)) (c_nil pgs_nil))))))))))
  (pss_cons (z_if (PW.pt (zw_or (z_cmpT (opr_v o) (z_lst (pa_cons (z_attr o tk (zv 0)) (pa_cons (z_attr o tk (zv 0)) (pa_cons (z_attr o tk (zv 0)) pa_nil)))) (z_lst (pa_cons (zv 2) (pa_cons (zv 3) (pa_cons (zv 4) pa_nil)))) (nomark _)) (pw_or1 (z_cmpT (opr_v o) (pe_callB (cbr_v o) (by rfl) D.b_repr (by decide +kernel) (pa_cons (z_attr o tk (zv 0)) pa_nil)) (pe_callB (cbr_v o) (by rfl) D.b_repr (by decide +kernel) (pa_cons (pe_cmpR (opr_v o) (zv 3) (zv 4) (nomark _)) pa_nil)) (nomark _))))) (pss_one (ps_ret pe_bl)) pss_nil)
  (pss_one (ps_ret (z_and o (pe_cmpR (opr_v o) (pe_callB (cbr_v o) (by rfl) D.b_repr (by decide +kernel) (pa_cons (zv 0) pa_nil)) (pe_op (opr_v o) (pe_op (opr_v o) (pe_op (opr_v o) (pe_op (opr_v o) (pe_op (opr_v o) (pe_op (opr_v o) pe_str (pe_callTy (cbr_v o) (by rfl) D.b_str (by decide +kernel) (pa_cons (zv 2) pa_nil))) pe_str) (pe_callTy (cbr_v o) (by rfl) D.b_str (by decide +kernel) (pa_cons (zv 3) pa_nil))) pe_str) (pe_callTy (cbr_v o) (by rfl) D.b_str (by decide +kernel) (pa_cons (zv 4) pa_nil))) pe_str) (nomark _)) (pe_one (pe_callTy (cbr_v o) (by rfl) D.b_bool (by decide +kernel) (pa_cons (zv 0) pa_nil))))))))

def t_law_k0 (D : Wd K mg) (n : En) (W : WX) : TS := (tSeq (tAsg (tOp (vIx n) (tV 2) (tCallU n W (.ref D.a__law_pick) (tCons (tV 1) (tCons (tCB (vCB n (.builtin "len")) (tCons (tV 2) tNil)) tNil)))) (gName 9))
  (tSeq (tAsg (tCallU n W (.ref D.a_Row) (tCons (tOp (vIx n) (tV 9) (tC (.int 0))) (tCons (tOp (vIx n) (tV 9) (tC (.int 1))) (tCons (tOp (vIx n) (tV 9) (tC (.int 2))) tNil)))) (gName 10))
  (uIfS (uOr (uTest (tOp (vOp n (compareOp .NotEq)) (tOp (vOp n (compareOp .Eq)) (tV 8) (tV 10)) (tOp (vOp n (compareOp .Eq)) (tV 4) (tV 9)))) (tNot (tTruU n (tCallU n W (.ref D.a__law_shown) (tCons (tV 8) (tCons (tV 4) tNil)))))) (tRet (tC (.bl false))) tNext)))
def t_law_k1 (D : Wd K mg) (n : En) (W : WX) : TS := (tSeq (uIfS (uOr (tNot (uTest (tOp (vOp n (compareOp .NotEq)) (tV 8) (tC .non)))) (uTest (tOp (vOp n (compareOp .Eq)) (tV 8) (tCB (vCB n (.builtin "repr")) (tCons (tV 8) tNil))))) (tRet (tC (.bl false))) tNext)
  (t_law_k0 D n W))
def t_law_k2 (D : Wd K mg) (n : En) (W : WX) : TS := (tSeq (uIfS (uOr (tNot (uTest (tOp (vOp n (compareOp .Eq)) (tV 8) (tCallU n W (.ref D.a_Row) (tCons (tV 5) (tCons (tV 6) (tCons (tV 7) tNil))))))) (uOr (uTest (tOp (vOp n (compareOp .NotEq)) (tV 8) (tCallU n W (.ref D.a_Row) (tCons (tV 5) (tCons (tV 6) (tCons (tV 7) tNil)))))) (uTest (tOp (vOp n (compareOp .Eq)) (tV 8) (tV 4))))) (tRet (tC (.bl false))) tNext)
  (t_law_k1 D n W))
def t_law_k3 (D : Wd K mg) (n : En) (W : WX) : TS := (tSeq (tAsg (tV 4) (uTupG n.K 3 (uCons (gName 5) (uCons (gName 6) (uCons (gName 7) uNil)))))
  (tSeq (tAsg (tCallU n W (.ref D.a_Row) (tCons (tV 5) (tCons (tV 6) (tCons (tV 7) tNil)))) (gName 8))
  (tSeq (uIfS (uOr (tNot (tTruU n (tCallU n W (.ref D.a__law_shown) (tCons (tV 8) (tCons (tV 4) tNil))))) (tNot (tTruU n (tCallU n W (.ref D.a__law_shown) (tCons (tCallK n W (.ref D.a_Row) ["upto", "length", "below"] tNil (tCons (tV 7) (tCons (tV 5) (tCons (tV 6) tNil)))) (tCons (tV 4) tNil)))))) (tRet (tC (.bl false))) tNext)
  (t_law_k2 D n W))))
def t_law (D : Wd K mg) (n : En) (W : WX) : TS := (tSeq (tAsg (tCallU n W (.ref D.a__law_store) (tCons (tV 0) tNil)) (gName 1))
  (tSeq (tAsg (tOp (vOp n (binaryOp .Add)) (tCallU n W (.ref D.a__law_rows) (tCons (tCallU n W (.ref D.a__law_pick) (tCons (tV 1) (tCons (tC (.int 6)) tNil))) tNil)) (uLcR1 (tCons (tC (.int 3)) tNil) (gName 3) tYes (tCallU n (fun _ _ _ _ => False) (.ref D.a__law_great) (tCons (tV 1) tNil)) [3])) (gName 2))
  (tSeq (uForL n.K (tV 2) (gName 4) (t_law_k3 D n W))
  (tRet (tC (.bl true))))))
theorem d_law (D : Wd K mg) (cdv : Value) (A : Around) (outer : List Env) (s : Shared) (H : Hp) (E : XK) (f : Addr) (o : Of ⟨P, w, K, mg, base, A.deeper (envOfC "law" (defScope s_law) s.heap.objs.size f cdv)⟩ (cxOf (L2.CX P w) P w K mg base ["_law_script", "_law_store_here", "_law_some", "_law_turn", "_law_plain", "_law_n", "_law_t", "_law_u", "_law_placed", "_law_twin", "_law_peer"] "law" (defScope s_law) f cdv A outer s H E))
    (tk : Takes (cxOf (L2.CX P w) P w K mg base ["_law_script", "_law_store_here", "_law_some", "_law_turn", "_law_plain", "_law_n", "_law_t", "_law_u", "_law_placed", "_law_twin", "_law_peer"] "law" (defScope s_law) f cdv A outer s H E) (fun cls d _ H => E cls d H)) :
    PSs (cxOf (L2.CX P w) P w K mg base ["_law_script", "_law_store_here", "_law_some", "_law_turn", "_law_plain", "_law_n", "_law_t", "_law_u", "_law_placed", "_law_twin", "_law_peer"] "law" (defScope s_law) f cdv A outer s H E) (defBody s_law) (t_law D ⟨P, w, K, mg, base, A.deeper (envOfC "law" (defScope s_law) s.heap.objs.size f cdv)⟩ (fun cls d _ H => E cls d H)) := by
  have hp : PassesOwn (model (cxOf (L2.CX P w) P w K mg base ["_law_script", "_law_store_here", "_law_some", "_law_turn", "_law_plain", "_law_n", "_law_t", "_law_u", "_law_placed", "_law_twin", "_law_peer"] "law" (defScope s_law) f cdv A outer s H E).prog (cxOf (L2.CX P w) P w K mg base ["_law_script", "_law_store_here", "_law_some", "_law_turn", "_law_plain", "_law_n", "_law_t", "_law_u", "_law_placed", "_law_twin", "_law_peer"] "law" (defScope s_law) f cdv A outer s H E).w) (cxOf (L2.CX P w) P w K mg base ["_law_script", "_law_store_here", "_law_some", "_law_turn", "_law_plain", "_law_n", "_law_t", "_law_u", "_law_placed", "_law_twin", "_law_peer"] "law" (defScope s_law) f cdv A outer s H E).A (cxOf (L2.CX P w) P w K mg base ["_law_script", "_law_store_here", "_law_some", "_law_turn", "_law_plain", "_law_n", "_law_t", "_law_u", "_law_placed", "_law_twin", "_law_peer"] "law" (defScope s_law) f cdv A outer s H E).env (cxOf (L2.CX P w) P w K mg base ["_law_script", "_law_store_here", "_law_some", "_law_turn", "_law_plain", "_law_n", "_law_t", "_law_u", "_law_placed", "_law_twin", "_law_peer"] "law" (defScope s_law) f cdv A outer s H E).xe := passes_of rfl
  exact (pss_cons (ps_set (i := 1) sc_law.nd rfl (by first | exact Or.inl rfl | exact Or.inr rfl) (z_call o tk D.h__law_store D.k__law_store (pa_cons (zv 0) pa_nil)))
  (pss_cons (ps_set (i := 2) sc_law.nd rfl (by first | exact Or.inl rfl | exact Or.inr rfl) (pe_op (opr_v o) (z_call o tk D.h__law_rows D.k__law_rows (pa_cons (z_call o tk D.h__law_pick D.k__law_pick (pa_cons (zv 1) (pa_cons pe_int pa_nil))) pa_nil)) (c_lcR1 (pe_lc (own := [("_law_turn", 3)]) rfl sc_law.nd (pi_range1 (by rfl) D.b_range (pa_cons pe_int pa_nil)) (blkOk_by (own := [("_law_turn", 3)]) (N := ["_law_script", "_law_store_here", "_law_some", "_law_turn", "_law_plain", "_law_n", "_law_t", "_law_u", "_law_placed", "_law_twin", "_law_peer"]) (sc := defScope s_law) (by decide +kernel)) (fun _ _ _ _ _ => (pg_name (i := 3) sc_law.nd rfl (by first | exact Or.inl rfl | exact Or.inr rfl))) (fun _ _ _ _ _ => pts_nil) (fun _ _ _ _ _ => (z_call (of_blk o) takes0 D.h__law_great D.k__law_great (pa_cons (zv 1) pa_nil)))))))
  (pss_cons (c_forL (ps_for hp rfl (pi_list (zv 2)) (pg_name (i := 4) sc_law.nd rfl (by first | exact Or.inl rfl | exact Or.inr rfl)) (pss_cons (ps_asg (zv 4) (c_tup (pg_tup rfl (c_cons (pgs_cons (pg_name (i := 5) sc_law.nd rfl (by first | exact Or.inl rfl | exact Or.inr rfl)) (c_cons (pgs_cons (pg_name (i := 6) sc_law.nd rfl (by first | exact Or.inl rfl | exact Or.inr rfl)) (c_cons (pgs_cons (pg_name (i := 7) sc_law.nd rfl (by first | exact Or.inl rfl | exact Or.inr rfl)) (c_nil pgs_nil))))))))))
  (pss_cons (ps_set (i := 8) sc_law.nd rfl (by first | exact Or.inl rfl | exact Or.inr rfl) (z_call o tk D.h_Row D.k_Row (pa_cons (zv 5) (pa_cons (zv 6) (pa_cons (zv 7) pa_nil)))))
  (pss_cons (z_if (PW.pt (zw_or (pt_not (z_tru o (z_call o tk D.h__law_shown D.k__law_shown (pa_cons (zv 8) (pa_cons (zv 4) pa_nil))))) (pw_or1 (pt_not (z_tru o (z_call o tk D.h__law_shown D.k__law_shown (pa_cons (z_callK0 o tk D.h_Row D.k_Row (pk_cons (zv 7) (pk_cons (zv 5) (pk_cons (zv 6) pk_nil)))) (pa_cons (zv 4) pa_nil)))))))) (pss_one (ps_ret pe_bl)) pss_nil)
  (pss_cons (z_if (PW.pt (zw_or (pt_not (z_cmpT (opr_v o) (zv 8) (z_call o tk D.h_Row D.k_Row (pa_cons (zv 5) (pa_cons (zv 6) (pa_cons (zv 7) pa_nil)))) (nomark _))) (zw_or (z_cmpT (opr_v o) (zv 8) (z_call o tk D.h_Row D.k_Row (pa_cons (zv 5) (pa_cons (zv 6) (pa_cons (zv 7) pa_nil)))) (nomark _)) (pw_or1 (z_cmpT (opr_v o) (zv 8) (zv 4) (nomark _)))))) (pss_one (ps_ret pe_bl)) pss_nil)
  (pss_cons (z_if (PW.pt (zw_or (pt_not (z_cmpT (opr_v o) (zv 8) pe_non (nomark _))) (pw_or1 (z_cmpT (opr_v o) (zv 8) (pe_callB (cbr_v o) (by rfl) D.b_repr (by decide +kernel) (pa_cons (zv 8) pa_nil)) (nomark _))))) (pss_one (ps_ret pe_bl)) pss_nil)
  (pss_cons (ps_set (i := 9) sc_law.nd rfl (by first | exact Or.inl rfl | exact Or.inr rfl) (pe_ix (ixr_v o) (zv 2) (z_call o tk D.h__law_pick D.k__law_pick (pa_cons (zv 1) (pa_cons (pe_callB (cbr_v o) (by rfl) D.b_len (by decide +kernel) (pa_cons (zv 2) pa_nil)) pa_nil))) (fun _ _ => rfl)))
  (pss_cons (ps_set (i := 10) sc_law.nd rfl (by first | exact Or.inl rfl | exact Or.inr rfl) (z_call o tk D.h_Row D.k_Row (pa_cons (pe_ix (ixr_v o) (zv 9) pe_int (fun _ _ => rfl)) (pa_cons (pe_ix (ixr_v o) (zv 9) pe_int (fun _ _ => rfl)) (pa_cons (pe_ix (ixr_v o) (zv 9) pe_int (fun _ _ => rfl)) pa_nil)))))
  (pss_one (z_if (PW.pt (zw_or (z_cmpT (opr_v o) (pe_cmpR (opr_v o) (zv 8) (zv 10) (nomark _)) (pe_cmpR (opr_v o) (zv 4) (zv 9) (nomark _)) (nomark _)) (pw_or1 (pt_not (z_tru o (z_call o tk D.h__law_shown D.k__law_shown (pa_cons (zv 8) (pa_cons (zv 4) pa_nil)))))))) (pss_one (ps_ret pe_bl)) pss_nil)))))))))))
  (pss_one (ps_ret pe_bl)))))

end
end Pf

namespace Pf
open PySem PySem.Spec PyProof.Rows L2 Z
local macro_rules | `(tactic| walk_at "ev") => `(tactic| first
  | refine e_add ?_ | refine e_sub ?_ | refine e_int ?_ | refine e_lt ?_ | refine e_le ?_ | refine e_gt ?_ | refine e_ge ?_ | refine e_neg ?_ | refine e_truB ?_ | refine e_eqI ?_ | refine e_neI ?_ | refine e_iadd ?_ | refine e_max ?_ | refine e_min ?_ | refine e_abs ?_)
local macro_rules | `(tactic| walk_at "splen") => `(tactic| (intro vs H Q E h; repeat (first | (obtain ⟨e, _⟩ := h; (subst e; rfl)) | (obtain ⟨_, h⟩ := h))))
local macro_rules | `(tactic| walk_at "evs") => `(tactic| repeat walk_at "ev")
section
variable {P : Program} {w : World} {K : PySem.W.Frag} {mg : Str → Option Value} {base : Heap}
/-- a store of draws at s; av: objects that it is known to be apart from -/
structure StoreOk (av : Addr → Prop) (H : Hp) (s : Addr) : Prop where
  ex : ∃ (m : Int) (l : Addr) (ds : List Int) (c : Int), H s = some (.lst [.int m, .ref l, .int c]) ∧ H l = some (.lst (ds.map V.int)) ∧ l ≠ s ∧ 0 ≤ m ∧ m < 2147483647 ∧ (∀ d ∈ ds, 0 ≤ d) ∧ ds.length ≤ 60 ∧ ¬ av l ∧ ¬ av s ∧ ∀ a, av a → H a ≠ none
abbrev av0 : Addr → Prop := fun _ => False
theorem but_al {av : Addr → Prop} {s : Addr} {H H' : Hp} (b : But s H H') (n : ¬ av s) (al : ∀ a, av a → H a ≠ none) : ∀ a, av a → H' a ≠ none := fun a h e => by
  cases q : H a with
  | none => exact al a h q
  | some o =>
    have := b a o (fun z => n (by rw [← z]; exact h)) q
    rw [this] at e
    cases e
theorem store_same {av : Addr → Prop} {H H' : Hp} {s : Addr} (e : Same H H') (h : StoreOk av H s) : StoreOk av H' s := by
  obtain ⟨m, l, ds, c, h1, h2, h3, h4, h5, h6, h7, h8, h9, h10⟩ := h
  exact ⟨m, l, ds, c, e _ _ h1, e _ _ h2, h3, h4, h5, h6, h7, h8, h9, but_al (to_but e) h9 h10⟩
theorem store_ne {av : Addr → Prop} {H : Hp} {s p : Addr} (h : StoreOk av H s) (n : H p = none) : p ≠ s := by
  obtain ⟨m, l, ds, c, h1, h2, r⟩ := h
  exact ne_fresh h1 n
theorem store_lst {av : Addr → Prop} {H : Hp} {s : Addr} (h : StoreOk av H s) : ∃ xs, H s = some (.lst xs) := by
  obtain ⟨m, l, ds, c, h1, _⟩ := h
  exact ⟨_, h1⟩
/-- a fresh object is one more to be apart from -/
theorem store_more {av : Addr → Prop} {H H' : Hp} {s D : Addr} (h : StoreOk av H s) (n : H D = none) (e : Same H H') (a : H' D ≠ none) : StoreOk (fun x => av x ∨ x = D) H' s := by
  obtain ⟨m, l, ds, c, h1, h2, h3, h4, h5, h6, h7, h8, h9, h10⟩ := h
  exact ⟨m, l, ds, c, e _ _ h1, e _ _ h2, h3, h4, h5, h6, h7, fun z => z.elim h8 (ne_fresh' h2 n), fun z => z.elim h9 (ne_fresh' h1 n), fun x z => z.elim (but_al (to_but e) h9 h10 x) fun z => by rw [z]; exact a⟩
theorem store_less {av : Addr → Prop} {H : Hp} {s D : Addr} (h : StoreOk (fun x => av x ∨ x = D) H s) : StoreOk av H s := by
  obtain ⟨m, l, ds, c, h1, h2, h3, h4, h5, h6, h7, h8, h9, h10⟩ := h
  exact ⟨m, l, ds, c, h1, h2, h3, h4, h5, h6, h7, fun z => h8 (.inl z), fun z => h9 (.inl z), fun x z => h10 x (.inl z)⟩
/-- one of those is changed -/
theorem store_put {av : Addr → Prop} {H H' : Hp} {s D : Addr} (h : StoreOk av H s) (d : av D) (b : But D H H') (o : H' D ≠ none) : StoreOk av H' s := by
  obtain ⟨m, l, ds, c, h1, h2, h3, h4, h5, h6, h7, h8, h9, h10⟩ := h
  refine ⟨m, l, ds, c, b _ _ (fun z => h9 (by rw [z]; exact d)) h1, b _ _ (fun z => h8 (by rw [z]; exact d)) h2, h3, h4, h5, h6, h7, h8, h9, fun x z e => ?_⟩
  by_cases q : x = D
  · rw [q] at e; exact o e
  · cases q2 : H x with
    | none => exact h10 x z q2
    | some u => rw [b x u q q2] at e; cases e
theorem store_off {av : Addr → Prop} {H : Hp} {s D : Addr} (h : StoreOk av H s) (d : av D) : D ≠ s := by
  obtain ⟨m, l, ds, c, h1, h2, h3, h4, h5, h6, h7, h8, h9, h10⟩ := h
  exact fun z => h9 (by rw [← z]; exact d)
def spPick : Sp := fun vs H Q _ => ∃ av s m, vs = [.ref s, .int m] ∧ StoreOk av H s ∧ 0 < m ∧ m < 1073741824 ∧ ∀ r H', 0 ≤ r → r < m → But s H H' → StoreOk av H' s → Q (.int r) H'
theorem r__law_pick (D : Wd K mg) (A : Around) (E : XK) (hr : Rm 0 A) (vs : List V) (H : Hp) (Q : VK) (h : spPick vs H Q E) :
    t__law_pick D ⟨P, w, K, mg, base, A⟩ (fun cls d _ H => E cls d H) { nx := fun _ H' => Q .non H', rt := Q } (start ["_law_store_here", "_law_many", "_law_rest", "_law_digit", "_law_old"] vs) H := by
  obtain ⟨av, s, m, rfl, ⟨x, l, ds, c, hs, hl, nls, h0, h1, hd, h60, avl, avs, al⟩, m0, m1, k⟩ := h
  refine e_ixL (.of hs) rfl ?_
  refine e_add ?_
  refine n_setL hs rfl fun H1 b1 hs1 => ?_
  have hl1 := b1 _ _ nls hl
  refine e_ixL (.of hs1) rfl ?_
  refine n_lst (by rfl) fun p H2 np s2 hp => ?_
  have hs2 := s2 _ _ hs1
  have hl2 := s2 _ _ hl1
  refine e_neLI (ns := ds) (ms := []) hr (.of hl2) (.of hp) ?_
  cases ds with
  | cons d ds =>
    have hd0 : 0 ≤ d := hd d (List.mem_cons_self ..)
    refine e_ixL (.of hs2) rfl ?_
    refine e_ixL (.of hl2) at0 ?_
    refine n_divmod ⟨m0, m1⟩ fun t H3 nt s3 ht => ?_
    refine n_unp (.of ht) rfl ?_
    have hs3 := s3 _ _ hs2
    have hl3 := s3 _ _ hl2
    have q0 : 0 ≤ d / m := Int.ediv_nonneg hd0 (by omega)
    refine e_gt ?_
    have fin : ∀ (a : Addr) (H4 : Hp) (as : List Int), Same H3 H4 → (∀ z ∈ as, 0 ≤ z) → as.length ≤ 1 → H4 a = some (.lst (as.map V.int)) →
        vIx (⟨P, w, K, mg, base, A⟩ : En) (.ref s) (.int 1) H4 (fun z H5 => vSl (⟨P, w, K, mg, base, A⟩ : En) z (some 1) none H5 fun y H6 => vOp ⟨P, w, K, mg, base, A⟩ (binaryOp .Add) (.ref a) y H6 fun z H7 => vSet ⟨P, w, K, mg, base, A⟩ (.ref s) (.int 1) z H7 fun H8 => Q (.int (d % m)) H8) := by
      intro a H4 as s4 has hal ha
      refine e_ixL (.of (s4 _ _ hs3)) rfl ?_
      refine n_slL (.of (s4 _ _ hl3)) fun b H5 nb s5 hb => ?_
      have e1 : cutV (List.map V.int (d :: ds)) (some 1) none = ds.map V.int := cut_drop 1 _
      rw [e1] at hb
      simp only [List.length_cons] at h60
      refine n_cat (s5 _ _ ha) hb (le_line (Nat.ble_eq_true_of_le (by simp only [List.length_map]; omega))) fun e H6 ne s6 he => ?_
      refine n_setL (s6 _ _ (s5 _ _ (s4 _ _ hs3))) rfl fun H7 b7 hs7 => ?_
      rw [← List.map_append] at he
      have nes : e ≠ s := ne_fresh (s5 _ _ (s4 _ _ hs3)) ne
      have bb : But s H H5 := b1.trans ((to_but s2).trans ((to_but s3).trans ((to_but s4).trans (to_but s5))))
      refine k _ _ (Int.emod_nonneg _ (by omega)) (Int.emod_lt_of_pos _ m0) ?_ ⟨_, e, as ++ ds, _, hs7, b7 _ _ nes he, nes, h0, h1, ?_, by simp only [List.length_append]; omega, fun z => but_al bb avs al e z ne, avs, but_al (bb.trans ((to_but s6).trans b7)) avs al⟩
      · exact b1.trans ((to_but s2).trans ((to_but s3).trans ((to_but s4).trans ((to_but s5).trans ((to_but s6).trans b7)))))
      · intro z hz
        rcases List.mem_append.mp hz with hz | hz
        · exact has z hz
        · exact hd z (List.mem_cons_of_mem _ hz)
    refine byb_d (fun c => ?_) (fun c => ?_)
    · refine n_lst (by rfl) fun a H4 na s4 ha => ?_
      exact fin a H4 [d / m] s4 (by simpa using q0) (Nat.le_refl _) ha
    · refine n_lst (by rfl) fun a H4 na s4 ha => ?_
      exact fin a H4 [] s4 (by simp) (Nat.zero_le _) ha
  | nil =>
    refine e_ixL (.of hs2) rfl ?_
    refine e_int ?_
    refine e_mul (.inl ⟨by omega, by omega⟩) ?_
    refine e_ixL (.of hs2) rfl ?_
    refine e_mul (.inl ⟨by decide, by decide⟩) ?_
    walk_at "evs"
    refine e_mod (by decide) ?_
    walk_at "evs"
    refine e_mod (by decide) ?_
    refine n_setL hs2 rfl fun H3 b3 hs3 => ?_
    refine e_ixL (.of hs3) rfl ?_
    refine e_fdiv ⟨by decide, by decide⟩ ?_
    walk_at "evs"
    refine e_mod m0 ?_
    exact k _ _ (Int.emod_nonneg _ (by omega)) (Int.emod_lt_of_pos _ m0) ((b1.trans (to_but s2)).trans b3) ⟨_, l, [], _, hs3, b3 _ _ nls hl2, nls, Int.emod_nonneg _ (by decide), Int.emod_lt_of_pos _ (by decide), by simp, Nat.zero_le _, avl, avs, but_al ((b1.trans (to_but s2)).trans b3) avs al⟩
def spStore (K : PySem.W.Frag) : Sp := fun vs H Q _ => ∃ (a : Addr) (ns : List Int), vs = [.ref a] ∧ SqL K H a (ns.map V.int) ∧ ns.length ≤ 63 ∧ ∀ s H', H s = none → Same H H' → StoreOk av0 H' s → Q (.ref s) H'
theorem r__law_store (D : Wd K mg) (A : Around) (E : XK) (hr : Rm 0 A) (vs : List V) (H : Hp) (Q : VK) (h : spStore K vs H Q E) :
    t__law_store D ⟨P, w, K, mg, base, A⟩ (fun cls d _ H => E cls d H) { nx := fun _ H' => Q .non H', rt := Q } (start ["_law_script", "_law_mixed", "_law_cell"] vs) H := by
  obtain ⟨a, ns, rfl, hS, hl, k⟩ := h
  refine n_slL hS fun p H1 np s1 hp => ?_
  rw [show (some (60 : Int)) = some ((60 : Nat) : Int) from rfl, cut_take, ← List.map_take] at hp
  refine n_forL (fun i σ H' => ∃ (m : Int) (v : Option V), σ = [some (.ref a), some (.int m), v] ∧ Same H1 H' ∧ 0 ≤ m ∧ m < 2147483647) (.of hp) ⟨11, none, rfl, .refl _, by decide, by decide⟩ (fun i σ H' _ ⟨_, _, _, s, _⟩ => s.seq (.of hp)) ?_ ?_
  · rintro i x σ H2 hi ⟨m, v, rfl, s2, m0, m1⟩
    rw [List.getElem?_map] at hi
    obtain ⟨z, hz, rfl⟩ := Option.map_eq_some_iff.mp hi
    refine e_mul (.inl ⟨by omega, by omega⟩) ?_
    walk_at "evs"
    refine e_mod (by decide) ?_
    exact ⟨_, _, rfl, s2, Int.emod_nonneg _ (by decide), Int.emod_lt_of_pos _ (by decide)⟩
  · rintro σ H2 ⟨m, v, rfl, s2, m0, m1⟩
    refine n_slL (s2.seq (s1.seq hS)) fun q H3 nq s3 hq => ?_
    rw [show (some (60 : Int)) = some ((60 : Nat) : Int) from rfl, cut_take, ← List.map_take] at hq
    refine n_lcL (fun D i ys H' => ∃ ds : List Int, ys = ds.map V.int ∧ ∀ d ∈ ds, 0 ≤ d) (.of hq) (by simp only [List.length_map, List.length_take]; omega) (fun D H4 _ _ _ => ⟨[], rfl, by simp⟩) ?_ ?_
    · rintro D i x ys H4 Next hi nD s4 hD ⟨ds, rfl, hds⟩ hl hlt k2
      rw [List.getElem?_map] at hi
      obtain ⟨z, hz, rfl⟩ := Option.map_eq_some_iff.mp hi
      refine ⟨rfl, ?_⟩
      walk_at "evs"
      refine byb_d (fun c => ?_) (fun c => ?_)
      · walk_at "evs"
        refine byb_nd (fun c2 => ?_) (fun c2 => ?_)
        · exact k2 _ _ s4 hD ⟨ds, rfl, hds⟩ (Nat.le_succ_of_le hl)
        · walk_at "evs"
          refine n_put hD (lt_line hl (by simp only [List.length_map, List.length_take] at hlt; omega)) fun H5 b5 h5 => ?_
          refine k2 _ _ (same_but s4 b5 nD) h5 ⟨ds ++ [if z < 0 then -z else z], by simp, ?_⟩ (by simp only [List.length_append, List.length_singleton]; omega)
          intro d hd
          rcases List.mem_append.mp hd with hd | hd
          · exact hds d hd
          · simp only [List.mem_singleton] at hd
            subst hd
            split <;> omega
      · walk_at "evs"
        refine n_put hD (lt_line hl (by simp only [List.length_map, List.length_take] at hlt; omega)) fun H5 b5 h5 => ?_
        refine k2 _ _ (same_but s4 b5 nD) h5 ⟨ds ++ [if z < 0 then -z else z], by simp, ?_⟩ (by simp only [List.length_append, List.length_singleton]; omega)
        intro d hd
        rcases List.mem_append.mp hd with hd | hd
        · exact hds d hd
        · simp only [List.mem_singleton] at hd
          subst hd
          split <;> omega
    · rintro D ys H4 nD s4 hD ⟨ds, rfl, hds⟩ hll
      refine n_lst (by rfl) fun s H5 ns' s5 hs => ?_
      have hlen : ds.length ≤ 60 := by simp only [List.length_map, List.length_take] at hll; omega
      refine k s H5 ?_ (s1.trans (s2.trans (s3.trans (s4.trans s5)))) ⟨m, D, ds, 0, hs, s5 _ _ hD, ?_, m0, m1, hds, hlen, id, id, fun _ z => z.elim⟩
      · exact Same.free (s1.trans (s2.trans (s3.trans s4))) ns'
      · exact ne_fresh' hD ns'

theorem okb__law_pick (D : Wd K mg) : FnB P w K mg base 1 D.a__law_pick D.fd__law_pick ["_law_store_here", "_law_many"] spPick :=
  fn_b D.F__law_pick sc__law_pick (t__law_pick D) (by walk_at "splen") (fun cdv A outer s H E o tk => d__law_pick D cdv A outer s H E _ o tk) (fun A E hr vs H Q h => r__law_pick D A E hr vs H Q h)
theorem ok__law_pick (D : Wd K mg) : FnZ P w K mg base 1 D.a__law_pick spPick := (okb__law_pick D).z0 D.B__law_pick (by walk_at "splen")
theorem okb__law_store (D : Wd K mg) : FnB P w K mg base 1 D.a__law_store D.fd__law_store ["_law_script"] (spStore K) :=
  fn_b D.F__law_store sc__law_store (t__law_store D) (by walk_at "splen") (fun cdv A outer s H E o tk => d__law_store D cdv A outer s H E _ o tk) (fun A E hr vs H Q h => r__law_store D A E hr vs H Q h)
theorem ok__law_store (D : Wd K mg) : FnZ P w K mg base 1 D.a__law_store (spStore K) := (okb__law_store D).z0 D.B__law_store (by walk_at "splen")
/-- a draw -/
theorem n_pick (D : Wd K mg) {A : Around} {k : Nat} (hr : Rm k A) {s : Addr} {m : Int} {H : Hp} {Q : VK} {W : XK} {av : Addr → Prop} (hs : StoreOk av H s) (h0 : 0 < m) (h1 : m < 1073741824) (q : ∀ r H', 0 ≤ r → r < m → But s H H' → StoreOk av H' s → Q (.int r) H') (hk : 1 ≤ k := by decide) :
    vCall ⟨P, w, K, mg, base, A⟩ (.ref D.a__law_pick) [.ref s, .int m] W H Q := call_z hr (ok__law_pick D) ⟨av, s, m, rfl, hs, h0, h1, q⟩ hk

/-- is_integer -/
def spIsInt (K : PySem.W.Frag) : Sp := fun vs H Q _ => ∃ x, vs = [x] ∧ ((∃ i, x = .int i ∧ Q (.bl true) H) ∨ (∃ b, x = .bl b ∧ Q (.bl false) H) ∨ ∃ t, TyX K H x t ∧ PySem.W.kitOne K t (.type "int") = some false ∧ Q (.bl false) H)
theorem r_is_integer (D : Wd K mg) (A : Around) (E : XK) (hr : Rm 0 A) (vs : List V) (H : Hp) (Q : VK) (h : spIsInt K vs H Q E) :
    t_is_integer D ⟨P, w, K, mg, base, A⟩ (fun cls d _ H => E cls d H) { nx := fun _ H' => Q .non H', rt := Q } (start ["value"] vs) H := by
  obtain ⟨x, rfl, h⟩ := h
  rcases h with ⟨i, rfl, q⟩ | ⟨b, rfl, q⟩ | ⟨t, ht, hk, q⟩
  · refine e_isi (.ty "int") (.base (.int i)) (kit_ty (r := true) (by decide +kernel)) ?_
    walk_at "ev"
    refine e_isi (.ty "bool") (.base (.int i)) (kit_ty (r := false) (by decide +kernel)) ?_
    walk_at "ev"
    exact q
  · refine e_isi (.ty "int") (.base (.bl b)) (kit_ty (r := true) (by decide +kernel)) ?_
    walk_at "ev"
    refine e_isi (.ty "bool") (.base (.bl b)) (kit_ty (r := true) (by decide +kernel)) ?_
    walk_at "ev"
    exact q
  · refine e_isi (.ty "int") ht hk ?_
    walk_at "ev"
    exact q
theorem okb_is_integer (D : Wd K mg) : FnB P w K mg base 1 D.a_is_integer D.fd_is_integer ["value"] (spIsInt K) :=
  fn_b D.F_is_integer sc_is_integer (t_is_integer D) (by walk_at "splen") (fun cdv A outer s H E o tk => d_is_integer D cdv A outer s H E _ o tk) (fun A E hr vs H Q h => r_is_integer D A E hr vs H Q h)
theorem ok_is_integer (D : Wd K mg) : FnZ P w K mg base 1 D.a_is_integer (spIsInt K) := (okb_is_integer D).z0 D.B_is_integer (by walk_at "splen")

/-- a row at a -/
structure RowAt (C : Addr) (H : Hp) (a : Addr) (n t u : Int) : Prop where
  ex : ∃ dx p, H a = some (.ins C dx [("place", .ref p)]) ∧ H p = some (.tup [.int n, .int t, .int u])
theorem RowAt.same {C : Addr} {H H' : Hp} {a : Addr} {n t u : Int} (s : Same H H') (h : RowAt C H a n t u) : RowAt C H' a n t u := by
  obtain ⟨dx, p, h1, h2⟩ := h
  exact ⟨dx, p, s _ _ h1, s _ _ h2⟩
def spRow (C : Addr) : Sp := fun vs H Q _ => ∃ (x dx : Addr) (n t u : Int), vs = [.ref x, .int n, .int t, .int u] ∧ H x = some (.ins C dx []) ∧ 0 ≤ t ∧ t ≤ u ∧ u ≤ n ∧
  ∀ H' p, H p = none → But x H H' → H' x = some (.ins C dx [("place", .ref p)]) → H' p = some (.tup [.int n, .int t, .int u]) → Q .non H'
theorem r_Row_init (D : Wd K mg) (A : Around) (E : XK) (hr : Rm 1 A) (vs : List V) (H : Hp) (Q : VK) (h : spRow D.a_Row vs H Q E) :
    t_Row_init D ⟨P, w, K, mg, base, A⟩ (fun cls d _ H => E cls d H) { nx := fun _ H' => Q .non H', rt := Q } (start ["self", "length", "below", "upto"] vs) H := by
  obtain ⟨x, dx, n, t, u, rfl, hx, h0, h1, h2, k⟩ := h
  refine call_z hr (ok_is_integer D) ⟨_, rfl, .inl ⟨_, rfl, ?_⟩⟩
  walk_at "evs"
  refine byb_d (fun c => by omega) (fun c => ?_)
  refine call_z hr (ok_is_integer D) ⟨_, rfl, .inl ⟨_, rfl, ?_⟩⟩
  walk_at "evs"
  refine byb_d (fun c => ?_) (fun c => by omega)
  walk_at "evs"
  refine byb_nd (fun c => ?_) (fun c => by omega)
  refine call_z hr (ok_is_integer D) ⟨_, rfl, .inl ⟨_, rfl, ?_⟩⟩
  walk_at "evs"
  refine byb_d (fun c => ?_) (fun c => by omega)
  walk_at "evs"
  refine byb_nd (fun c => ?_) (fun c => by omega)
  refine n_tup (by rfl) fun p H1 np s1 hp => ?_
  refine ⟨x, _, dx, _, rfl, s1 _ _ hx, D.c_Row, D.n_Row_place, (by show 0 < 1000; decide), ?_⟩
  refine k _ p np ((to_but s1).trans but_upd) upd_same ?_
  rw [upd_ne (ne_fresh hx np)]
  exact hp
theorem okb_Row_init (D : Wd K mg) : FnB P w K mg base 2 D.a_Row_init D.fd_Row_init ["self", "length", "below", "upto"] (spRow D.a_Row) :=
  fn_b D.F_Row_init sc_Row_init (t_Row_init D) (by walk_at "splen") (fun cdv A outer s H E o tk => d_Row_init D cdv A outer s H E _ o tk) (fun A E hr vs H Q h => r_Row_init D A E hr vs H Q h)
theorem ok_Row_init (D : Wd K mg) : FnZ P w K mg base 2 D.a_Row_init (spRow D.a_Row) := (okb_Row_init D).z0 D.B_Row_init (by walk_at "splen")
/-- Row(n, t, u) -/
theorem make_Row (D : Wd K mg) {A : Around} {k : Nat} (hr : Rm k A) {n t u : Int} {H : Hp} {Q : VK} {W : XK} (h0 : 0 ≤ t) (h1 : t ≤ u) (h2 : u ≤ n) (q : ∀ a H', H a = none → Same H H' → RowAt D.a_Row H' a n t u → Q (.ref a) H') (hk : 3 ≤ k := by decide) :
    vCall ⟨P, w, K, mg, base, A⟩ (.ref D.a_Row) [.int n, .int t, .int u] W H Q := by
  refine make_z hr D.M_Row (ok_Row_init D) (fun x dx nx nd ne => ⟨x, dx, n, t, u, rfl, upd_same, h0, h1, h2, fun H' p np b hx hp => ⟨rfl, q x H' nx ?_ ⟨dx, p, hx, hp⟩⟩⟩) hk
  exact same_but ((same_upd nd).trans (same_upd (by rw [upd_ne ne.symm]; exact nx))) b nx

/-- a triple that is a row, in a tuple at a -/
structure Tri (H : Hp) (a : Addr) (n t u : Int) : Prop where
  at_ : H a = some (.tup [.int n, .int t, .int u])
  h0 : 0 ≤ t
  h1 : t ≤ u
  h2 : u ≤ n
  hb : n < 10 ^ 60
def Tris (H : Hp) (ys : List V) : Prop := ∀ y ∈ ys, ∃ a n t u, y = .ref a ∧ Tri H a n t u
theorem Tris.but {H H' : Hp} {s : Addr} {xs ys : List V} (b : But s H H') (hs : H s = some (.lst xs)) (h : Tris H ys) : Tris H' ys := fun y hy => by
  obtain ⟨a, n, t, u, e, ⟨h1, h2, h3, h4, h5⟩⟩ := h y hy
  exact ⟨a, n, t, u, e, ⟨tup_but b hs (by intro z; cases z) h1, h2, h3, h4, h5⟩⟩
theorem Tris.same {H H' : Hp} {ys : List V} (s : Same H H') (h : Tris H ys) : Tris H' ys := fun y hy => by
  obtain ⟨a, n, t, u, e, ⟨h1, h2, h3, h4, h5⟩⟩ := h y hy
  exact ⟨a, n, t, u, e, ⟨s _ _ h1, h2, h3, h4, h5⟩⟩
theorem Tris.app {H : Hp} {xs ys : List V} (h : Tris H xs) (h' : Tris H ys) : Tris H (xs ++ ys) := fun y hy => (List.mem_append.mp hy).elim (h y) (h' y)
def spRows : Sp := fun vs H Q _ => ∃ n : Int, vs = [.int n] ∧ 0 ≤ n ∧ n ≤ 10 ∧ ∀ p H' ys, H p = none → Same H H' → H' p = some (.lst ys) → Tris H' ys → ys.length ≤ 200 → (0 < ys.length) → Q (.ref p) H'
theorem r__law_rows (D : Wd K mg) (A : Around) (E : XK) (hr : Rm 0 A) (vs : List V) (H : Hp) (Q : VK) (h : spRows vs H Q E) :
    t__law_rows D ⟨P, w, K, mg, base, A⟩ (fun cls d _ H => E cls d H) { nx := fun _ H' => Q .non H', rt := Q } (start ["_law_size", "_law_found", "_law_t", "_law_u"] vs) H := by
  obtain ⟨n, rfl, h0, h1, k⟩ := h
  refine n_lst (by rfl) fun p H1 np s1 hp => ?_
  walk_at "evs"
  refine n_forR1 (fun i σ H' => ∃ (q : Addr) (ys : List V) (v v' : Option V), σ = [some (.int n), some (.ref q), v, v'] ∧ H q = none ∧ Same H H' ∧ H' q = some (.lst ys) ∧ Tris H' ys ∧ ys.length ≤ i * 11 ∧ (0 < i → 0 < ys.length)) (by omega) (by omega) ⟨p, [], none, none, rfl, np, s1, hp, by intro y hy; simp at hy, by simp, by simp⟩ ?_ ?_
  · rintro i σ H2 hi ⟨q, ys, v, v', rfl, nq, s2, hq, hy, hl, hp⟩
    walk_at "evs"
    refine n_lcR2 (fun D i zs H' => Tris H' zs ∧ (0 < i → 0 < zs.length)) (by omega) (fun D H3 _ _ _ => ⟨by intro y hy; simp at hy, by simp⟩) ?_ ?_
    · rintro D' c zs H3 Next hc nD s3 hD ⟨hz, hz0⟩ hl k2
      refine ⟨rfl, ?_⟩
      refine n_tup (by rfl) fun t H4 nt s4 ht => ?_
      refine n_put (s4 _ _ hD) (lt_line hl (by omega)) fun H5 b5 h5 => ?_
      refine k2 _ _ (same_but (s3.trans s4) b5 nD) h5 ⟨?_, fun _ => by simp⟩ (by simp only [List.length_append, List.length_singleton]; omega)
      refine (Tris.but b5 (s4 _ _ hD) (Tris.app (hz.same s4) ?_))
      intro y hy
      simp only [List.mem_singleton] at hy
      exact ⟨t, n, (i : Int), (i : Int) + (c : Int), hy, ⟨ht, by omega, by omega, by omega, by omega⟩⟩
    · rintro D' zs H3 nD s3 hD ⟨hz, hz0⟩ hl2
      refine n_cat (s3 _ _ hq) hD (le_line (Nat.ble_eq_true_of_le (by omega))) fun q2 H4 nq2 s4 hq2 => ?_
      refine ⟨q2, ys ++ zs, _, _, rfl, Same.free (s2.trans s3) nq2, s2.trans (s3.trans s4), hq2, Tris.app (hy.same (s3.trans s4)) (hz.same s4), ?_, ?_⟩
      · rw [List.length_append]; omega
      · intro _
        rw [List.length_append]
        have := hz0 (by omega)
        omega
  · rintro σ H2 ⟨q, ys, v, v', rfl, nq, s2, hq, hy, hl, hp⟩
    exact k q H2 ys nq s2 hq hy (by omega) (hp (by omega))
theorem okb__law_rows (D : Wd K mg) : FnB P w K mg base 1 D.a__law_rows D.fd__law_rows ["_law_size"] spRows :=
  fn_b D.F__law_rows sc__law_rows (t__law_rows D) (by walk_at "splen") (fun cdv A outer s H E o tk => d__law_rows D cdv A outer s H E _ o tk) (fun A E hr vs H Q h => r__law_rows D A E hr vs H Q h)
theorem ok__law_rows (D : Wd K mg) : FnZ P w K mg base 1 D.a__law_rows spRows := (okb__law_rows D).z0 D.B__law_rows (by walk_at "splen")

def spGreat : Sp := fun vs H Q _ => ∃ av s, vs = [.ref s] ∧ StoreOk av H s ∧ ∀ a H' n t u, But s H H' → StoreOk av H' s → a ≠ s → Tri H' a n t u → Q (.ref a) H'
theorem e_powC {n : En} {H : Hp} {Q : VK} {i j c : Int} (h : CPow i j) (e : i ^ j.toNat = c) (q : Q (.int c) H) : vOp n (binaryOp .Pow) (.int i) (.int j) H Q := e_pow h (by rw [e]; exact q)
theorem pw10 {j : Int} (h0 : 0 ≤ j) (h1 : j ≤ 1000000) : CPow 10 j := ⟨h0, h1, by decide⟩
abbrev E' (P : Program) (w : World) (K : PySem.W.Frag) (mg : Str → Option Value) (base : Heap) (A : Around) : En := ⟨P, w, K, mg, base, A⟩
theorem r_great0 (D : Wd K mg) (A : Around) (E : XK) (hr : Rm 1 A) (s : Addr) (n w0 : Int) (H : Hp) (Q : VK) {av : Addr → Prop} (hs : StoreOk av H s) (hn : 1 ≤ n) (hN : n < 10 ^ 45) (k : ∀ a H' n t u, But s H H' → StoreOk av H' s → a ≠ s → Tri H' a n t u → Q (.ref a) H') :
    t__law_great_k0 D ⟨P, w, K, mg, base, A⟩ (fun cls d _ H => E cls d H) { nx := fun _ H' => Q .non H', rt := Q } [some (.ref s), some (.int w0), some (.int n), none, none] H := by
  refine n_pick D hr hs (by omega) (by omega) fun a0 H1 ha0 ha1 b1 hs1 => ?_
  refine n_pick D hr hs1 (by omega) (by omega) fun a1 H2 ha2 ha3 b2 hs2 => ?_
  walk_at "evs"
  refine e_fdiv ⟨by omega, by omega⟩ ?_
  refine n_pick D hr hs2 (by omega) (by omega) fun a2 H3 ha4 ha5 b3 hs3 => ?_
  walk_at "evs"
  refine n_lst (by rfl) fun p H4 np s4 hp => ?_
  refine e_powC (c := 1000000) (pw10 (by decide) (by decide)) (by decide) ?_
  refine n_pick D hr (store_same s4 hs3) (by omega) (by omega) fun a3 H5 ha6 ha7 b5 hs5 => ?_
  have hp5 := b5 _ _ (store_ne hs3 np) hp
  refine e_mul (.inr ⟨by omega, by omega⟩) ?_
  walk_at "evs"
  refine e_powC (c := 1000000) (pw10 (by decide) (by decide)) (by decide) ?_
  refine e_fdiv ⟨by omega, by omega⟩ ?_
  refine n_lst (by rfl) fun p2 H6 np2 s6 hp2 => ?_
  refine n_cat (s6 _ _ hp5) hp2 (le_line (by rfl)) fun p3 H7 np3 s7 hp3 => ?_
  refine n_pick D hr (store_same (s6.trans s7) hs5) (by omega) (by omega) fun i1 H8 hi0 hi1 b8 hs8 => ?_
  have hp8 := b8 _ _ (store_ne (store_same s6 hs5) np3) hp3
  have look : ∃ z : Int, atI ([V.int a0, V.int (n - a1), V.int (n / 2 + a2 - 2)] ++ [V.int (n * a3 / 1000000)]) i1 = some (.int z) := by
    have : i1 = 0 ∨ i1 = 1 ∨ i1 = 2 ∨ i1 = 3 := by omega
    rcases this with rfl | rfl | rfl | rfl <;> exact ⟨_, rfl⟩
  obtain ⟨z, hz⟩ := look
  refine e_ixL (.of hp8) hz ?_
  walk_at "evs"
  generalize ht : (if (if z < n then z else n) > 0 then (if z < n then z else n) else 0 : Int) = t
  have t0 : 0 ≤ t ∧ t ≤ n := by
    rw [← ht]
    split <;> split <;> omega
  refine n_pick D hr hs8 (by omega) (by omega) fun a4 H9 hb0 hb1 b9 hs9 => ?_
  walk_at "evs"
  refine n_pick D hr hs9 (by omega) (by omega) fun a5 H10 hc0 hc1 b10 hs10 => ?_
  walk_at "evs"
  refine e_fdiv ⟨by omega, by omega⟩ ?_
  refine n_lst (by rfl) fun p4 H11 np4 s11 hp4 => ?_
  refine n_pick D hr (store_same s11 hs10) (by omega) (by omega) fun i2 H12 hi2 hi3 b12 hs12 => ?_
  have hp12 := b12 _ _ (store_ne hs10 np4) hp4
  have look : ∃ z : Int, atI [V.int t, V.int (t + 1), V.int (t + a4), V.int n, V.int (n - a5), V.int ((t + n) / 2)] i2 = some (.int z) := by
    have : i2 = 0 ∨ i2 = 1 ∨ i2 = 2 ∨ i2 = 3 ∨ i2 = 4 ∨ i2 = 5 := by omega
    rcases this with rfl | rfl | rfl | rfl | rfl | rfl <;> exact ⟨_, rfl⟩
  obtain ⟨y, hy⟩ := look
  refine e_ixL (.of hp12) hy ?_
  walk_at "evs"
  refine n_tup (by rfl) fun p5 H13 np5 s13 hp13 => ?_
  refine k p5 H13 n t _ ?_ (store_same s13 hs12) (store_ne hs12 np5) ⟨hp13, t0.1, ?_, ?_, by omega⟩
  · exact b1.trans (b2.trans (b3.trans ((to_but s4).trans (b5.trans ((to_but s6).trans ((to_but s7).trans (b8.trans (b9.trans (b10.trans ((to_but s11).trans (b12.trans (to_but s13))))))))))))
  · split <;> split <;> omega
  · split <;> split <;> omega
theorem r__law_great (D : Wd K mg) (A : Around) (E : XK) (hr : Rm 1 A) (vs : List V) (H : Hp) (Q : VK) (h : spGreat vs H Q E) :
    t__law_great D ⟨P, w, K, mg, base, A⟩ (fun cls d _ H => E cls d H) { nx := fun _ H' => Q .non H', rt := Q } (start ["_law_store_here", "_law_way", "_law_n", "_law_some", "_law_t"] vs) H := by
  obtain ⟨av, s, rfl, hs, k⟩ := h
  refine n_pick D hr hs (by omega) (by omega) fun w0 H1 hw0 hw1 b1 hs1 => ?_
  refine e_powC (c := 1000000) (pw10 (by decide) (by decide)) (by decide) ?_
  refine e_powC (c := 1000000) (pw10 (by decide) (by decide)) (by decide) ?_
  refine n_lst (by rfl) fun p H2 np s2 hp => ?_
  have pick : ∃ m : Int, atI [V.int 60, V.int 3000, V.int 1000000, V.int 1000000] w0 = some (.int m) ∧ 60 ≤ m ∧ m ≤ 1000000 := by
    have : w0 = 0 ∨ w0 = 1 ∨ w0 = 2 ∨ w0 = 3 := by omega
    rcases this with rfl | rfl | rfl | rfl
    · exact ⟨60, rfl, by omega, by omega⟩
    · exact ⟨3000, rfl, by omega, by omega⟩
    · exact ⟨1000000, rfl, by omega, by omega⟩
    · exact ⟨1000000, rfl, by omega, by omega⟩
  obtain ⟨m, hm, m0, m1⟩ := pick
  refine e_ixL (.of hp) hm ?_
  refine n_pick D hr (store_same s2 hs1) (by omega) (by omega) fun n0 H3 hn0 hn1 b3 hs3 => ?_
  walk_at "evs"
  have bb := b1.trans ((to_but s2).trans b3)
  refine byb_d (fun _ => ?_) (fun _ => ?_)
  · refine e_powC (c := 1000000000000000000000000000000000) (pw10 (by decide) (by decide)) (by decide) ?_
    refine e_mul (.inl ⟨by omega, by omega⟩) ?_
    refine e_powC (c := 1000000) (pw10 (by decide) (by decide)) (by decide) ?_
    refine n_pick D hr hs3 (by omega) (by omega) fun n1 H4 hn2 hn3 b4 hs4 => ?_
    walk_at "evs"
    exact r_great0 D A E hr s _ _ H4 Q hs4 (by omega) (by omega) fun a H' n t u b => k a H' n t u (bb.trans (b4.trans b))
  · exact r_great0 D A E hr s _ _ H3 Q hs3 (by omega) (by omega) fun a H' n t u b => k a H' n t u (bb.trans b)
theorem okb__law_great (D : Wd K mg) : FnB P w K mg base 2 D.a__law_great D.fd__law_great ["_law_store_here"] spGreat :=
  fn_b D.F__law_great sc__law_great (t__law_great D) (by walk_at "splen") (fun cdv A outer s H E o tk => d__law_great D cdv A outer s H E _ o tk) (fun A E hr vs H Q h => r__law_great D A E hr vs H Q h)
theorem ok__law_great (D : Wd K mg) : FnZ P w K mg base 2 D.a__law_great spGreat := (okb__law_great D).z0 D.B__law_great (by walk_at "splen")
theorem n_great (D : Wd K mg) {A : Around} {k : Nat} (hr : Rm k A) {s : Addr} {H : Hp} {Q : VK} {W : XK} {av : Addr → Prop} (hs : StoreOk av H s) (q : ∀ a H' n t u, But s H H' → StoreOk av H' s → a ≠ s → Tri H' a n t u → Q (.ref a) H') (hk : 2 ≤ k := by decide) :
    vCall ⟨P, w, K, mg, base, A⟩ (.ref D.a__law_great) [.ref s] W H Q := call_z hr (ok__law_great D) ⟨av, s, rfl, hs, q⟩ hk
end
end Pf

namespace Pf
open PySem PySem.Spec PyProof.Rows L2 Z
local macro_rules | `(tactic| walk_at "ev") => `(tactic| first
  | refine e_add ?_ | refine e_sub ?_ | refine e_int ?_ | refine e_lt ?_ | refine e_le ?_ | refine e_gt ?_ | refine e_ge ?_ | refine e_neg ?_ | refine e_truB ?_ | refine e_eqI ?_ | refine e_neI ?_ | refine e_iadd ?_ | refine e_max ?_ | refine e_min ?_ | refine e_abs ?_)
local macro_rules | `(tactic| walk_at "splen") => `(tactic| (intro vs H Q E h; repeat (first | (obtain ⟨e, _⟩ := h; (subst e; rfl)) | (obtain ⟨_, h⟩ := h))))
local macro_rules | `(tactic| walk_at "evs") => `(tactic| repeat walk_at "ev")
section
variable {P : Program} {w : World} {K : PySem.W.Frag} {mg : Str → Option Value} {base : Heap}
theorem log_ok {i : Int} (h0 : 0 ≤ i) (h : i < 10 ^ 60) : i.natAbs.log2 < 1920 := by
  by_cases z : i.natAbs = 0
  · rw [z]; decide
  · exact (Nat.log2_lt z).mpr (Nat.lt_of_lt_of_le (by omega : i.natAbs < 10 ^ 60) (by decide))
theorem num_len {i : Int} (h0 : 0 ≤ i) (h : i < 10 ^ 60) : (Str.ofString (toString i)).length ≤ 60 := by
  obtain ⟨n, rfl⟩ := Int.eq_ofNat_of_zero_le h0
  rw [TL.len_tl, TL.tl_num]
  exact TL.numL_len (by omega) (by omega)
theorem line16 : sizeLine = 16777216 := by decide
theorem empty_app (x : Str) : Str.empty ++ x = x := by
  apply Str.ext'
  show (#[] : Array Nat) ++ x.cps = x.cps
  simp

def spProp (C : Addr) (f : Int → Int → Int → V) : Sp := fun vs H Q _ => ∃ (a : Addr) (n t u : Int), vs = [.ref a] ∧ RowAt C H a n t u ∧ Q (f n t u) H
theorem r_Row_length (D : Wd K mg) (A : Around) (E : XK) (hr : Rm 0 A) (vs : List V) (H : Hp) (Q : VK) (h : spProp D.a_Row (fun n t u => .int n) vs H Q E) :
    t_Row_length D ⟨P, w, K, mg, base, A⟩ (fun cls d _ H => E cls d H) { nx := fun _ H' => Q .non H', rt := Q } (start ["self"] vs) H := by
  obtain ⟨a, n, t, u, rfl, ⟨dx, p, ha, hp⟩, q⟩ := h
  refine attr_fld ha D.c_Row D.n_Row_place (by rfl) ?_
  exact e_ixT (.of hp) rfl q
theorem okb_Row_length (D : Wd K mg) : FnB P w K mg base 1 D.a_Row_length D.fd_Row_length ["self"] (spProp D.a_Row (fun n t u => .int n)) :=
  fn_b D.F_Row_length sc_Row_length (t_Row_length D) (by walk_at "splen") (fun cdv A outer s H E o tk => d_Row_length D cdv A outer s H E _ o tk) (fun A E hr vs H Q h => r_Row_length D A E hr vs H Q h)
theorem ok_Row_length (D : Wd K mg) : FnZ P w K mg base 1 D.a_Row_length (spProp D.a_Row (fun n t u => .int n)) := (okb_Row_length D).z0 D.B_Row_length (by walk_at "splen")
theorem r_Row_below (D : Wd K mg) (A : Around) (E : XK) (hr : Rm 0 A) (vs : List V) (H : Hp) (Q : VK) (h : spProp D.a_Row (fun n t u => .int t) vs H Q E) :
    t_Row_below D ⟨P, w, K, mg, base, A⟩ (fun cls d _ H => E cls d H) { nx := fun _ H' => Q .non H', rt := Q } (start ["self"] vs) H := by
  obtain ⟨a, n, t, u, rfl, ⟨dx, p, ha, hp⟩, q⟩ := h
  refine attr_fld ha D.c_Row D.n_Row_place (by rfl) ?_
  exact e_ixT (.of hp) rfl q
theorem okb_Row_below (D : Wd K mg) : FnB P w K mg base 1 D.a_Row_below D.fd_Row_below ["self"] (spProp D.a_Row (fun n t u => .int t)) :=
  fn_b D.F_Row_below sc_Row_below (t_Row_below D) (by walk_at "splen") (fun cdv A outer s H E o tk => d_Row_below D cdv A outer s H E _ o tk) (fun A E hr vs H Q h => r_Row_below D A E hr vs H Q h)
theorem ok_Row_below (D : Wd K mg) : FnZ P w K mg base 1 D.a_Row_below (spProp D.a_Row (fun n t u => .int t)) := (okb_Row_below D).z0 D.B_Row_below (by walk_at "splen")
theorem r_Row_upto (D : Wd K mg) (A : Around) (E : XK) (hr : Rm 0 A) (vs : List V) (H : Hp) (Q : VK) (h : spProp D.a_Row (fun n t u => .int u) vs H Q E) :
    t_Row_upto D ⟨P, w, K, mg, base, A⟩ (fun cls d _ H => E cls d H) { nx := fun _ H' => Q .non H', rt := Q } (start ["self"] vs) H := by
  obtain ⟨a, n, t, u, rfl, ⟨dx, p, ha, hp⟩, q⟩ := h
  refine attr_fld ha D.c_Row D.n_Row_place (by rfl) ?_
  exact e_ixT (.of hp) rfl q
theorem okb_Row_upto (D : Wd K mg) : FnB P w K mg base 1 D.a_Row_upto D.fd_Row_upto ["self"] (spProp D.a_Row (fun n t u => .int u)) :=
  fn_b D.F_Row_upto sc_Row_upto (t_Row_upto D) (by walk_at "splen") (fun cdv A outer s H E o tk => d_Row_upto D cdv A outer s H E _ o tk) (fun A E hr vs H Q h => r_Row_upto D A E hr vs H Q h)
theorem ok_Row_upto (D : Wd K mg) : FnZ P w K mg base 1 D.a_Row_upto (spProp D.a_Row (fun n t u => .int u)) := (okb_Row_upto D).z0 D.B_Row_upto (by walk_at "splen")
theorem n_length (D : Wd K mg) {A : Around} {k : Nat} (hr : Rm k A) {a : Addr} {n t u : Int} {H : Hp} {Q : VK} {W : XK} (h : RowAt D.a_Row H a n t u) (q : Q (.int n) H) (hk : 2 ≤ k := by decide) : vAttr ⟨P, w, K, mg, base, A⟩ "length" (.ref a) W H Q := by
  obtain ⟨dx, p, ha, hp⟩ := id h
  exact attr_prop hr ha D.c_Row D.P_Row_length (ok_Row_length D) ⟨a, n, t, u, rfl, h, q⟩ hk
theorem n_below (D : Wd K mg) {A : Around} {k : Nat} (hr : Rm k A) {a : Addr} {n t u : Int} {H : Hp} {Q : VK} {W : XK} (h : RowAt D.a_Row H a n t u) (q : Q (.int t) H) (hk : 2 ≤ k := by decide) : vAttr ⟨P, w, K, mg, base, A⟩ "below" (.ref a) W H Q := by
  obtain ⟨dx, p, ha, hp⟩ := id h
  exact attr_prop hr ha D.c_Row D.P_Row_below (ok_Row_below D) ⟨a, n, t, u, rfl, h, q⟩ hk
theorem n_upto (D : Wd K mg) {A : Around} {k : Nat} (hr : Rm k A) {a : Addr} {n t u : Int} {H : Hp} {Q : VK} {W : XK} (h : RowAt D.a_Row H a n t u) (q : Q (.int u) H) (hk : 2 ≤ k := by decide) : vAttr ⟨P, w, K, mg, base, A⟩ "upto" (.ref a) W H Q := by
  obtain ⟨dx, p, ha, hp⟩ := id h
  exact attr_prop hr ha D.c_Row D.P_Row_upto (ok_Row_upto D) ⟨a, n, t, u, rfl, h, q⟩ hk

theorem r_Row_there (D : Wd K mg) (A : Around) (E : XK) (hr : Rm 0 A) (vs : List V) (H : Hp) (Q : VK) (h : spProp D.a_Row (fun n t u => .bl (decide (t < u))) vs H Q E) :
    t_Row_there D ⟨P, w, K, mg, base, A⟩ (fun cls d _ H => E cls d H) { nx := fun _ H' => Q .non H', rt := Q } (start ["self"] vs) H := by
  obtain ⟨a, n, t, u, rfl, ⟨dx, p, ha, hp⟩, q⟩ := h
  refine attr_fld ha D.c_Row D.n_Row_place (by rfl) ?_
  refine e_ixT (.of hp) rfl ?_
  refine attr_fld ha D.c_Row D.n_Row_place (by rfl) ?_
  refine e_ixT (.of hp) rfl ?_
  exact e_lt q
theorem okb_Row_there (D : Wd K mg) : FnB P w K mg base 1 D.a_Row_there D.fd_Row_there ["self"] (spProp D.a_Row (fun n t u => .bl (decide (t < u)))) :=
  fn_b D.F_Row_there sc_Row_there (t_Row_there D) (by walk_at "splen") (fun cdv A outer s H E o tk => d_Row_there D cdv A outer s H E _ o tk) (fun A E hr vs H Q h => r_Row_there D A E hr vs H Q h)
theorem ok_Row_there (D : Wd K mg) : FnZ P w K mg base 1 D.a_Row_there (spProp D.a_Row (fun n t u => .bl (decide (t < u)))) := (okb_Row_there D).z0 D.B_Row_there (by walk_at "splen")
theorem n_there (D : Wd K mg) {A : Around} {k : Nat} (hr : Rm k A) {a : Addr} {n t u : Int} {H : Hp} {Q : VK} {W : XK} (h : RowAt D.a_Row H a n t u) (q : Q (.bl (decide (t < u))) H) (hk : 2 ≤ k := by decide) : vAttr ⟨P, w, K, mg, base, A⟩ "there" (.ref a) W H Q := by
  obtain ⟨dx, p, ha, hp⟩ := id h
  exact attr_prop hr ha D.c_Row D.P_Row_there (ok_Row_there D) ⟨a, n, t, u, rfl, h, q⟩ hk

theorem kit_self {K : PySem.W.Frag} {v : Value} : PySem.W.kitOne K v v = some true := by simp [PySem.W.kitOne]
/-- a row == a row, == something else -/
def spEq (K : PySem.W.Frag) (C : Addr) : Sp := fun vs H Q _ => ∃ (a : Addr) (n t u : Int) (y : V), vs = [.ref a, y] ∧ RowAt C H a n t u ∧
  ((∃ (b : Addr) (n' t' u' : Int), y = .ref b ∧ RowAt C H b n' t' u' ∧ Q (.bl (decide ([n, t, u] = [n', t', u']))) H) ∨ ∃ tb, TyX K H y tb ∧ PySem.W.kitOne K tb (.ref C) = some false ∧ Q (.bl false) H)
theorem r_Row_eq (D : Wd K mg) (A : Around) (E : XK) (hr : Rm 1 A) (vs : List V) (H : Hp) (Q : VK) (h : spEq K D.a_Row vs H Q E) :
    t_Row_eq D ⟨P, w, K, mg, base, A⟩ (fun cls d _ H => E cls d H) { nx := fun _ H' => Q .non H', rt := Q } (start ["self", "other"] vs) H := by
  obtain ⟨a, n, t, u, y, rfl, ⟨dx, p, ha, hp⟩, h⟩ := h
  rcases h with ⟨b, n', t', u', rfl, ⟨dy, p', hb, hp'⟩, q⟩ | ⟨tb, ty, hk, q⟩
  · refine e_isi (.own D.a_Row) (.base (.ins hb D.c_Row D.i_Row.ca D.i_Row.cn D.i_Row.ct D.i_Row.cm)) kit_self ?_
    walk_at "evs"
    refine attr_fld ha D.c_Row D.n_Row_place (by rfl) ?_
    refine attr_fld hb D.c_Row D.n_Row_place (by rfl) ?_
    exact e_eqTI hr (ns := [n, t, u]) (ms := [n', t', u']) (.of hp) (.of hp') q
  · refine e_isi (.own D.a_Row) ty hk ?_
    walk_at "evs"
    exact q
theorem okb_Row_eq (D : Wd K mg) : FnB P w K mg base 2 D.a_Row_eq D.fd_Row_eq ["self", "other"] (spEq K D.a_Row) :=
  fn_b D.F_Row_eq sc_Row_eq (t_Row_eq D) (by walk_at "splen") (fun cdv A outer s H E o tk => d_Row_eq D cdv A outer s H E _ o tk) (fun A E hr vs H Q h => r_Row_eq D A E hr vs H Q h)
theorem ok_Row_eq (D : Wd K mg) : FnZ P w K mg base 2 D.a_Row_eq (spEq K D.a_Row) := (okb_Row_eq D).z0 D.B_Row_eq (by walk_at "splen")

/-- the text of a row -/
def rowText (n t u : Int) : Str := Str.ofString "Row(" ++ Str.ofString (toString n) ++ Str.ofString ", " ++ Str.ofString (toString t) ++ Str.ofString ", " ++ Str.ofString (toString u) ++ Str.ofString ")"
def spRepr (C : Addr) : Sp := fun vs H Q _ => ∃ (a : Addr) (n t u : Int), vs = [.ref a] ∧ RowAt C H a n t u ∧ 0 ≤ t ∧ t ≤ u ∧ u ≤ n ∧ n < 10 ^ 60 ∧ Q (.str (rowText n t u)) H
theorem r_Row_repr (D : Wd K mg) (A : Around) (E : XK) (hr : Rm 0 A) (vs : List V) (H : Hp) (Q : VK) (h : spRepr D.a_Row vs H Q E) :
    t_Row_repr D ⟨P, w, K, mg, base, A⟩ (fun cls d _ H => E cls d H) { nx := fun _ H' => Q .non H', rt := Q } (start ["self", "length", "below", "upto"] vs) H := by
  obtain ⟨a, n, t, u, rfl, ⟨dx, p, ha, hp⟩, h0, h1, h2, h3, q⟩ := h
  have l1 := num_len (i := n) (by omega) h3
  have l2 := num_len (i := t) (by omega) (by omega)
  have l3 := num_len (i := u) (by omega) (by omega)
  have c1 : (Str.ofString "Row(").length = 4 := by decide
  have c2 : (Str.ofString ", ").length = 2 := by decide
  have c3 : (Str.ofString ")").length = 1 := by decide
  have li := line16
  refine attr_fld ha D.c_Row D.n_Row_place (by rfl) ?_
  refine n_unp (.of hp) rfl ?_
  refine e_part (by rw [empty_app]; omega) ?_
  rw [empty_app]
  refine e_fmtI (log_ok (by omega) (by omega)) ?_
  refine e_part (by simp only [Str.length_append]; omega) ?_
  refine e_part (by simp only [Str.length_append]; omega) ?_
  refine e_fmtI (log_ok (by omega) (by omega)) ?_
  refine e_part (by simp only [Str.length_append]; omega) ?_
  refine e_part (by simp only [Str.length_append]; omega) ?_
  refine e_fmtI (log_ok (by omega) (by omega)) ?_
  refine e_part (by simp only [Str.length_append]; omega) ?_
  refine e_part (by simp only [Str.length_append]; omega) ?_
  exact q
theorem okb_Row_repr (D : Wd K mg) : FnB P w K mg base 1 D.a_Row_repr D.fd_Row_repr ["self"] (spRepr D.a_Row) :=
  fn_b D.F_Row_repr sc_Row_repr (t_Row_repr D) (by walk_at "splen") (fun cdv A outer s H E o tk => d_Row_repr D cdv A outer s H E _ o tk) (fun A E hr vs H Q h => r_Row_repr D A E hr vs H Q h)
theorem ok_Row_repr (D : Wd K mg) : FnZ P w K mg base 1 D.a_Row_repr (spRepr D.a_Row) := (okb_Row_repr D).z0 D.B_Row_repr (by walk_at "splen")
theorem n_reprRow (D : Wd K mg) {A : Around} {k : Nat} (hr : Rm k A) {a : Addr} {n t u : Int} {H : Hp} {Q : VK} (h : RowAt D.a_Row H a n t u) (h0 : 0 ≤ t) (h1 : t ≤ u) (h2 : u ≤ n) (h3 : n < 10 ^ 60) (q : Q (.str (rowText n t u)) H) (hk : 2 ≤ k := by decide) : vCB ⟨P, w, K, mg, base, A⟩ (.builtin "repr") [.ref a] H Q := by
  obtain ⟨dx, p, ha, hp⟩ := id h
  exact e_reprOwn hr ha D.M_Row_repr (ok_Row_repr D) ⟨a, n, t, u, rfl, h, h0, h1, h2, h3, q⟩ hk
end
end Pf

namespace Pf
open PySem PySem.Spec PyProof.Rows L2 Z
local macro_rules | `(tactic| walk_at "ev") => `(tactic| first
  | refine e_add ?_ | refine e_sub ?_ | refine e_int ?_ | refine e_lt ?_ | refine e_le ?_ | refine e_gt ?_ | refine e_ge ?_ | refine e_neg ?_ | refine e_truB ?_ | refine e_eqI ?_ | refine e_neI ?_ | refine e_iadd ?_ | refine e_max ?_ | refine e_min ?_ | refine e_abs ?_)
local macro_rules | `(tactic| walk_at "splen") => `(tactic| (intro vs H Q E h; repeat (first | (obtain ⟨e, _⟩ := h; (subst e; rfl)) | (obtain ⟨_, h⟩ := h))))
local macro_rules | `(tactic| walk_at "evs") => `(tactic| repeat walk_at "ev")
section
variable {P : Program} {w : World} {K : PySem.W.Frag} {mg : Str → Option Value} {base : Heap}
theorem atI_in {xs : List V} {r : Int} (h0 : 0 ≤ r) (h1 : r < xs.length) : ∃ v ∈ xs, atI xs r = some v := by
  have hn : r.toNat < xs.length := by omega
  refine ⟨xs[r.toNat], List.getElem_mem hn, ?_⟩
  unfold atI ixN
  rw [if_pos h0, if_pos h1]
  simp [List.getElem?_eq_getElem hn]
theorem Tri.same {H H' : Hp} {a : Addr} {n t u : Int} (s : Same H H') (h : Tri H a n t u) : Tri H' a n t u := ⟨s _ _ h.1, h.2, h.3, h.4, h.5⟩
theorem Tri.but {H H' : Hp} {a s : Addr} {n t u : Int} {xs : List V} (b : But s H H') (hs : H s = some (.lst xs)) (h : Tri H a n t u) : Tri H' a n t u := ⟨tup_but b hs (by intro z; cases z) h.1, h.2, h.3, h.4, h.5⟩
theorem RowAt.but {C : Addr} {H H' : Hp} {a s : Addr} {n t u : Int} {xs : List V} (b : But s H H') (hs : H s = some (.lst xs)) (h : RowAt C H a n t u) : RowAt C H' a n t u := by
  obtain ⟨dx, p, h1, h2⟩ := h
  refine ⟨dx, p, b _ _ (fun e => ?_) h1, tup_but b hs (by intro z; cases z) h2⟩
  rw [e, hs] at h1
  cases h1
def spShown (C : Addr) : Sp := fun vs H Q _ => ∃ (a p : Addr) (n t u : Int), vs = [.ref a, .ref p] ∧ RowAt C H a n t u ∧ Tri H p n t u ∧ ∀ H', Same H H' → Q (.bl true) H'
theorem r__law_shown (D : Wd K mg) (A : Around) (E : XK) (hr : Rm 2 A) (vs : List V) (H : Hp) (Q : VK) (h : spShown D.a_Row vs H Q E) :
    t__law_shown D ⟨P, w, K, mg, base, A⟩ (fun cls d _ H => E cls d H) { nx := fun _ H' => Q .non H', rt := Q } (start ["_law_placed", "_law_plain", "_law_n", "_law_t", "_law_u"] vs) H := by
  obtain ⟨a, p, n, t, u, rfl, ra, ⟨hp, h0, h1, h2, hb⟩, k⟩ := h
  have l1 := num_len (i := n) (by omega) hb
  have l2 := num_len (i := t) (by omega) (by omega)
  have l3 := num_len (i := u) (by omega) (by omega)
  have c1 : (Str.ofString "Row(").length = 4 := by decide
  have c2 : (Str.ofString ", ").length = 2 := by decide
  have c3 : (Str.ofString ")").length = 1 := by decide
  have li := line16
  refine n_unp (.of hp) rfl ?_
  refine n_length D hr ra ?_
  refine n_below D hr ra ?_
  refine n_upto D hr ra ?_
  refine n_lst (by rfl) fun x H1 nx s1 hx => ?_
  refine n_lst (by rfl) fun y H2 ny s2 hy => ?_
  refine e_neLI (ns := [n, t, u]) (ms := [n, t, u]) hr (.of (s2 _ _ hx)) (.of hy) ?_
  refine byb_nd (fun _ => ?_) (fun c => absurd rfl c)
  have ra2 := ra.same (s1.trans s2)
  refine n_there D hr ra2 ?_
  refine e_reprBl ?_
  walk_at "evs"
  refine e_reprBl ?_
  refine e_ne rfl ?_
  refine byb_nd (fun _ => ?_) (fun c => absurd rfl c)
  refine n_reprRow D hr ra2 h0 h1 h2 hb ?_
  refine e_strI (log_ok (by omega) (by omega)) ?_
  refine e_addS (by omega) ?_
  refine e_addS (by simp only [Str.length_append]; omega) ?_
  refine e_strI (log_ok (by omega) (by omega)) ?_
  refine e_addS (by simp only [Str.length_append]; omega) ?_
  refine e_addS (by simp only [Str.length_append]; omega) ?_
  refine e_strI (log_ok (by omega) (by omega)) ?_
  refine e_addS (by simp only [Str.length_append]; omega) ?_
  refine e_addS (by simp only [Str.length_append]; omega) ?_
  refine e_eq rfl ?_
  refine e_truB ?_
  refine byb_d (fun _ => ?_) (fun c => absurd rfl c)
  obtain ⟨dx, pp, ha, _⟩ := ra2
  refine e_bool0 ha D.n_Row_bool D.n_Row_len ?_
  exact k H2 (s1.trans s2)
theorem okb__law_shown (D : Wd K mg) : FnB P w K mg base 3 D.a__law_shown D.fd__law_shown ["_law_placed", "_law_plain"] (spShown D.a_Row) :=
  fn_b D.F__law_shown sc__law_shown (t__law_shown D) (by walk_at "splen") (fun cdv A outer s H E o tk => d__law_shown D cdv A outer s H E _ o tk) (fun A E hr vs H Q h => r__law_shown D A E hr vs H Q h)
theorem ok__law_shown (D : Wd K mg) : FnZ P w K mg base 3 D.a__law_shown (spShown D.a_Row) := (okb__law_shown D).z0 D.B__law_shown (by walk_at "splen")
theorem n_shown (D : Wd K mg) {A : Around} {k : Nat} (hr : Rm k A) {a p : Addr} {n t u : Int} {H : Hp} {Q : VK} {W : XK} (ra : RowAt D.a_Row H a n t u) (hp : Tri H p n t u) (q : ∀ H', Same H H' → Q (.bl true) H') (hk : 3 ≤ k := by decide) :
    vCall ⟨P, w, K, mg, base, A⟩ (.ref D.a__law_shown) [.ref a, .ref p] W H Q := call_z hr (ok__law_shown D) ⟨a, p, n, t, u, rfl, ra, hp, q⟩ hk
/-- Row(upto=.., length=.., below=..) -/
theorem makeK_Row (D : Wd K mg) {A : Around} {k : Nat} (hr : Rm k A) {n t u : Int} {H : Hp} {Q : VK} {W : XK} (h0 : 0 ≤ t) (h1 : t ≤ u) (h2 : u ≤ n) (q : ∀ a H', H a = none → Same H H' → RowAt D.a_Row H' a n t u → Q (.ref a) H') (hk : 3 ≤ k := by decide) :
    vCallK ⟨P, w, K, mg, base, A⟩ (.ref D.a_Row) ["upto", "length", "below"] [] [.int u, .int n, .int t] W H Q := by
  refine makek_z hr D.M_Row (okb_Row_init D) (kb_Row_init_upto_length_below D) rfl rfl (fun x dx nx nd ne => ⟨x, dx, n, t, u, rfl, upd_same, h0, h1, h2, fun H' p np b hx hp => ⟨rfl, q x H' nx ?_ ⟨dx, p, hx, hp⟩⟩⟩) hk
  exact same_but ((same_upd nd).trans (same_upd (by rw [upd_ne ne.symm]; exact nx))) b nx
/-- row == row, row == something else, row != row -/
theorem n_eqRow (D : Wd K mg) {A : Around} {k : Nat} (hr : Rm k A) {a b : Addr} {n t u n' t' u' : Int} {H : Hp} {Q : VK} (ra : RowAt D.a_Row H a n t u) (rb : RowAt D.a_Row H b n' t' u') (q : Q (.bl (decide ([n, t, u] = [n', t', u']))) H) (hk : 2 ≤ k := by decide) :
    vOp ⟨P, w, K, mg, base, A⟩ (compareOp .Eq) (.ref a) (.ref b) H Q := by
  obtain ⟨dx, p, ha, hp⟩ := id ra
  obtain ⟨dy, p', hb, hp'⟩ := id rb
  exact e_own hr (fun _ _ => rfl) ha hb D.M_Row_eq (ok_Row_eq D) ⟨a, n, t, u, _, rfl, ra, .inl ⟨b, n', t', u', rfl, rb, q⟩⟩ hk
theorem n_eqOff (D : Wd K mg) {A : Around} {k : Nat} (hr : Rm k A) {a : Addr} {n t u : Int} {y : V} {tb : Value} {H : Hp} {Q : VK} (ra : RowAt D.a_Row H a n t u) (ty : TyX K H y tb) (hn : PySem.W.notFirst K D.a_Row tb = true) (hk' : PySem.W.kitOne K tb (.ref D.a_Row) = some false) (q : Q (.bl false) H) (hk : 2 ≤ k := by decide) :
    vOp ⟨P, w, K, mg, base, A⟩ (compareOp .Eq) (.ref a) y H Q := by
  obtain ⟨dx, p, ha, hp⟩ := id ra
  exact e_cmpX hr (fun _ _ => rfl) ha ty hn D.M_Row_eq (ok_Row_eq D) ⟨a, n, t, u, _, rfl, ra, .inr ⟨tb, ty, hk', q⟩⟩ hk
theorem row_ty (D : Wd K mg) {a : Addr} {n t u : Int} {H : Hp} (ra : RowAt D.a_Row H a n t u) : TyX K H (.ref a) (.ref D.a_Row) := by
  obtain ⟨dx, p, ha, hp⟩ := ra
  exact .base (.ins ha D.c_Row D.i_Row.ca D.i_Row.cn D.i_Row.ct D.i_Row.cm)
theorem n_neRow (D : Wd K mg) {A : Around} {k : Nat} (hr : Rm k A) {a b : Addr} {n t u n' t' u' : Int} {H : Hp} {Q : VK} (ra : RowAt D.a_Row H a n t u) (rb : RowAt D.a_Row H b n' t' u') (q : Q (.bl (!decide ([n, t, u] = [n', t', u']))) H) (hk : 3 ≤ k := by decide) :
    vOp ⟨P, w, K, mg, base, A⟩ (compareOp .NotEq) (.ref a) (.ref b) H Q := by
  obtain ⟨dx, p, ha, hp⟩ := id ra
  exact e_neX hr ha (row_ty D rb) D.nf_Row D.ne_Row D.M_Row_eq (ok_Row_eq D) ⟨a, n, t, u, _, rfl, ra, .inl ⟨b, n', t', u', rfl, rb, q⟩⟩ hk
theorem n_neOff (D : Wd K mg) {A : Around} {k : Nat} (hr : Rm k A) {a : Addr} {n t u : Int} {y : V} {tb : Value} {H : Hp} {Q : VK} (ra : RowAt D.a_Row H a n t u) (ty : TyX K H y tb) (hn : PySem.W.notFirst K D.a_Row tb = true) (hk' : PySem.W.kitOne K tb (.ref D.a_Row) = some false) (q : Q (.bl true) H) (hk : 3 ≤ k := by decide) :
    vOp ⟨P, w, K, mg, base, A⟩ (compareOp .NotEq) (.ref a) y H Q := by
  obtain ⟨dx, p, ha, hp⟩ := id ra
  exact e_neX hr ha ty hn D.ne_Row D.M_Row_eq (ok_Row_eq D) ⟨a, n, t, u, _, rfl, ra, .inr ⟨tb, ty, hk', q⟩⟩ hk
end
end Pf

namespace Pf
open PySem PySem.Spec PyProof.Rows L2 Z
local macro_rules | `(tactic| walk_at "ev") => `(tactic| first
  | refine e_add ?_ | refine e_sub ?_ | refine e_int ?_ | refine e_lt ?_ | refine e_le ?_ | refine e_gt ?_ | refine e_ge ?_ | refine e_neg ?_ | refine e_truB ?_ | refine e_eqI ?_ | refine e_neI ?_ | refine e_iadd ?_ | refine e_max ?_ | refine e_min ?_ | refine e_abs ?_)
local macro_rules | `(tactic| walk_at "splen") => `(tactic| (intro vs H Q E h; repeat (first | (obtain ⟨e, _⟩ := h; (subst e; rfl)) | (obtain ⟨_, h⟩ := h))))
local macro_rules | `(tactic| walk_at "evs") => `(tactic| repeat walk_at "ev")
section
variable {P : Program} {w : World} {K : PySem.W.Frag} {mg : Str → Option Value} {base : Heap}
theorem r_law3 (D : Wd K mg) (A : Around) (W : WX) (hr : Rm 4 A) (G : Ends) (v0 v3 v5 v6 v7 v8 v9 v10 : Option V) (s p q : Addr) (n t u : Int) (ys : List V) (H : Hp) (hs : StoreOk av0 H s) (qs : q ≠ s) (hq : H q = some (.lst ys)) (hy : Tris H ys) (hp : Tri H p n t u) (hl : ys.length ≤ 1000) (hl0 : 0 < ys.length)
    (k : ∀ v5 v6 v7 v8 v9 v10 H', But s H H' → StoreOk av0 H' s → G.nx [v0, some (.ref s), some (.ref q), v3, some (.ref p), v5, v6, v7, v8, v9, v10] H') :
    t_law_k3 D ⟨P, w, K, mg, base, A⟩ W G [v0, some (.ref s), some (.ref q), v3, some (.ref p), v5, v6, v7, v8, v9, v10] H := by
  obtain ⟨b1, b2, b3, b4, b5⟩ := id hp
  refine n_unp (.of b1) rfl ?_
  refine make_Row D hr b2 b3 b4 fun x H1 nx s1 rx => ?_
  refine n_shown D hr rx (hp.same s1) fun H2 s2 => ?_
  walk_at "evs"
  refine makeK_Row D hr b2 b3 b4 fun y H3 ny s3 ry => ?_
  refine n_shown D hr ry (hp.same (s1.trans (s2.trans s3))) fun H4 s4 => ?_
  walk_at "evs"
  refine make_Row D hr b2 b3 b4 fun z H5 nz s5 rz => ?_
  have rx5 := rx.same (s2.trans (s3.trans (s4.trans s5)))
  refine n_eqRow D hr rx5 rz ?_
  refine byb_nd (fun _ => ?_) (fun c => absurd rfl c)
  refine make_Row D hr b2 b3 b4 fun z' H6 nz' s6 rz' => ?_
  have rx6 := rx5.same s6
  refine n_neRow D hr rx6 rz' ?_
  refine byb_nd (c := [n, t, u] = [n, t, u]) (fun _ => ?_) (fun c => absurd rfl c)
  have S6 : Same H H6 := s1.trans (s2.trans (s3.trans (s4.trans (s5.trans s6))))
  have hp6 := hp.same S6
  refine n_eqOff D hr rx6 (tb := .type "tuple") (.base (.tup hp6.at_)) D.nf_Row_tuple D.kit_Row_tuple ?_
  refine byb_f ?_
  refine n_neOff D hr rx6 (y := .non) (tb := .type "NoneType") (.base .non) D.nf_Row_NoneType D.kit_Row_NoneType ?_
  refine byb_f ?_
  refine n_reprRow D hr rx6 b2 b3 b4 b5 ?_
  refine n_eqOff D hr rx6 (tb := .type "str") (.base (.str _)) D.nf_Row_str D.kit_Row_str ?_
  refine byb_f ?_
  refine e_lenL (.of (S6 _ _ hq)) ?_
  refine n_pick D hr (store_same S6 hs) (by omega) (by omega) fun r H7 r0 r1 b7 hs7 => ?_
  obtain ⟨sx, hsx⟩ := store_lst (store_same S6 hs)
  have hq7 := b7 _ _ qs (S6 _ _ hq)
  obtain ⟨v, hv, hat⟩ := atI_in r0 r1
  refine e_ixL (.of hq7) hat ?_
  obtain ⟨c, n', t', u', rfl, T⟩ := ((hy.same S6).but b7 hsx) v hv
  obtain ⟨t1, t2, t3, t4, t5⟩ := id T
  refine e_ixT (.of t1) rfl ?_
  refine e_ixT (.of t1) rfl ?_
  refine e_ixT (.of t1) rfl ?_
  refine make_Row D hr t2 t3 t4 fun z2 H8 nz2 s8 rz2 => ?_
  have rx8 := (rx6.but b7 hsx).same s8
  have hp8 := (hp6.but b7 hsx).same s8
  refine n_eqRow D hr rx8 rz2 ?_
  refine e_eqTI hr (ns := [n, t, u]) (ms := [n', t', u']) (.of hp8.at_) (.of (s8 _ _ t1)) ?_
  refine e_ne rfl ?_
  refine byb_nd (fun _ => ?_) (fun c => absurd rfl c)
  refine n_shown D hr rx8 hp8 fun H9 s9 => ?_
  walk_at "evs"
  exact k _ _ _ _ _ _ H9 ((to_but S6).trans (b7.trans (to_but (s8.trans s9)))) (store_same (s8.trans s9) hs7)
def spLaw (K : PySem.W.Frag) : Sp := fun vs H Q _ => ∃ (a : Addr) (ns : List Int), vs = [.ref a] ∧ SqL K H a (ns.map V.int) ∧ ns.length ≤ 63 ∧ ∀ H', Q (.bl true) H'
theorem r_law (D : Wd K mg) (A : Around) (E : XK) (hr : Rm 4 A) (vs : List V) (H : Hp) (Q : VK) (h : spLaw K vs H Q E) :
    t_law D ⟨P, w, K, mg, base, A⟩ (fun cls d _ H => E cls d H) { nx := fun _ H' => Q .non H', rt := Q } (start ["_law_script", "_law_store_here", "_law_some", "_law_turn", "_law_plain", "_law_n", "_law_t", "_law_u", "_law_placed", "_law_twin", "_law_peer"] vs) H := by
  obtain ⟨a, ns, rfl, ha, hl, k⟩ := h
  refine call_z hr (ok__law_store D) ⟨a, ns, rfl, ha, hl, fun s H1 nx s1 hs => ?_⟩
  refine n_pick D hr hs (by omega) (by omega) fun f H2 f0 f1 b2 hs2 => ?_
  refine call_z hr (ok__law_rows D) ⟨f, rfl, f0, by omega, fun p H3 xs np s3 hp tx lx px => ?_⟩
  have hs3 := store_same s3 hs2
  obtain ⟨sx, hsx⟩ := store_lst hs3
  refine m_lcR1 (fun D i zs H' => StoreOk (fun x => av0 x ∨ x = D) H' s ∧ Tris H' zs ∧ But s H3 H') (by omega) (by omega) (fun D H4 nD s4 hD => ⟨store_more hs3 nD s4 (by rw [hD]; simp), fun y hy => by simp at hy, to_but s4⟩) ?_ ?_
  · rintro D' c zs H4 Next hc nD hD ⟨hs4, tz, b4⟩ hl4 k2
    obtain ⟨sx4, hsx4⟩ := store_lst hs4
    refine ⟨rfl, ?_⟩
    refine n_great D hr hs4 fun g H5 n t u b5 hs5 gs T => ?_
    have hD5 := b5 _ _ (store_off hs4 (.inr rfl)) hD
    refine n_put hD5 (lt_line hl4 (by omega)) fun H6 b6 h6 => ?_
    refine k2 _ _ h6 ⟨store_put hs5 (.inr rfl) b6 (by rw [h6]; simp), ?_, ?_⟩ (by simp only [List.length_append, List.length_singleton]; omega)
    · refine ((tz.but b5 hsx4).but b6 hD5).app ?_
      intro y hy
      simp only [List.mem_singleton] at hy
      exact ⟨g, n, t, u, hy, T.but b6 hD5⟩
    · intro x o hx ho
      exact b6 _ _ (fun e => by rw [e, nD] at ho; cases ho) (b5 _ _ hx (b4 _ _ hx ho))
  · rintro D' zs H4 nD hD ⟨hs4, tz, b4⟩ hl4
    have ps : p ≠ s := store_ne hs2 np
    have tx4 := tx.but b4 hsx
    refine n_cat (b4 _ _ ps hp) hD (le_line (Nat.ble_eq_true_of_le (by simp at hl4; omega))) fun q H5 nq s5 hq => ?_
    have hs5 := store_same s5 (store_less hs4)
    have qs : q ≠ s := store_ne (store_less hs4) nq
    have ty := (tx4.same s5).app (tz.same s5)
    have lq : (xs ++ zs).length ≤ 1000 := by simp at hl4; rw [List.length_append]; omega
    have lq0 : 0 < (xs ++ zs).length := by rw [List.length_append]; omega
    refine n_forL (fun i σ H' => ∃ v4 v5 v6 v7 v8 v9 v10, σ = [some (.ref a), some (.ref s), some (.ref q), none, v4, v5, v6, v7, v8, v9, v10] ∧ StoreOk av0 H' s ∧ H' q = some (.lst (xs ++ zs)) ∧ Tris H' (xs ++ zs)) (.of hq)
      ⟨_, _, _, _, _, _, _, rfl, hs5, hq, ty⟩ (fun i σ H' _ ⟨_, _, _, _, _, _, _, _, _, z, _⟩ => .of z) ?_ ?_
    · rintro i x σ H' hi ⟨v4, v5, v6, v7, v8, v9, v10, rfl, hs', hq', ty'⟩
      obtain ⟨p, n, t, u, rfl, T⟩ := ty' _ (List.mem_of_getElem? hi)
      obtain ⟨sy, hsy⟩ := store_lst hs'
      exact r_law3 D A _ hr _ _ _ _ _ _ _ _ _ s p q n t u _ H' hs' qs hq' ty' T lq lq0 fun v5 v6 v7 v8 v9 v10 H'' b hs'' => ⟨_, _, _, _, _, _, _, rfl, hs'', b _ _ qs hq', ty'.but b hsy⟩
    · rintro σ H' ⟨v4, v5, v6, v7, v8, v9, v10, rfl, _⟩
      exact k H'
theorem okb_law (D : Wd K mg) : FnB P w K mg base 5 D.a_law D.fd_law ["_law_script"] (spLaw K) :=
  fn_b D.F_law sc_law (t_law D) (by walk_at "splen") (fun cdv A outer s H E o tk => d_law D cdv A outer s H E _ o tk) (fun A E hr vs H Q h => r_law D A E hr vs H Q h)
theorem ok_law (D : Wd K mg) : FnZ P w K mg base 5 D.a_law (spLaw K) := (okb_law D).z0 D.B_law (by walk_at "splen")
end
end Pf

namespace Pf
open PySem PySem.Spec PyProof.Rows L2 Z
def fns : List He5.DefA := [⟨fun K => He.ga K "is_integer", "is_integer", "is_integer", defArgs s_is_integer, defBody s_is_integer, defScope s_is_integer, [], []⟩, ⟨fun K => He.ma K (He.ga K "Row") "__init__", "__init__", "Row.__init__", defArgs s_Row_init, defBody s_Row_init, defScope s_Row_init, [], []⟩, ⟨fun K => He5.wf K (He.ga K "Row") "property" "length", "length", "Row.length", defArgs s_Row_length, defBody s_Row_length, defScope s_Row_length, [], []⟩, ⟨fun K => He5.wf K (He.ga K "Row") "property" "below", "below", "Row.below", defArgs s_Row_below, defBody s_Row_below, defScope s_Row_below, [], []⟩, ⟨fun K => He5.wf K (He.ga K "Row") "property" "upto", "upto", "Row.upto", defArgs s_Row_upto, defBody s_Row_upto, defScope s_Row_upto, [], []⟩, ⟨fun K => He5.wf K (He.ga K "Row") "property" "there", "there", "Row.there", defArgs s_Row_there, defBody s_Row_there, defScope s_Row_there, [], []⟩, ⟨fun K => He.ma K (He.ga K "Row") "__eq__", "__eq__", "Row.__eq__", defArgs s_Row_eq, defBody s_Row_eq, defScope s_Row_eq, [], []⟩, ⟨fun K => He.ma K (He.ga K "Row") "__repr__", "__repr__", "Row.__repr__", defArgs s_Row_repr, defBody s_Row_repr, defScope s_Row_repr, [], []⟩, ⟨fun K => He.ga K "_law_store", "_law_store", "_law_store", defArgs s__law_store, defBody s__law_store, defScope s__law_store, [], []⟩, ⟨fun K => He.ga K "_law_pick", "_law_pick", "_law_pick", defArgs s__law_pick, defBody s__law_pick, defScope s__law_pick, [], []⟩, ⟨fun K => He.ga K "_law_rows", "_law_rows", "_law_rows", defArgs s__law_rows, defBody s__law_rows, defScope s__law_rows, [], []⟩, ⟨fun K => He.ga K "_law_great", "_law_great", "_law_great", defArgs s__law_great, defBody s__law_great, defScope s__law_great, [], []⟩, ⟨fun K => He.ga K "_law_shown", "_law_shown", "_law_shown", defArgs s__law_shown, defBody s__law_shown, defScope s__law_shown, [], []⟩, ⟨fun K => He.ga K "law", "law", "law", defArgs s_law, defBody s_law, defScope s_law, [], []⟩]
def exs (K : PySem.W.Frag) : List Bool := [(He.Fa.glo "is_integer").ok K, (He.Fa.glo "_law_store").ok K, (He.Fa.glo "_law_pick").ok K, (He.Fa.glo "_law_rows").ok K, (He.Fa.glo "_law_great").ok K, (He.Fa.glo "_law_shown").ok K, (He.Fa.glo "law").ok K, (He.Fa.glo "Row").ok K, (He.Fa.keep "Row").ok K, (He.Fa.cls "Row").ok K, (He.Fa.meth "Row" "__eq__").ok K, (He.Fa.meth "Row" "__repr__").ok K, (He.Fa.mkr "Row").ok K, propB K (He.ga K "Row") "length", propB K (He.ga K "Row") "below", propB K (He.ga K "Row") "upto", propB K (He.ga K "Row") "there", (He.Fa.noat "Row" "place").ok K, (He.Fa.noat "Row" "__bool__").ok K, (He.Fa.noat "Row" "__len__").ok K, isiB K (He.ga K "Row"), neB K (He.ga K "Row"), PySem.W.notFirst K (He.ga K "Row") (.type "tuple"), PySem.W.notFirst K (He.ga K "Row") (.type "NoneType"), PySem.W.notFirst K (He.ga K "Row") (.type "str"), decide (PySem.W.kitOne K (.type "tuple") (.ref (He.ga K "Row")) = some false), decide (PySem.W.kitOne K (.type "NoneType") (.ref (He.ga K "Row")) = some false), decide (PySem.W.kitOne K (.type "str") (.ref (He.ga K "Row")) = some false), PySem.W.notFirst K (He.ga K "Row") (.ref (He.ga K "Row")), (He.Fa.free "abs").ok K, (He.Fa.free "bool").ok K, (He.Fa.free "divmod").ok K, (He.Fa.free "int").ok K, (He.Fa.free "isinstance").ok K, (He.Fa.free "len").ok K, (He.Fa.free "max").ok K, (He.Fa.free "min").ok K, (He.Fa.free "range").ok K, (He.Fa.free "repr").ok K, (He.Fa.free "str").ok K]
def loose : List Str := (["_wall", "__name__", "SearchError", "InvalidLength", "InvalidPlace", "InvalidEntries", "InvalidKey", "is_integer", "check_entries", "Row", "_law_store", "_law_pick", "_law_rows", "_law_great", "_law_shown"] : List Str)
theorem wd_mk {K : PySem.W.Frag} {h : Heap} {mg : Str → Option Value} {fa : Addr} (X : K.In h) (G : h.Ns mainGlobals mg) (hfa : mg "law" = some (.ref fa)) (c : SaysZ fns exs K) : ∃ D : Wd K mg, D.a_law = fa := by
  obtain ⟨fd_is_integer, F_is_integer⟩ := c.d 0 rfl
  have F_is_integer : FunD K "is_integer" "is_integer" (defArgs s_is_integer) (defBody s_is_integer) (defScope s_is_integer) [] [] (He.ga K "is_integer") fd_is_integer := F_is_integer
  have B_is_integer : Binds K fd_is_integer ["value"] [] := FunD.bindsN F_is_integer fun _ _ _ _ _ _ us hl => match us, hl with | [_], _ => rfl
  obtain ⟨fd_Row_init, F_Row_init⟩ := c.d 1 rfl
  have F_Row_init : FunD K "__init__" "Row.__init__" (defArgs s_Row_init) (defBody s_Row_init) (defScope s_Row_init) [] [] (He.ma K (He.ga K "Row") "__init__") fd_Row_init := F_Row_init
  have B_Row_init : Binds K fd_Row_init ["self", "length", "below", "upto"] [] := FunD.bindsN F_Row_init fun _ _ _ _ _ _ us hl => match us, hl with | [_, _, _, _], _ => rfl
  obtain ⟨fd_Row_length, F_Row_length⟩ := c.d 2 rfl
  have F_Row_length : FunD K "length" "Row.length" (defArgs s_Row_length) (defBody s_Row_length) (defScope s_Row_length) [] [] (He5.wf K (He.ga K "Row") "property" "length") fd_Row_length := F_Row_length
  have B_Row_length : Binds K fd_Row_length ["self"] [] := FunD.bindsN F_Row_length fun _ _ _ _ _ _ us hl => match us, hl with | [_], _ => rfl
  obtain ⟨fd_Row_below, F_Row_below⟩ := c.d 3 rfl
  have F_Row_below : FunD K "below" "Row.below" (defArgs s_Row_below) (defBody s_Row_below) (defScope s_Row_below) [] [] (He5.wf K (He.ga K "Row") "property" "below") fd_Row_below := F_Row_below
  have B_Row_below : Binds K fd_Row_below ["self"] [] := FunD.bindsN F_Row_below fun _ _ _ _ _ _ us hl => match us, hl with | [_], _ => rfl
  obtain ⟨fd_Row_upto, F_Row_upto⟩ := c.d 4 rfl
  have F_Row_upto : FunD K "upto" "Row.upto" (defArgs s_Row_upto) (defBody s_Row_upto) (defScope s_Row_upto) [] [] (He5.wf K (He.ga K "Row") "property" "upto") fd_Row_upto := F_Row_upto
  have B_Row_upto : Binds K fd_Row_upto ["self"] [] := FunD.bindsN F_Row_upto fun _ _ _ _ _ _ us hl => match us, hl with | [_], _ => rfl
  obtain ⟨fd_Row_there, F_Row_there⟩ := c.d 5 rfl
  have F_Row_there : FunD K "there" "Row.there" (defArgs s_Row_there) (defBody s_Row_there) (defScope s_Row_there) [] [] (He5.wf K (He.ga K "Row") "property" "there") fd_Row_there := F_Row_there
  have B_Row_there : Binds K fd_Row_there ["self"] [] := FunD.bindsN F_Row_there fun _ _ _ _ _ _ us hl => match us, hl with | [_], _ => rfl
  obtain ⟨fd_Row_eq, F_Row_eq⟩ := c.d 6 rfl
  have F_Row_eq : FunD K "__eq__" "Row.__eq__" (defArgs s_Row_eq) (defBody s_Row_eq) (defScope s_Row_eq) [] [] (He.ma K (He.ga K "Row") "__eq__") fd_Row_eq := F_Row_eq
  have B_Row_eq : Binds K fd_Row_eq ["self", "other"] [] := FunD.bindsN F_Row_eq fun _ _ _ _ _ _ us hl => match us, hl with | [_, _], _ => rfl
  obtain ⟨fd_Row_repr, F_Row_repr⟩ := c.d 7 rfl
  have F_Row_repr : FunD K "__repr__" "Row.__repr__" (defArgs s_Row_repr) (defBody s_Row_repr) (defScope s_Row_repr) [] [] (He.ma K (He.ga K "Row") "__repr__") fd_Row_repr := F_Row_repr
  have B_Row_repr : Binds K fd_Row_repr ["self"] [] := FunD.bindsN F_Row_repr fun _ _ _ _ _ _ us hl => match us, hl with | [_], _ => rfl
  obtain ⟨fd__law_store, F__law_store⟩ := c.d 8 rfl
  have F__law_store : FunD K "_law_store" "_law_store" (defArgs s__law_store) (defBody s__law_store) (defScope s__law_store) [] [] (He.ga K "_law_store") fd__law_store := F__law_store
  have B__law_store : Binds K fd__law_store ["_law_script"] [] := FunD.bindsN F__law_store fun _ _ _ _ _ _ us hl => match us, hl with | [_], _ => rfl
  obtain ⟨fd__law_pick, F__law_pick⟩ := c.d 9 rfl
  have F__law_pick : FunD K "_law_pick" "_law_pick" (defArgs s__law_pick) (defBody s__law_pick) (defScope s__law_pick) [] [] (He.ga K "_law_pick") fd__law_pick := F__law_pick
  have B__law_pick : Binds K fd__law_pick ["_law_store_here", "_law_many"] [] := FunD.bindsN F__law_pick fun _ _ _ _ _ _ us hl => match us, hl with | [_, _], _ => rfl
  obtain ⟨fd__law_rows, F__law_rows⟩ := c.d 10 rfl
  have F__law_rows : FunD K "_law_rows" "_law_rows" (defArgs s__law_rows) (defBody s__law_rows) (defScope s__law_rows) [] [] (He.ga K "_law_rows") fd__law_rows := F__law_rows
  have B__law_rows : Binds K fd__law_rows ["_law_size"] [] := FunD.bindsN F__law_rows fun _ _ _ _ _ _ us hl => match us, hl with | [_], _ => rfl
  obtain ⟨fd__law_great, F__law_great⟩ := c.d 11 rfl
  have F__law_great : FunD K "_law_great" "_law_great" (defArgs s__law_great) (defBody s__law_great) (defScope s__law_great) [] [] (He.ga K "_law_great") fd__law_great := F__law_great
  have B__law_great : Binds K fd__law_great ["_law_store_here"] [] := FunD.bindsN F__law_great fun _ _ _ _ _ _ us hl => match us, hl with | [_], _ => rfl
  obtain ⟨fd__law_shown, F__law_shown⟩ := c.d 12 rfl
  have F__law_shown : FunD K "_law_shown" "_law_shown" (defArgs s__law_shown) (defBody s__law_shown) (defScope s__law_shown) [] [] (He.ga K "_law_shown") fd__law_shown := F__law_shown
  have B__law_shown : Binds K fd__law_shown ["_law_placed", "_law_plain"] [] := FunD.bindsN F__law_shown fun _ _ _ _ _ _ us hl => match us, hl with | [_, _], _ => rfl
  obtain ⟨fd_law, F_law⟩ := c.d 13 rfl
  have F_law : FunD K "law" "law" (defArgs s_law) (defBody s_law) (defScope s_law) [] [] (He.ga K "law") fd_law := F_law
  have B_law : Binds K fd_law ["_law_script"] [] := FunD.bindsN F_law fun _ _ _ _ _ _ us hl => match us, hl with | [_], _ => rfl
  have e := hfa.symm.trans (He.glo_ok X G (x := "law") (c.b 6 rfl))
  cases e
  exact ⟨{ a_is_integer := He.ga K "is_integer", fd_is_integer := fd_is_integer, F_is_integer := F_is_integer, B_is_integer := B_is_integer, k_is_integer := F_is_integer.kp, a_Row_init := He.ma K (He.ga K "Row") "__init__", fd_Row_init := fd_Row_init, F_Row_init := F_Row_init, B_Row_init := B_Row_init, a_Row_length := He5.wf K (He.ga K "Row") "property" "length", fd_Row_length := fd_Row_length, F_Row_length := F_Row_length, B_Row_length := B_Row_length, a_Row_below := He5.wf K (He.ga K "Row") "property" "below", fd_Row_below := fd_Row_below, F_Row_below := F_Row_below, B_Row_below := B_Row_below, a_Row_upto := He5.wf K (He.ga K "Row") "property" "upto", fd_Row_upto := fd_Row_upto, F_Row_upto := F_Row_upto, B_Row_upto := B_Row_upto, a_Row_there := He5.wf K (He.ga K "Row") "property" "there", fd_Row_there := fd_Row_there, F_Row_there := F_Row_there, B_Row_there := B_Row_there, a_Row_eq := He.ma K (He.ga K "Row") "__eq__", fd_Row_eq := fd_Row_eq, F_Row_eq := F_Row_eq, B_Row_eq := B_Row_eq, a_Row_repr := He.ma K (He.ga K "Row") "__repr__", fd_Row_repr := fd_Row_repr, F_Row_repr := F_Row_repr, B_Row_repr := B_Row_repr, a__law_store := He.ga K "_law_store", fd__law_store := fd__law_store, F__law_store := F__law_store, B__law_store := B__law_store, k__law_store := F__law_store.kp, a__law_pick := He.ga K "_law_pick", fd__law_pick := fd__law_pick, F__law_pick := F__law_pick, B__law_pick := B__law_pick, k__law_pick := F__law_pick.kp, a__law_rows := He.ga K "_law_rows", fd__law_rows := fd__law_rows, F__law_rows := F__law_rows, B__law_rows := B__law_rows, k__law_rows := F__law_rows.kp, a__law_great := He.ga K "_law_great", fd__law_great := fd__law_great, F__law_great := F__law_great, B__law_great := B__law_great, k__law_great := F__law_great.kp, a__law_shown := He.ga K "_law_shown", fd__law_shown := fd__law_shown, F__law_shown := F__law_shown, B__law_shown := B__law_shown, k__law_shown := F__law_shown.kp, a_law := He.ga K "law", fd_law := fd_law, F_law := F_law, B_law := B_law, k_law := F_law.kp, h_is_integer := He.glo_ok X G (x := "is_integer") (c.b 0 rfl), h__law_store := He.glo_ok X G (x := "_law_store") (c.b 1 rfl), h__law_pick := He.glo_ok X G (x := "_law_pick") (c.b 2 rfl), h__law_rows := He.glo_ok X G (x := "_law_rows") (c.b 3 rfl), h__law_great := He.glo_ok X G (x := "_law_great") (c.b 4 rfl), h__law_shown := He.glo_ok X G (x := "_law_shown") (c.b 5 rfl), h_law := He.glo_ok X G (x := "law") (c.b 6 rfl), a_Row := He.ga K "Row", h_Row := He.glo_ok X G (x := "Row") (c.b 7 rfl), k_Row := He.keep_ok (x := "Row") (c.b 8 rfl), c_Row := He.cls_ok (x := "Row") (c.b 9 rfl), M_Row_eq := He.meth_ok (x := "Row") (m := "__eq__") (c.b 10 rfl), M_Row_repr := He.meth_ok (x := "Row") (m := "__repr__") (c.b 11 rfl), M_Row := He.mkr_ok (x := "Row") (c.b 12 rfl), p_Row_length := He.ma K (He.ga K "Row") "length", P_Row_length := prop_ok (c.b 13 rfl), p_Row_below := He.ma K (He.ga K "Row") "below", P_Row_below := prop_ok (c.b 14 rfl), p_Row_upto := He.ma K (He.ga K "Row") "upto", P_Row_upto := prop_ok (c.b 15 rfl), p_Row_there := He.ma K (He.ga K "Row") "there", P_Row_there := prop_ok (c.b 16 rfl), n_Row_place := He.noat_ok (x := "Row") (f := "place") (c.b 17 rfl), n_Row_bool := He.noat_ok (x := "Row") (f := "__bool__") (c.b 18 rfl), n_Row_len := He.noat_ok (x := "Row") (f := "__len__") (c.b 19 rfl), i_Row := isi_ok (c.b 20 rfl), ne_Row := ne_ok (c.b 21 rfl), nf_Row_tuple := (c.b 22 rfl), nf_Row_NoneType := (c.b 23 rfl), nf_Row_str := (c.b 24 rfl), kit_Row_tuple := of_decide_eq_true (c.b 25 rfl), kit_Row_NoneType := of_decide_eq_true (c.b 26 rfl), kit_Row_str := of_decide_eq_true (c.b 27 rfl), nf_Row := (c.b 28 rfl), b_abs := He.free_ok X G (x := "abs") (c.b 29 rfl), b_bool := He.free_ok X G (x := "bool") (c.b 30 rfl), b_divmod := He.free_ok X G (x := "divmod") (c.b 31 rfl), b_int := He.free_ok X G (x := "int") (c.b 32 rfl), b_isinstance := He.free_ok X G (x := "isinstance") (c.b 33 rfl), b_len := He.free_ok X G (x := "len") (c.b 34 rfl), b_max := He.free_ok X G (x := "max") (c.b 35 rfl), b_min := He.free_ok X G (x := "min") (c.b 36 rfl), b_range := He.free_ok X G (x := "range") (c.b 37 rfl), b_repr := He.free_ok X G (x := "repr") (c.b 38 rfl), b_str := He.free_ok X G (x := "str") (c.b 39 rfl) }, rfl⟩
abbrev R : PySem.W.OpenRow := PySem.W.OpenLaw.row PySem.Challenge.rw_searchloops_k02_rows_made
abbrev hk : PySem.W.Hook := hookZ 6 fns exs
def ob (s : PySem.W.SharedT) : AlZ := obsZG 6 fns exs (HandSHeadRun.getT s)
theorem ob_eq (s : PySem.W.SharedT) : ob s = hk.obs s.abs := obsZ_tree s
set_option maxHeartbeats 0 in
theorem run0 (w : World) : HandSHeadRun.RunEq R (PySem.W.view R.prog [18]) hk ob 3000 loose (w.withFollow "special-get-raises" false) := by
  intro os
  kernel_rfl
theorem run1 (w : World) : HandSHeadRun.RunEq R (PySem.W.view R.prog [18]) hk ob 3000 loose (w.withFollow "special-get-raises" true) := by
  intro os
  kernel_rfl
theorem run (w : World) : HandSHeadRun.RunEq R (PySem.W.view R.prog [18]) hk ob 3000 loose w := PySem.W.byRow2 "special-get-raises" run0 run1 w
theorem fin {P : Program} {w : World} {K : PySem.W.Frag} {h : Heap} {mg : Str → Option Value} {fa : Addr} (X : K.In h) (ex : ∃ D : Wd K mg, D.a_law = fa) : ∃ (K : PySem.W.Frag) (sp : Sp), K.In h ∧
    (∀ (H : Hp) (a : Addr) (ns : List Int), ns.length ≤ 63 → Only H → SqL K H a (ns.map V.int) → sp [.ref a] H (fun v _ => v = .bl true) E0) ∧ ∀ base : Heap, K.In base → base.Ns mainGlobals mg → FnZ P w K mg base 5 fa sp := by
  obtain ⟨D, rfl⟩ := ex
  exact ⟨K, spLaw K, X, fun H a ns hl _ hS => ⟨a, ns, rfl, hS, hl, fun _ => rfl⟩, fun base _ _ => ok_law D⟩
end Pf
open PySem PySem.W PySem.Calls PyProof.Rows in
set_option maxRecDepth 100000 in
set_option maxHeartbeats 0 in
theorem PySem.Challenge.cw_searchloops_k02_rows_made_holds : PySem.Challenge.rw_searchloops_k02_rows_made.Holds := by
  w_on; o_law
  refine HandSHeadRun.head_any (r := OpenLaw.row PySem.Challenge.rw_searchloops_k02_rows_made) (q := view (PySem.W.OpenLaw.row PySem.Challenge.rw_searchloops_k02_rows_made).prog [18]) (H := Pf.hk) (ob := Pf.ob) (M := 3000) (loose := Pf.loose) (d := HandSHeadRun.topDef (PySem.W.OpenLaw.row PySem.Challenge.rw_searchloops_k02_rows_made).prog 18) (kwd := []) Pf.ob_eq
    (by kernel_rfl) (fun s => by kernel_rfl) Pf.run (by kernel_rfl) (by kernel_rfl) (by kernel_rfl) (by rfl) (by first | assumption | decide +kernel) (by decide +kernel) ⟨rfl, rfl, rfl, rfl, rfl, by decide +kernel⟩ ?hw ?hc
  case hw => w_witness2
  case hc =>
    refine Z.walk_z (l := PySem.Challenge.rw_searchloops_k02_rows_made) (n := 63) (k := 5) rfl (by decide) (by kernel_rfl) ⟨⟨rfl, by decide, by decide⟩, rfl⟩ ?F
    intro w mg fa h Y G hmg0
    obtain ⟨K, KX, c⟩ := Y
    have hmg : mg ("law" : PySem.Str) = some (.ref fa) := by
      have e : (HandSHeadRun.topDef (PySem.W.OpenLaw.row PySem.Challenge.rw_searchloops_k02_rows_made).prog 18).name = ("law" : PySem.Str) := by kernel_rfl
      rw [← e]
      exact hmg0
    exact Pf.fin KX (Pf.wd_mk KX G hmg c)
#print axioms PySem.Challenge.cw_searchloops_k02_rows_made_holds
